/- spec.CountHomomorphisms, as a pure function. -/
import Derived.Test.YtcombgcjgdkbiaaProg
import Derived.Test.YtcombgcjgdkbiaaSx9
import Derived.Test.YtcombgcjgdkbiaaQ61
set_option linter.unusedVariables false
namespace Go.Proofs.Ytcombgcjgdkbiaa.G
open Go Go.Sx Go.Proofs

def spec_CountHomomorphisms.b0 (x1 : Int) (x3 : Int) : Int × Int → Option (LB (Int × Int)) := fun p => match p with | (x5, x6) => (bif (decide (x6 < x1)) then some (.next ((w64 (x5 * x3)), (w64 (x6 + 1)))) else some (.brk (x5, x6)))

def spec_CountHomomorphisms.b1 (x1 : Int) (x3 : Int) : (Nat → Int) × Int × Int → Option (LB ((Nat → Int) × Int × Int)) := fun p => match p with | (y1, x9, x10) => (bif (decide (x10 < x1)) then nz x3 (chk x10 6 (some (.next ((upd y1 x10.toNat (Int.tmod x9 x3)), (w64 (Int.tdiv x9 x3)), (w64 (x10 + 1)))))) else some (.brk (y1, x9, x10)))

def spec_CountHomomorphisms.b2 (x1 : Int) (x12 : Int) (x2 : Nat → UInt8) (y1 : Nat → Int) (x4 : Nat → UInt8) : Bool × Int → Option (LB (Bool × Int)) := fun p => match p with | (x13, x14) => (bif ((decide (x14 < x1)) && x13) then chk x12 6 (chk x14 6 (chk ((x2 (x12.toNat * 6 + x14.toNat)).toNat : Int) 6 (chk (y1 x12.toNat) 6 (chk (y1 x14.toNat) 6 (some (.next (((y1 ((x2 (x12.toNat * 6 + x14.toNat)).toNat)) == ((x4 ((y1 x12.toNat).toNat * 6 + (y1 x14.toNat).toNat)).toNat : Int)), (w64 (x14 + 1))))))))) else some (.brk (x13, x14)))

def spec_CountHomomorphisms.b3 (x1 : Int) (x2 : Nat → UInt8) (y1 : Nat → Int) (x4 : Nat → UInt8) : Bool × Int → Option (LB (Bool × Int)) := fun p => match p with | (x11, x12) => (bif ((decide (x12 < x1)) && x11) then (loop1 (spec_CountHomomorphisms.b2 x1 x12 x2 y1 x4) (x11, 0)).bind (fun p => match p with | (x13, x14) => some (.next (x13, (w64 (x12 + 1))))) else some (.brk (x11, x12)))

def spec_CountHomomorphisms.b4 (x5 : Int) (x1 : Int) (x3 : Int) (x2 : Nat → UInt8) (x4 : Nat → UInt8) : Int × Int → Option (LB (Int × Int)) := fun p => match p with | (x7, x8) => (bif (decide (x8 < x5)) then (loop1 (spec_CountHomomorphisms.b1 x1 x3) ((fun _ => 0), x8, 0)).bind (fun p => match p with | (y1, x9, x10) => (loop1 (spec_CountHomomorphisms.b3 x1 x2 y1 x4) (true, 0)).bind (fun p => match p with | (x11, x12) => ((bif x11 then some (w64 (x7 + 1)) else some x7)).bind (fun x15 => some (.next (x15, (w64 (x8 + 1))))))) else some (.brk (x7, x8)))

def spec_CountHomomorphisms.f (x1 : Int) (x2 : Nat → UInt8) (x3 : Int) (x4 : Nat → UInt8) : Option (Int × Int) := (G.spec_l06Is.f x1 x2).bind (fun r_1 => (bif (!r_1) then some true else (G.spec_l06Is.f x3 x4).bind (fun r_2 => some (!r_2))).bind (fun b_3 => (bif b_3 then some (0, 1) else (loop1 (spec_CountHomomorphisms.b0 x1 x3) (1, 0)).bind (fun p => match p with | (x5, x6) => (loop1 (spec_CountHomomorphisms.b4 x5 x1 x3 x2 x4) (0, 0)).bind (fun p => match p with | (x7, x8) => some (x7, 0))))))

def spec_CountHomomorphisms.R (r : Int × Int) (v : Value) (L : List Asn) : Prop := v = .tuple #[.int .i64 r.1, .int .i64 r.2] ∧ L = []

set_option maxRecDepth 100000 in
set_option maxHeartbeats 4000000 in
theorem spec_CountHomomorphisms.calls (w : World) (x1 : Int) (x2 : Nat → UInt8) (x3 : Int) (x4 : Nat → UInt8) :
    ∀ r, spec_CountHomomorphisms.f x1 x2 x3 x4 = some r → Calls Try.prog 26 #[sval [.one (.int .i64 x1), .arr 36 (enf u8v x2)], sval [.one (.int .i64 x3), .arr 36 (enf u8v x4)]] w (Ret w (spec_CountHomomorphisms.R r)) := by

  refine calls_T (n := 99) (Γ := [(0, sval [.one (.int .i64 x1), .arr 36 (enf u8v x2)]), (1, sval [.one (.int .i64 x3), .arr 36 (enf u8v x4)])]) (R := spec_CountHomomorphisms.R) Try.func26 rfl rfl (Nat.le_of_ble_eq_true rfl) ⟨rfl, rfl, trivial⟩ ?_
  unfold spec_CountHomomorphisms.f
  refine TC.seq ?_
  refine TC.region ?_
  refine TL.box [.one (.int .i64 x1), .arr 36 (enf u8v x2)] rfl rfl rfl rfl fun b_1 => ?_
  refine TL.box [.one (.int .i64 x3), .arr 36 (enf u8v x4)] rfl rfl rfl rfl fun b_2 => ?_
  refine TL.assign rfl rfl (v := .int .i64 0) rfl ?_
  refine TL.assign rfl rfl (v := .int .i64 0) rfl ?_
  refine TL.done ?_
  refine TC.seq ?_
  refine TC.seq ?_
  refine TC.region ?_
  refine TL.loadM 0 2 (Src.box 1 rfl) Try.isAgg37 Try.sizeOf37 (mid := [.one (.int .i64 x1), .arr 36 (enf u8v x2)]) rfl rfl rfl rfl rfl rfl ?_
  refine TL.call (R := G.spec_l06Is.R) Try.call61 rfl rfl rfl (fun w hS => G.spec_l06Is.calls w x1 x2) ?_
  rintro r_1 _ _ ⟨rfl, rfl⟩
  refine TL.not r_1 rfl rfl rfl ?_
  refine TL.move rfl rfl (v := .bool (!r_1)) rfl ?_
  refine TL.cutJ (σ := Bool) (γ := Unit) (Γ' := fun b_3 _ => [(23, .bool b_3), (0, sval [.one (.int .i64 x1), .arr 36 (enf u8v x2)]), (1, sval [.one (.int .i64 x3), .arr 36 (enf u8v x4)]), (2, bp b_1 0), (3, bp b_2 0), (4, .int .i64 0), (5, .int .i64 0), (16, sval [.one (.int .i64 x1), .arr 36 (enf u8v x2)]), (17, .bool r_1), (18, .bool (!r_1)), (19, .bool (!r_1))]) (L' := fun _ _ => [box b_2 37 [.one (.int .i64 x3), .arr 36 (enf u8v x4)], box b_1 37 [.one (.int .i64 x1), .arr 36 (enf u8v x2)]]) 4 ?_ ?_
  · refine TL.ifb (t := 19) (b := (!r_1)) rfl (fun c1 => ?_) (fun c2 => ?_)
    · refine TL.skip rfl rfl (by decide) ?_
      refine TL.skip rfl rfl (by decide) ?_
      refine TL.skip rfl rfl (by decide) ?_
      refine TL.pick rfl rfl (b := true) rfl (r := .bool true) rfl ?_
      refine TL.done ?_
      exact TC.nrm (true) () ⟨rfl, rfl, rfl, rfl, rfl, rfl, rfl, rfl, rfl, rfl, (by rw [c1]; rfl), trivial⟩ [0, 0] rfl
    · refine TL.loadM 0 2 (Src.box 0 rfl) Try.isAgg37 Try.sizeOf37 (mid := [.one (.int .i64 x3), .arr 36 (enf u8v x4)]) rfl rfl rfl rfl rfl rfl ?_
      refine TL.call (R := G.spec_l06Is.R) Try.call61 rfl rfl rfl (fun w hS => G.spec_l06Is.calls w x3 x4) ?_
      rintro r_2 _ _ ⟨rfl, rfl⟩
      refine TL.not r_2 rfl rfl rfl ?_
      refine TL.pick rfl rfl (b := false) rfl (r := .bool (!r_2)) rfl ?_
      refine TL.done ?_
      exact TC.nrm ((!r_2)) () ⟨rfl, rfl, rfl, rfl, rfl, rfl, rfl, rfl, rfl, rfl, (by rw [c2]; rfl), trivial⟩ [0, 0] rfl
  · rintro b_3 _
    refine TL.done ?_
    refine TC.cond (b := b_3) rfl (fun c3 => ?_) (fun c4 => ?_)
    · refine TC.seq ?_
      refine TC.region ?_
      refine TL.assign rfl rfl (v := .int .i64 0) rfl ?_
      refine TL.assign rfl rfl (v := .int .i64 1) rfl ?_
      refine TL.done ?_
      exact TC.retF (Fin.body (fin2 (.inr rfl) rfl (.tmp rfl) (.tmp rfl) [] rfl ⟨rfl, rfl⟩))
    · refine TC.skip ?_
      refine TC.seq ?_
      refine TC.region ?_
      refine TL.assign rfl rfl (v := .int .i64 1) rfl ?_
      refine TL.assign rfl rfl (v := .int .i64 0) rfl ?_
      refine TL.done ?_
      refine TC.seq ?_
      refine TC.seq ?_
      refine TC.region ?_
      refine TL.assign rfl rfl (v := .int .i64 0) rfl ?_
      refine TL.done ?_
      refine TC.loop1 (σ := Int × Int) (γ := Unit) (Γ' := (fun p q => match p, q with | (x5, x6), _ => [(2, bp b_1 0), (3, bp b_2 0), (6, .int .i64 x5), (7, .int .i64 0), (8, .int .i64 x6)])) (L' := (fun p q => match p, q with | (x5, x6), _ => [box b_1 37 [.one (.int .i64 x1), .arr 36 (enf u8v x2)], box b_2 37 [.one (.int .i64 x3), .arr 36 (enf u8v x4)]])) (Γb := (fun p q => match p, q with | (x5, x6), _ => [(2, bp b_1 0), (3, bp b_2 0), (6, .int .i64 x5), (7, .int .i64 0), (8, .int .i64 x6)])) (Lb := (fun p q => match p, q with | (x5, x6), _ => [box b_1 37 [.one (.int .i64 x1), .arr 36 (enf u8v x2)], box b_2 37 [.one (.int .i64 x3), .arr 36 (enf u8v x4)]])) ((1, 0)) (()) ⟨rfl, rfl, rfl, rfl, rfl, trivial⟩ [1, 0] rfl ?_ ?_
      · rintro ⟨x5, x6⟩ _
        refine TC.seq ?_
        refine TC.seq ?_
        refine TC.region ?_
        refine TL.move rfl rfl (v := .int .i64 x6) rfl ?_
        refine TL.fa Try.underlying37 rfl Try.sizeOf2 rfl 0 rfl rfl rfl rfl ?_
        refine TL.load1 0 (Src.box 0 rfl) Try.isAgg2 rfl rfl rfl rfl rfl ?_
        refine TL.bin .i64 x6 x1 rfl rfl rfl rfl (v := .bool (decide (x6 < x1))) rfl ?_
        refine TL.done ?_
        refine TC.cond (b := (decide (x6 < x1))) rfl (fun c5 => ?_) (fun c6 => ?_)
        · refine TC.skip ?_
          refine TC.seq ?_
          refine TC.block (NoEx.loop1 rfl) ?_
          refine TC.region ?_
          refine TL.move rfl rfl (v := .int .i64 x5) rfl ?_
          refine TL.fa Try.underlying37 rfl Try.sizeOf2 rfl 0 rfl rfl rfl rfl ?_
          refine TL.load1 0 (Src.box 1 rfl) Try.isAgg2 rfl rfl rfl rfl rfl ?_
          refine TL.bin .i64 x5 x3 rfl rfl rfl rfl (v := .int .i64 (w64 (x5 * x3))) rfl ?_
          refine TL.assign rfl rfl (v := .int .i64 (w64 (x5 * x3))) rfl ?_
          refine TL.done ?_
          refine TC.region ?_
          refine TL.move rfl rfl (v := .int .i64 x6) rfl ?_
          refine TL.bin .i64 x6 1 rfl rfl rfl rfl (v := .int .i64 (w64 (x6 + 1))) rfl ?_
          refine TL.assign rfl rfl (v := .int .i64 (w64 (x6 + 1))) rfl ?_
          refine TL.done ?_
          exact TC.next1 (((w64 (x5 * x3)), (w64 (x6 + 1)))) (()) ⟨rfl, rfl, rfl, rfl, rfl, trivial⟩ [0, 0] rfl
        · exact TC.brk1 ((x5, x6)) (()) ⟨rfl, rfl, rfl, rfl, rfl, trivial⟩ [0, 0] rfl
      · rintro ⟨x5, x6⟩ _
        refine TC.seq ?_
        refine TC.seq ?_
        refine TC.region ?_
        refine TL.assign rfl rfl (v := .int .i64 0) rfl ?_
        refine TL.done ?_
        refine TC.loop1 (σ := Int × Int) (γ := Unit) (Γ' := (fun p q => match p, q with | (x7, x8), _ => [(2, bp b_1 0), (3, bp b_2 0), (6, .int .i64 x5), (7, .int .i64 x7), (9, .int .i64 x8)])) (L' := (fun p q => match p, q with | (x7, x8), _ => [box b_1 37 [.one (.int .i64 x1), .arr 36 (enf u8v x2)], box b_2 37 [.one (.int .i64 x3), .arr 36 (enf u8v x4)]])) (Γb := (fun p q => match p, q with | (x7, x8), _ => [(2, bp b_1 0), (3, bp b_2 0), (6, .int .i64 x5), (7, .int .i64 x7), (9, .int .i64 x8)])) (Lb := (fun p q => match p, q with | (x7, x8), _ => [box b_1 37 [.one (.int .i64 x1), .arr 36 (enf u8v x2)], box b_2 37 [.one (.int .i64 x3), .arr 36 (enf u8v x4)]])) ((0, 0)) (()) ⟨rfl, rfl, rfl, rfl, rfl, trivial⟩ [0, 0] rfl ?_ ?_
        · rintro ⟨x7, x8⟩ _
          refine TC.seq ?_
          refine TC.seq ?_
          refine TC.region ?_
          refine TL.move rfl rfl (v := .int .i64 x8) rfl ?_
          refine TL.move rfl rfl (v := .int .i64 x5) rfl ?_
          refine TL.bin .i64 x8 x5 rfl rfl rfl rfl (v := .bool (decide (x8 < x5))) rfl ?_
          refine TL.done ?_
          refine TC.cond (b := (decide (x8 < x5))) rfl (fun c7 => ?_) (fun c8 => ?_)
          · refine TC.skip ?_
            refine TC.seq ?_
            refine TC.block (NoEx.loop1 rfl) ?_
            refine TC.seq ?_
            refine TC.region ?_
            refine TL.buildA (segs0 := [.arr 6 (enf i64v (fun _ => 0))]) (segs := [.arr 6 (enf i64v (fun _ => 0))]) Try.underlying71 Try.sizeOf2 Try.zeroValue71 rfl [] rfl rfl rfl rfl ?_
            refine TL.move rfl rfl (v := .int .i64 x8) rfl ?_
            refine TL.alloc [.arr 6 (enf i64v (fun _ => 0))] rfl rfl Try.zeroValue71 rfl fun b_4 => ?_
            refine TL.stM (news := [.arr 6 (enf i64v (fun _ => 0))]) 0 0 1 rfl Try.sizeOf71 (ones_arr (fun _ => rfl) ones_nil) rfl rfl rfl rfl rfl rfl ?_
            refine TL.assign rfl rfl (v := .int .i64 x8) rfl ?_
            refine TL.done ?_
            refine TC.seq ?_
            refine TC.seq ?_
            refine TC.region ?_
            refine TL.assign rfl rfl (v := .int .i64 0) rfl ?_
            refine TL.done ?_
            refine TC.loop1 (σ := (Nat → Int) × Int × Int) (γ := Unit) (Γ' := (fun p q => match p, q with | (y1, x9, x10), _ => [(2, bp b_1 0), (3, bp b_2 0), (6, .int .i64 x5), (7, .int .i64 x7), (9, .int .i64 x8), (10, bp b_4 0), (11, .int .i64 x9), (12, .int .i64 x10)])) (L' := (fun p q => match p, q with | (y1, x9, x10), _ => [box b_1 37 [.one (.int .i64 x1), .arr 36 (enf u8v x2)], box b_2 37 [.one (.int .i64 x3), .arr 36 (enf u8v x4)], box b_4 71 [.arr 6 (enf i64v y1)]])) (Γb := (fun p q => match p, q with | (y1, x9, x10), _ => [(2, bp b_1 0), (3, bp b_2 0), (6, .int .i64 x5), (7, .int .i64 x7), (9, .int .i64 x8), (10, bp b_4 0), (11, .int .i64 x9), (12, .int .i64 x10)])) (Lb := (fun p q => match p, q with | (y1, x9, x10), _ => [box b_1 37 [.one (.int .i64 x1), .arr 36 (enf u8v x2)], box b_2 37 [.one (.int .i64 x3), .arr 36 (enf u8v x4)], box b_4 71 [.arr 6 (enf i64v y1)]])) (((fun _ => 0), x8, 0)) (()) ⟨rfl, rfl, rfl, rfl, rfl, rfl, rfl, rfl, trivial⟩ [1, 1, 0] rfl ?_ ?_
            · rintro ⟨y1, x9, x10⟩ _
              refine TC.seq ?_
              refine TC.seq ?_
              refine TC.region ?_
              refine TL.move rfl rfl (v := .int .i64 x10) rfl ?_
              refine TL.fa Try.underlying37 rfl Try.sizeOf2 rfl 0 rfl rfl rfl rfl ?_
              refine TL.load1 0 (Src.box 0 rfl) Try.isAgg2 rfl rfl rfl rfl rfl ?_
              refine TL.bin .i64 x10 x1 rfl rfl rfl rfl (v := .bool (decide (x10 < x1))) rfl ?_
              refine TL.done ?_
              refine TC.cond (b := (decide (x10 < x1))) rfl (fun c9 => ?_) (fun c10 => ?_)
              · refine TC.skip ?_
                refine TC.seq ?_
                refine TC.block (NoEx.loop1 rfl) ?_
                refine TC.seq ?_
                refine TC.region ?_
                refine TL.move rfl rfl (v := .int .i64 x10) rfl ?_
                refine TL.move rfl rfl (v := .int .i64 x9) rfl ?_
                refine TL.fa Try.underlying37 rfl Try.sizeOf2 rfl 0 rfl rfl rfl rfl ?_
                refine TL.load1 0 (Src.box 1 rfl) Try.isAgg2 rfl rfl rfl rfl rfl ?_
                refine TL.nz fun z1 => ?_
                refine TL.rem .i64 x9 x3 z1 rfl rfl rfl rfl ?_
                refine TL.chk fun h1 => ?_
                refine TL.ixa x10 x10.toNat h1 Try.underlying71 Try.sizeOf2 rfl rfl rfl rfl (by omega) ?_
                refine TL.stA (e := i64v) (z := (Int.tmod x9 x3)) 2 0 x10.toNat rfl Try.sizeOf2 rfl (by omega) (s := 0) rfl (by omega) rfl rfl rfl rfl rfl ?_
                refine TL.done ?_
                refine TC.region ?_
                refine TL.move rfl rfl (v := .int .i64 x9) rfl ?_
                refine TL.fa Try.underlying37 rfl Try.sizeOf2 rfl 0 rfl rfl rfl rfl ?_
                refine TL.load1 0 (Src.box 1 rfl) Try.isAgg2 rfl rfl rfl rfl rfl ?_
                refine TL.quo .i64 x9 x3 z1 rfl rfl rfl rfl ?_
                refine TL.assign rfl rfl (v := .int .i64 (w64 (Int.tdiv x9 x3))) rfl ?_
                refine TL.done ?_
                refine TC.region ?_
                refine TL.move rfl rfl (v := .int .i64 x10) rfl ?_
                refine TL.bin .i64 x10 1 rfl rfl rfl rfl (v := .int .i64 (w64 (x10 + 1))) rfl ?_
                refine TL.assign rfl rfl (v := .int .i64 (w64 (x10 + 1))) rfl ?_
                refine TL.done ?_
                exact TC.next1 (((upd y1 x10.toNat (Int.tmod x9 x3)), (w64 (Int.tdiv x9 x3)), (w64 (x10 + 1)))) (()) ⟨rfl, rfl, rfl, rfl, rfl, rfl, rfl, rfl, trivial⟩ [0, 0, 0] rfl
              · exact TC.brk1 ((y1, x9, x10)) (()) ⟨rfl, rfl, rfl, rfl, rfl, rfl, rfl, rfl, trivial⟩ [0, 0, 0] rfl
            · rintro ⟨y1, x9, x10⟩ _
              refine TC.seq ?_
              refine TC.region ?_
              refine TL.assign rfl rfl (v := .bool true) rfl ?_
              refine TL.done ?_
              refine TC.seq ?_
              refine TC.seq ?_
              refine TC.region ?_
              refine TL.assign rfl rfl (v := .int .i64 0) rfl ?_
              refine TL.done ?_
              refine TC.loop1 (σ := Bool × Int) (γ := Unit) (Γ' := (fun p q => match p, q with | (x11, x12), _ => [(2, bp b_1 0), (3, bp b_2 0), (6, .int .i64 x5), (7, .int .i64 x7), (9, .int .i64 x8), (10, bp b_4 0), (13, .bool x11), (14, .int .i64 x12)])) (L' := (fun p q => match p, q with | (x11, x12), _ => [box b_1 37 [.one (.int .i64 x1), .arr 36 (enf u8v x2)], box b_2 37 [.one (.int .i64 x3), .arr 36 (enf u8v x4)], box b_4 71 [.arr 6 (enf i64v y1)]])) (Γb := (fun p q => match p, q with | (x11, x12), _ => [(2, bp b_1 0), (3, bp b_2 0), (6, .int .i64 x5), (7, .int .i64 x7), (9, .int .i64 x8), (10, bp b_4 0), (13, .bool x11), (14, .int .i64 x12)])) (Lb := (fun p q => match p, q with | (x11, x12), _ => [box b_1 37 [.one (.int .i64 x1), .arr 36 (enf u8v x2)], box b_2 37 [.one (.int .i64 x3), .arr 36 (enf u8v x4)], box b_4 71 [.arr 6 (enf i64v y1)]])) ((true, 0)) (()) ⟨rfl, rfl, rfl, rfl, rfl, rfl, rfl, rfl, trivial⟩ [0, 0, 0] rfl ?_ ?_
              · rintro ⟨x11, x12⟩ _
                refine TC.seq ?_
                refine TC.seq ?_
                refine TC.region ?_
                refine TL.move rfl rfl (v := .int .i64 x12) rfl ?_
                refine TL.fa Try.underlying37 rfl Try.sizeOf2 rfl 0 rfl rfl rfl rfl ?_
                refine TL.load1 0 (Src.box 0 rfl) Try.isAgg2 rfl rfl rfl rfl rfl ?_
                refine TL.bin .i64 x12 x1 rfl rfl rfl rfl (v := .bool (decide (x12 < x1))) rfl ?_
                refine TL.move rfl rfl (v := .bool (decide (x12 < x1))) rfl ?_
                refine TL.cutU 2 [(63, .bool ((decide (x12 < x1)) && x11)), (2, bp b_1 0), (3, bp b_2 0), (6, .int .i64 x5), (7, .int .i64 x7), (9, .int .i64 x8), (10, bp b_4 0), (13, .bool x11), (14, .int .i64 x12), (57, .int .i64 x12), (58, bp b_1 0), (59, .int .i64 x1), (60, .bool (decide (x12 < x1))), (61, .bool (decide (x12 < x1)))] [box b_1 37 [.one (.int .i64 x1), .arr 36 (enf u8v x2)], box b_2 37 [.one (.int .i64 x3), .arr 36 (enf u8v x4)], box b_4 71 [.arr 6 (enf i64v y1)]] ?_ ?_
                · refine TL.cases (t := 61) (b := (decide (x12 < x1))) rfl (fun c11 => ?_) (fun c12 => ?_)
                  · refine TL.move rfl rfl (v := .bool x11) rfl ?_
                    refine TL.pick rfl rfl (b := true) rfl (r := .bool x11) rfl ?_
                    refine TL.done ?_
                    exact TC.nrm () () ⟨(by rw [c11]; rfl), rfl, rfl, rfl, rfl, rfl, rfl, rfl, rfl, rfl, rfl, rfl, rfl, (by rw [c11]; rfl), trivial⟩ [0, 0, 0] rfl
                  · refine TL.skip rfl rfl (by decide) ?_
                    refine TL.pick rfl rfl (b := false) rfl (r := .bool false) rfl ?_
                    refine TL.done ?_
                    exact TC.nrm () () ⟨(by rw [c12]; rfl), rfl, rfl, rfl, rfl, rfl, rfl, rfl, rfl, rfl, rfl, rfl, rfl, (by rw [c12]; rfl), trivial⟩ [0, 0, 0] rfl
                · refine TL.done ?_
                  refine TC.cond (b := ((decide (x12 < x1)) && x11)) rfl (fun c13 => ?_) (fun c14 => ?_)
                  · refine TC.skip ?_
                    refine TC.seq ?_
                    refine TC.block (NoEx.loop1 rfl) ?_
                    refine TC.seq ?_
                    refine TC.region ?_
                    refine TL.assign rfl rfl (v := .int .i64 0) rfl ?_
                    refine TL.done ?_
                    refine TC.loop1 (σ := Bool × Int) (γ := Unit) (Γ' := (fun p q => match p, q with | (x13, x14), _ => [(2, bp b_1 0), (3, bp b_2 0), (6, .int .i64 x5), (7, .int .i64 x7), (9, .int .i64 x8), (10, bp b_4 0), (13, .bool x13), (14, .int .i64 x12), (15, .int .i64 x14)])) (L' := (fun p q => match p, q with | (x13, x14), _ => [box b_1 37 [.one (.int .i64 x1), .arr 36 (enf u8v x2)], box b_2 37 [.one (.int .i64 x3), .arr 36 (enf u8v x4)], box b_4 71 [.arr 6 (enf i64v y1)]])) (Γb := (fun p q => match p, q with | (x13, x14), _ => [(2, bp b_1 0), (3, bp b_2 0), (6, .int .i64 x5), (7, .int .i64 x7), (9, .int .i64 x8), (10, bp b_4 0), (13, .bool x13), (14, .int .i64 x12), (15, .int .i64 x14)])) (Lb := (fun p q => match p, q with | (x13, x14), _ => [box b_1 37 [.one (.int .i64 x1), .arr 36 (enf u8v x2)], box b_2 37 [.one (.int .i64 x3), .arr 36 (enf u8v x4)], box b_4 71 [.arr 6 (enf i64v y1)]])) ((x11, 0)) (()) ⟨rfl, rfl, rfl, rfl, rfl, rfl, rfl, rfl, rfl, trivial⟩ [0, 0, 0] rfl ?_ ?_
                    · rintro ⟨x13, x14⟩ _
                      refine TC.seq ?_
                      refine TC.seq ?_
                      refine TC.region ?_
                      refine TL.move rfl rfl (v := .int .i64 x14) rfl ?_
                      refine TL.fa Try.underlying37 rfl Try.sizeOf2 rfl 0 rfl rfl rfl rfl ?_
                      refine TL.load1 0 (Src.box 0 rfl) Try.isAgg2 rfl rfl rfl rfl rfl ?_
                      refine TL.bin .i64 x14 x1 rfl rfl rfl rfl (v := .bool (decide (x14 < x1))) rfl ?_
                      refine TL.move rfl rfl (v := .bool (decide (x14 < x1))) rfl ?_
                      refine TL.cutU 2 [(72, .bool ((decide (x14 < x1)) && x13)), (2, bp b_1 0), (3, bp b_2 0), (6, .int .i64 x5), (7, .int .i64 x7), (9, .int .i64 x8), (10, bp b_4 0), (13, .bool x13), (14, .int .i64 x12), (15, .int .i64 x14), (66, .int .i64 x14), (67, bp b_1 0), (68, .int .i64 x1), (69, .bool (decide (x14 < x1))), (70, .bool (decide (x14 < x1)))] [box b_1 37 [.one (.int .i64 x1), .arr 36 (enf u8v x2)], box b_2 37 [.one (.int .i64 x3), .arr 36 (enf u8v x4)], box b_4 71 [.arr 6 (enf i64v y1)]] ?_ ?_
                      · refine TL.cases (t := 70) (b := (decide (x14 < x1))) rfl (fun c15 => ?_) (fun c16 => ?_)
                        · refine TL.move rfl rfl (v := .bool x13) rfl ?_
                          refine TL.pick rfl rfl (b := true) rfl (r := .bool x13) rfl ?_
                          refine TL.done ?_
                          exact TC.nrm () () ⟨(by rw [c15]; rfl), rfl, rfl, rfl, rfl, rfl, rfl, rfl, rfl, rfl, rfl, rfl, rfl, rfl, (by rw [c15]; rfl), trivial⟩ [0, 0, 0] rfl
                        · refine TL.skip rfl rfl (by decide) ?_
                          refine TL.pick rfl rfl (b := false) rfl (r := .bool false) rfl ?_
                          refine TL.done ?_
                          exact TC.nrm () () ⟨(by rw [c16]; rfl), rfl, rfl, rfl, rfl, rfl, rfl, rfl, rfl, rfl, rfl, rfl, rfl, rfl, (by rw [c16]; rfl), trivial⟩ [0, 0, 0] rfl
                      · refine TL.done ?_
                        refine TC.cond (b := ((decide (x14 < x1)) && x13)) rfl (fun c17 => ?_) (fun c18 => ?_)
                        · refine TC.skip ?_
                          refine TC.seq ?_
                          refine TC.block (NoEx.loop1 rfl) ?_
                          refine TC.wk (Γ' := [(2, bp b_1 0), (3, bp b_2 0), (6, .int .i64 x5), (7, .int .i64 x7), (9, .int .i64 x8), (10, bp b_4 0), (14, .int .i64 x12), (15, .int .i64 x14), (66, .int .i64 x14), (67, bp b_1 0), (68, .int .i64 x1), (69, .bool (decide (x14 < x1))), (70, .bool (decide (x14 < x1))), (72, .bool ((decide (x14 < x1)) && x13))]) ⟨rfl, rfl, rfl, rfl, rfl, rfl, rfl, rfl, rfl, rfl, rfl, rfl, rfl, rfl, trivial⟩ ?_
                          refine TC.chk fun h2 => ?_
                          refine TC.chk fun h3 => ?_
                          refine TC.chk fun h4 => ?_
                          refine TC.chk fun h5 => ?_
                          refine TC.chk fun h6 => ?_
                          refine TC.draw [.int .i64 x12, .int .i64 x14, bp b_1 1, bp b_1 (1 + x12.toNat * 6), bp b_1 (1 + (x12.toNat * 6 + x14.toNat)), u8v (x2 (x12.toNat * 6 + x14.toNat)), bp b_4 ((x2 (x12.toNat * 6 + x14.toNat)).toNat), .int .i64 (y1 ((x2 (x12.toNat * 6 + x14.toNat)).toNat)), .int .i64 x12, bp b_4 x12.toNat, .int .i64 (y1 x12.toNat), .int .i64 x14, bp b_4 x14.toNat, .int .i64 (y1 x14.toNat), bp b_2 1, bp b_2 (1 + (y1 x12.toNat).toNat * 6), bp b_2 (1 + ((y1 x12.toNat).toNat * 6 + (y1 x14.toNat).toNat)), u8v (x4 ((y1 x12.toNat).toNat * 6 + (y1 x14.toNat).toNat)), .int .i64 ((x4 ((y1 x12.toNat).toNat * 6 + (y1 x14.toNat).toNat)).toNat : Int), .bool ((y1 ((x2 (x12.toNat * 6 + x14.toNat)).toNat)) == ((x4 ((y1 x12.toNat).toNat * 6 + (y1 x14.toNat).toNat)).toNat : Int)), .bool ((y1 ((x2 (x12.toNat * 6 + x14.toNat)).toNat)) == ((x4 ((y1 x12.toNat).toNat * 6 + (y1 x14.toNat).toNat)).toNat : Int))] 21 [box b_1 37 [.one (.int .i64 x1), .arr 36 (enf u8v x2)], box b_2 37 [.one (.int .i64 x3), .arr 36 (enf u8v x4)], box b_4 71 [.arr 6 (enf i64v y1)]] (by kernel_rfl) rfl rfl rfl rfl ?_ ?_
                          · refine ⟨?_, ?_, ?_, ?_, ?_, ?_, ?_, ?_, ?_, ?_, ?_, ?_, ?_, ?_, ?_, ?_, ?_, ?_, ?_, ?_, ?_, trivial⟩
                            · refine TL.move rfl rfl (v := .int .i64 x12) rfl ?_
                              refine TL.done ?_
                              exact TC.nrm () () ⟨rfl, trivial⟩ [0, 0, 0] rfl
                            · refine TL.move rfl rfl (v := .int .i64 x14) rfl ?_
                              refine TL.done ?_
                              exact TC.nrm () () ⟨rfl, trivial⟩ [0, 0, 0] rfl
                            · refine TL.fa Try.underlying37 rfl Try.sizeOf33 rfl 1 rfl rfl rfl rfl ?_
                              refine TL.done ?_
                              exact TC.nrm () () ⟨rfl, trivial⟩ [0, 0, 0] rfl
                            · refine TL.ixa x12 (1 + x12.toNat * 6) h2 Try.underlying33 Try.sizeOf32 rfl rfl rfl rfl (by omega) ?_
                              refine TL.done ?_
                              exact TC.nrm () () ⟨rfl, trivial⟩ [0, 0, 0] rfl
                            · refine TL.ixa x14 (1 + (x12.toNat * 6 + x14.toNat)) h3 Try.underlying32 Try.sizeOf5 rfl rfl rfl rfl (by omega) ?_
                              refine TL.done ?_
                              exact TC.nrm () () ⟨rfl, trivial⟩ [0, 0, 0] rfl
                            · refine TL.loadA (x12.toNat * 6 + x14.toNat) 1 (Src.box 0 rfl) Try.isAgg5 rfl (by omega) (v := u8v (x2 (x12.toNat * 6 + x14.toNat))) rfl (st := 1) rfl (by omega) rfl rfl rfl ?_
                              refine TL.done ?_
                              exact TC.nrm () () ⟨rfl, trivial⟩ [0, 0, 0] rfl
                            · refine TL.ixa ((x2 (x12.toNat * 6 + x14.toNat)).toNat : Int) ((x2 (x12.toNat * 6 + x14.toNat)).toNat) h4 Try.underlying71 Try.sizeOf2 rfl rfl rfl rfl (by omega) ?_
                              refine TL.done ?_
                              exact TC.nrm () () ⟨rfl, trivial⟩ [0, 0, 0] rfl
                            · refine TL.loadA ((x2 (x12.toNat * 6 + x14.toNat)).toNat) 0 (Src.box 2 rfl) Try.isAgg2 rfl (by omega) (v := .int .i64 (y1 ((x2 (x12.toNat * 6 + x14.toNat)).toNat))) rfl (st := 0) rfl (by omega) rfl rfl rfl ?_
                              refine TL.done ?_
                              exact TC.nrm () () ⟨rfl, trivial⟩ [0, 0, 0] rfl
                            · refine TL.move rfl rfl (v := .int .i64 x12) rfl ?_
                              refine TL.done ?_
                              exact TC.nrm () () ⟨rfl, trivial⟩ [0, 0, 0] rfl
                            · refine TL.ixa x12 x12.toNat h2 Try.underlying71 Try.sizeOf2 rfl rfl rfl rfl (by omega) ?_
                              refine TL.done ?_
                              exact TC.nrm () () ⟨rfl, trivial⟩ [0, 0, 0] rfl
                            · refine TL.loadA x12.toNat 0 (Src.box 2 rfl) Try.isAgg2 rfl (by omega) (v := .int .i64 (y1 x12.toNat)) rfl (st := 0) rfl (by omega) rfl rfl rfl ?_
                              refine TL.done ?_
                              exact TC.nrm () () ⟨rfl, trivial⟩ [0, 0, 0] rfl
                            · refine TL.move rfl rfl (v := .int .i64 x14) rfl ?_
                              refine TL.done ?_
                              exact TC.nrm () () ⟨rfl, trivial⟩ [0, 0, 0] rfl
                            · refine TL.ixa x14 x14.toNat h3 Try.underlying71 Try.sizeOf2 rfl rfl rfl rfl (by omega) ?_
                              refine TL.done ?_
                              exact TC.nrm () () ⟨rfl, trivial⟩ [0, 0, 0] rfl
                            · refine TL.loadA x14.toNat 0 (Src.box 2 rfl) Try.isAgg2 rfl (by omega) (v := .int .i64 (y1 x14.toNat)) rfl (st := 0) rfl (by omega) rfl rfl rfl ?_
                              refine TL.done ?_
                              exact TC.nrm () () ⟨rfl, trivial⟩ [0, 0, 0] rfl
                            · refine TL.fa Try.underlying37 rfl Try.sizeOf33 rfl 1 rfl rfl rfl rfl ?_
                              refine TL.done ?_
                              exact TC.nrm () () ⟨rfl, trivial⟩ [0, 0, 0] rfl
                            · refine TL.ixa (y1 x12.toNat) (1 + (y1 x12.toNat).toNat * 6) h5 Try.underlying33 Try.sizeOf32 rfl rfl rfl rfl (by omega) ?_
                              refine TL.done ?_
                              exact TC.nrm () () ⟨rfl, trivial⟩ [0, 0, 0] rfl
                            · refine TL.ixa (y1 x14.toNat) (1 + ((y1 x12.toNat).toNat * 6 + (y1 x14.toNat).toNat)) h6 Try.underlying32 Try.sizeOf5 rfl rfl rfl rfl (by omega) ?_
                              refine TL.done ?_
                              exact TC.nrm () () ⟨rfl, trivial⟩ [0, 0, 0] rfl
                            · refine TL.loadA ((y1 x12.toNat).toNat * 6 + (y1 x14.toNat).toNat) 1 (Src.box 1 rfl) Try.isAgg5 rfl (by omega) (v := u8v (x4 ((y1 x12.toNat).toNat * 6 + (y1 x14.toNat).toNat))) rfl (st := 1) rfl (by omega) rfl rfl rfl ?_
                              refine TL.done ?_
                              exact TC.nrm () () ⟨rfl, trivial⟩ [0, 0, 0] rfl
                            · refine TL.conv .u8 .i64 ((x4 ((y1 x12.toNat).toNat * 6 + (y1 x14.toNat).toNat)).toNat : Int) _ rfl rfl rfl Try.underlying5 Try.underlying2 (v := .int .i64 ((x4 ((y1 x12.toNat).toNat * 6 + (y1 x14.toNat).toNat)).toNat : Int)) (conv_u8_i64 _) ?_
                              refine TL.done ?_
                              exact TC.nrm () () ⟨rfl, trivial⟩ [0, 0, 0] rfl
                            · refine TL.bin .i64 (y1 ((x2 (x12.toNat * 6 + x14.toNat)).toNat)) ((x4 ((y1 x12.toNat).toNat * 6 + (y1 x14.toNat).toNat)).toNat : Int) rfl rfl rfl rfl (v := .bool ((y1 ((x2 (x12.toNat * 6 + x14.toNat)).toNat)) == ((x4 ((y1 x12.toNat).toNat * 6 + (y1 x14.toNat).toNat)).toNat : Int))) rfl ?_
                              refine TL.done ?_
                              exact TC.nrm () () ⟨rfl, trivial⟩ [0, 0, 0] rfl
                            · refine TL.assign rfl rfl (v := .bool ((y1 ((x2 (x12.toNat * 6 + x14.toNat)).toNat)) == ((x4 ((y1 x12.toNat).toNat * 6 + (y1 x14.toNat).toNat)).toNat : Int))) rfl ?_
                              refine TL.done ?_
                              exact TC.nrm () () ⟨rfl, trivial⟩ [0, 0, 0] rfl
                          · refine TC.region ?_
                            refine TL.move rfl rfl (v := .int .i64 x14) rfl ?_
                            refine TL.bin .i64 x14 1 rfl rfl rfl rfl (v := .int .i64 (w64 (x14 + 1))) rfl ?_
                            refine TL.assign rfl rfl (v := .int .i64 (w64 (x14 + 1))) rfl ?_
                            refine TL.done ?_
                            exact TC.next1 ((((y1 ((x2 (x12.toNat * 6 + x14.toNat)).toNat)) == ((x4 ((y1 x12.toNat).toNat * 6 + (y1 x14.toNat).toNat)).toNat : Int)), (w64 (x14 + 1)))) (()) ⟨rfl, rfl, rfl, rfl, rfl, rfl, rfl, rfl, rfl, trivial⟩ [0, 0, 0] rfl
                        · exact TC.brk1 ((x13, x14)) (()) ⟨rfl, rfl, rfl, rfl, rfl, rfl, rfl, rfl, rfl, trivial⟩ [0, 0, 0] rfl
                    · rintro ⟨x13, x14⟩ _
                      refine TC.region ?_
                      refine TL.move rfl rfl (v := .int .i64 x12) rfl ?_
                      refine TL.bin .i64 x12 1 rfl rfl rfl rfl (v := .int .i64 (w64 (x12 + 1))) rfl ?_
                      refine TL.assign rfl rfl (v := .int .i64 (w64 (x12 + 1))) rfl ?_
                      refine TL.done ?_
                      exact TC.next1 ((x13, (w64 (x12 + 1)))) (()) ⟨rfl, rfl, rfl, rfl, rfl, rfl, rfl, rfl, trivial⟩ [0, 0, 0] rfl
                  · exact TC.brk1 ((x11, x12)) (()) ⟨rfl, rfl, rfl, rfl, rfl, rfl, rfl, rfl, trivial⟩ [0, 0, 0] rfl
              · rintro ⟨x11, x12⟩ _
                refine TC.seq ?_
                refine TC.region ?_
                refine TL.move rfl rfl (v := .bool x11) rfl ?_
                refine TL.done ?_
                refine TC.join1 (σ := Int) (γ := Unit) (Γ' := (fun x15 _ => [(2, bp b_1 0), (3, bp b_2 0), (6, .int .i64 x5), (7, .int .i64 x15), (9, .int .i64 x8)])) (L' := (fun x15 _ => [box b_1 37 [.one (.int .i64 x1), .arr 36 (enf u8v x2)], box b_2 37 [.one (.int .i64 x3), .arr 36 (enf u8v x4)]])) ?_ ?_
                · refine TC.cond (b := x11) rfl (fun c19 => ?_) (fun c20 => ?_)
                  · refine TC.region ?_
                    refine TL.move rfl rfl (v := .int .i64 x7) rfl ?_
                    refine TL.bin .i64 x7 1 rfl rfl rfl rfl (v := .int .i64 (w64 (x7 + 1))) rfl ?_
                    refine TL.assign rfl rfl (v := .int .i64 (w64 (x7 + 1))) rfl ?_
                    refine TL.done ?_
                    exact TC.nrm ((w64 (x7 + 1))) (()) ⟨rfl, rfl, rfl, rfl, rfl, trivial⟩ [0, 0] rfl
                  · refine TC.skip ?_
                    exact TC.nrm (x7) (()) ⟨rfl, rfl, rfl, rfl, rfl, trivial⟩ [0, 0] rfl
                · rintro x15 _
                  refine TC.region ?_
                  refine TL.move rfl rfl (v := .int .i64 x8) rfl ?_
                  refine TL.bin .i64 x8 1 rfl rfl rfl rfl (v := .int .i64 (w64 (x8 + 1))) rfl ?_
                  refine TL.assign rfl rfl (v := .int .i64 (w64 (x8 + 1))) rfl ?_
                  refine TL.done ?_
                  exact TC.next1 ((x15, (w64 (x8 + 1)))) (()) ⟨rfl, rfl, rfl, rfl, rfl, trivial⟩ [0, 0] rfl
          · exact TC.brk1 ((x7, x8)) (()) ⟨rfl, rfl, rfl, rfl, rfl, trivial⟩ [0, 0] rfl
        · rintro ⟨x7, x8⟩ _
          refine TC.seq ?_
          refine TC.region ?_
          refine TL.move rfl rfl (v := .int .i64 x7) rfl ?_
          refine TL.assign rfl rfl (v := .int .i64 x7) rfl ?_
          refine TL.assign rfl rfl (v := .int .i64 0) rfl ?_
          refine TL.done ?_
          exact TC.retF (Fin.body (fin2 (.inr rfl) rfl (.tmp rfl) (.tmp rfl) [] rfl ⟨rfl, rfl⟩))

end Go.Proofs.Ytcombgcjgdkbiaa.G
