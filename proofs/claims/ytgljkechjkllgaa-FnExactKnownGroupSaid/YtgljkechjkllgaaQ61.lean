/- spec.l06Known, as a pure function. -/
import Derived.Test.YtgljkechjkllgaaProg
import Derived.Test.YtgljkechjkllgaaSx9
import Derived.Test.YtgljkechjkllgaaQ97
set_option linter.unusedVariables false
namespace Go.Proofs.Ytgljkechjkllgaa.G
open Go Go.Sx Go.Proofs

def spec_l06Known.b0 (y1 : Int) (x1 : Str) (x2 : Int) : (Nat → UInt8) × Int → Option (LB ((Nat → UInt8) × Int)) := fun p => match p with | (y3, x3) => (bif (decide (x3 < y1)) then nz y1 (((bif (x1 == ([118, 52] : Str)) then some (bits .xor .i64 x2 x3) else (bif (x1 == ([115, 51] : Str)) then (G.spec_l06Turn.f x2 x3).bind (fun r_1 => some r_1) else some (Int.tmod (w64 (x2 + x3)) y1)))).bind (fun x4 => chk x2 6 (chk x3 6 (some (.next ((upd y3 (x2.toNat * 6 + x3.toNat) (UInt8.ofInt x4)), (w64 (x3 + 1)))))))) else some (.brk (y3, x3)))

def spec_l06Known.b1 (y1 : Int) (x1 : Str) : (Nat → UInt8) × Int → Option (LB ((Nat → UInt8) × Int)) := fun p => match p with | (y2, x2) => (bif (decide (x2 < y1)) then (loop1 (spec_l06Known.b0 y1 x1 x2) (y2, 0)).bind (fun p => match p with | (y3, x3) => some (.next (y3, (w64 (x2 + 1))))) else some (.brk (y2, x2)))

def spec_l06Known.f (x1 : Str) : Option (Int × (Nat → UInt8) × Bool) := (bif ((x1.length : Int) == 2) then chk 0 x1.length (some (((gt x1 0).toNat : Int) == ((99 : UInt8).toNat : Int))) else some false).bind (fun b_3 => (bif b_3 then chk 1 x1.length (some (decide (((gt x1 1).toNat : Int) ≥ ((49 : UInt8).toNat : Int)))) else some false).bind (fun b_4 => (bif b_4 then chk 1 x1.length (some (decide (((gt x1 1).toNat : Int) ≤ ((54 : UInt8).toNat : Int)))) else some false).bind (fun b_5 => ((bif b_5 then chk 1 x1.length (some (.inl ((UInt8.ofInt (((gt x1 1).toNat : Int) - ((48 : UInt8).toNat : Int))).toNat : Int))) else (bif (x1 == ([118, 52] : Str)) then some (.inl 4) else (bif (x1 == ([115, 51] : Str)) then some (.inl 6) else some (.inr ((0, (fun _ => (0 : UInt8)), false))))))).bind (jn (fun y1 => (loop1 (spec_l06Known.b1 y1 x1) ((fun _ => (0 : UInt8)), 0)).bind (fun p => match p with | (y2, x2) => some (y1, y2, true)))))))

def spec_l06Known.R (r : Int × (Nat → UInt8) × Bool) (v : Value) (L : List Asn) : Prop := v = .tuple #[sval [.one (.int .i64 r.1), .arr 36 (enf u8v r.2.1)], .bool r.2.2] ∧ L = []

set_option maxRecDepth 100000 in
set_option maxHeartbeats 4000000 in
theorem spec_l06Known.calls (w : World) (x1 : Str) :
    ∀ r, spec_l06Known.f x1 = some r → Calls Try.prog 61 #[strv x1] w (Ret w (spec_l06Known.R r)) := by

  refine calls_T (n := 79) (Γ := [(0, strv x1)]) (R := spec_l06Known.R) Try.func61 rfl rfl (Nat.le_of_ble_eq_true rfl) ⟨rfl, trivial⟩ ?_
  unfold spec_l06Known.f
  refine TC.seq ?_
  refine TC.region ?_
  refine TL.alloc [.one (.int .i64 0), .arr 36 (enf u8v (fun _ => (0 : UInt8)))] rfl rfl Try.zeroValue38 rfl fun b_1 => ?_
  refine TL.assign rfl rfl (v := .bool false) rfl ?_
  refine TL.done ?_
  refine TC.seq ?_
  refine TC.region ?_
  refine TL.buildS (segs0 := [.one (.int .i64 0), .arr 36 (enf u8v (fun _ => (0 : UInt8)))]) (segs := [.one (.int .i64 0), .arr 36 (enf u8v (fun _ => (0 : UInt8)))]) [1, 36] Try.underlying38 ⟨Try.sizeOf2, Try.sizeOf34, trivial⟩ Try.zeroValue38 rfl [] rfl (fun pl hpl => by subst hpl; exact rfl) rfl rfl ?_
  refine TL.alloc [.one (.int .i64 0), .arr 36 (enf u8v (fun _ => (0 : UInt8)))] rfl rfl Try.zeroValue38 rfl fun b_2 => ?_
  refine TL.stM (news := [.one (.int .i64 0), .arr 36 (enf u8v (fun _ => (0 : UInt8)))]) 0 0 2 rfl Try.sizeOf38 (ones_one rfl (ones_arr (fun _ => rfl) ones_nil)) rfl rfl rfl rfl rfl rfl ?_
  refine TL.done ?_
  refine TC.seq ?_
  refine TC.block NoEx.body ?_
  refine TC.seq ?_
  refine TC.region ?_
  refine TL.move rfl rfl (v := strv x1) rfl ?_
  refine TL.lenstr Try.underlying9 rfl rfl rfl ?_
  refine TL.bin .i64 (x1.length : Int) 2 rfl rfl rfl rfl (v := .bool ((x1.length : Int) == 2)) rfl ?_
  refine TL.move rfl rfl (v := .bool ((x1.length : Int) == 2)) rfl ?_
  refine TL.cutJ (σ := Bool) (γ := Unit) (Γ' := fun b_3 _ => [(18, .bool b_3), (0, strv x1), (2, bp b_1 0), (3, .bool false), (8, sval [.one (.int .i64 0), .arr 36 (enf u8v (fun _ => (0 : UInt8)))]), (4, bp b_2 0), (11, strv x1), (12, .int .i64 (x1.length : Int)), (13, .bool ((x1.length : Int) == 2)), (14, .bool ((x1.length : Int) == 2))]) (L' := fun _ _ => [box b_2 38 [.one (.int .i64 0), .arr 36 (enf u8v (fun _ => (0 : UInt8)))], box b_1 38 [.one (.int .i64 0), .arr 36 (enf u8v (fun _ => (0 : UInt8)))]]) 4 ?_ ?_
  · refine TL.ifb (t := 14) (b := ((x1.length : Int) == 2)) rfl (fun c1 => ?_) (fun c2 => ?_)
    · refine TL.move rfl rfl (v := strv x1) rfl ?_
      refine TL.chk fun h1 => ?_
      refine TL.ixstr 0 h1 Try.underlying9 rfl rfl rfl rfl ?_
      refine TL.bin .u8 ((gt x1 0).toNat : Int) ((99 : UInt8).toNat : Int) rfl rfl rfl rfl (v := .bool (((gt x1 0).toNat : Int) == ((99 : UInt8).toNat : Int))) rfl ?_
      refine TL.pick rfl rfl (b := true) rfl (r := .bool (((gt x1 0).toNat : Int) == ((99 : UInt8).toNat : Int))) rfl ?_
      refine TL.done ?_
      exact TC.nrm ((((gt x1 0).toNat : Int) == ((99 : UInt8).toNat : Int))) () ⟨rfl, rfl, rfl, rfl, rfl, rfl, rfl, rfl, rfl, (by rw [c1]; rfl), trivial⟩ [0, 0] rfl
    · refine TL.skip rfl rfl (by decide) ?_
      refine TL.skip rfl rfl (by decide) ?_
      refine TL.skip rfl rfl (by decide) ?_
      refine TL.pick rfl rfl (b := false) rfl (r := .bool false) rfl ?_
      refine TL.done ?_
      exact TC.nrm (false) () ⟨rfl, rfl, rfl, rfl, rfl, rfl, rfl, rfl, rfl, (by rw [c2]; rfl), trivial⟩ [0, 0] rfl
  · rintro b_3 _
    refine TL.move rfl rfl (v := .bool b_3) rfl ?_
    refine TL.cutJ (σ := Bool) (γ := Unit) (Γ' := fun b_4 _ => [(23, .bool b_4), (0, strv x1), (2, bp b_1 0), (3, .bool false), (8, sval [.one (.int .i64 0), .arr 36 (enf u8v (fun _ => (0 : UInt8)))]), (4, bp b_2 0), (11, strv x1), (12, .int .i64 (x1.length : Int)), (13, .bool ((x1.length : Int) == 2)), (14, .bool ((x1.length : Int) == 2)), (18, .bool b_3), (19, .bool b_3)]) (L' := fun _ _ => [box b_2 38 [.one (.int .i64 0), .arr 36 (enf u8v (fun _ => (0 : UInt8)))], box b_1 38 [.one (.int .i64 0), .arr 36 (enf u8v (fun _ => (0 : UInt8)))]]) 4 ?_ ?_
    · refine TL.ifb (t := 19) (b := b_3) rfl (fun c3 => ?_) (fun c4 => ?_)
      · refine TL.move rfl rfl (v := strv x1) rfl ?_
        refine TL.chk fun h2 => ?_
        refine TL.ixstr 1 h2 Try.underlying9 rfl rfl rfl rfl ?_
        refine TL.bin .u8 ((gt x1 1).toNat : Int) ((49 : UInt8).toNat : Int) rfl rfl rfl rfl (v := .bool (decide (((gt x1 1).toNat : Int) ≥ ((49 : UInt8).toNat : Int)))) rfl ?_
        refine TL.pick rfl rfl (b := true) rfl (r := .bool (decide (((gt x1 1).toNat : Int) ≥ ((49 : UInt8).toNat : Int)))) rfl ?_
        refine TL.done ?_
        exact TC.nrm ((decide (((gt x1 1).toNat : Int) ≥ ((49 : UInt8).toNat : Int)))) () ⟨rfl, rfl, rfl, rfl, rfl, rfl, rfl, rfl, rfl, rfl, rfl, (by rw [c3]; rfl), trivial⟩ [0, 0] rfl
      · refine TL.skip rfl rfl (by decide) ?_
        refine TL.skip rfl rfl (by decide) ?_
        refine TL.skip rfl rfl (by decide) ?_
        refine TL.pick rfl rfl (b := false) rfl (r := .bool false) rfl ?_
        refine TL.done ?_
        exact TC.nrm (false) () ⟨rfl, rfl, rfl, rfl, rfl, rfl, rfl, rfl, rfl, rfl, rfl, (by rw [c4]; rfl), trivial⟩ [0, 0] rfl
    · rintro b_4 _
      refine TL.move rfl rfl (v := .bool b_4) rfl ?_
      refine TL.cutJ (σ := Bool) (γ := Unit) (Γ' := fun b_5 _ => [(28, .bool b_5), (0, strv x1), (2, bp b_1 0), (3, .bool false), (8, sval [.one (.int .i64 0), .arr 36 (enf u8v (fun _ => (0 : UInt8)))]), (4, bp b_2 0), (11, strv x1), (12, .int .i64 (x1.length : Int)), (13, .bool ((x1.length : Int) == 2)), (14, .bool ((x1.length : Int) == 2)), (18, .bool b_3), (19, .bool b_3), (23, .bool b_4), (24, .bool b_4)]) (L' := fun _ _ => [box b_2 38 [.one (.int .i64 0), .arr 36 (enf u8v (fun _ => (0 : UInt8)))], box b_1 38 [.one (.int .i64 0), .arr 36 (enf u8v (fun _ => (0 : UInt8)))]]) 4 ?_ ?_
      · refine TL.ifb (t := 24) (b := b_4) rfl (fun c5 => ?_) (fun c6 => ?_)
        · refine TL.move rfl rfl (v := strv x1) rfl ?_
          refine TL.chk fun h3 => ?_
          refine TL.ixstr 1 h3 Try.underlying9 rfl rfl rfl rfl ?_
          refine TL.bin .u8 ((gt x1 1).toNat : Int) ((54 : UInt8).toNat : Int) rfl rfl rfl rfl (v := .bool (decide (((gt x1 1).toNat : Int) ≤ ((54 : UInt8).toNat : Int)))) rfl ?_
          refine TL.pick rfl rfl (b := true) rfl (r := .bool (decide (((gt x1 1).toNat : Int) ≤ ((54 : UInt8).toNat : Int)))) rfl ?_
          refine TL.done ?_
          exact TC.nrm ((decide (((gt x1 1).toNat : Int) ≤ ((54 : UInt8).toNat : Int)))) () ⟨rfl, rfl, rfl, rfl, rfl, rfl, rfl, rfl, rfl, rfl, rfl, rfl, rfl, (by rw [c5]; rfl), trivial⟩ [0, 0] rfl
        · refine TL.skip rfl rfl (by decide) ?_
          refine TL.skip rfl rfl (by decide) ?_
          refine TL.skip rfl rfl (by decide) ?_
          refine TL.pick rfl rfl (b := false) rfl (r := .bool false) rfl ?_
          refine TL.done ?_
          exact TC.nrm (false) () ⟨rfl, rfl, rfl, rfl, rfl, rfl, rfl, rfl, rfl, rfl, rfl, rfl, rfl, (by rw [c6]; rfl), trivial⟩ [0, 0] rfl
      · rintro b_5 _
        refine TL.assign rfl rfl (v := .bool b_5) rfl ?_
        refine TL.done ?_
        refine TC.join (σ := Int) (γ := Unit) (Γ' := (fun y1 _ => [(0, strv x1), (2, bp b_1 0), (4, bp b_2 0)])) (L' := (fun y1 _ => [box b_1 38 [.one (.int .i64 0), .arr 36 (enf u8v (fun _ => (0 : UInt8)))], box b_2 38 [.one (.int .i64 y1), .arr 36 (enf u8v (fun _ => (0 : UInt8)))]])) ?_ ?_
        · refine TC.cond (b := b_5) rfl (fun c7 => ?_) (fun c8 => ?_)
          · refine TC.region ?_
            refine TL.move rfl rfl (v := strv x1) rfl ?_
            refine TL.chk fun h4 => ?_
            refine TL.ixstr 1 h4 Try.underlying9 rfl rfl rfl rfl ?_
            refine TL.bin .u8 ((gt x1 1).toNat : Int) ((48 : UInt8).toNat : Int) rfl rfl rfl rfl (v := u8v (UInt8.ofInt (((gt x1 1).toNat : Int) - ((48 : UInt8).toNat : Int)))) (congrArg some (conv_i64_u8 _)) ?_
            refine TL.conv .u8 .i64 ((UInt8.ofInt (((gt x1 1).toNat : Int) - ((48 : UInt8).toNat : Int))).toNat : Int) _ rfl rfl rfl Try.underlying5 Try.underlying2 (v := .int .i64 ((UInt8.ofInt (((gt x1 1).toNat : Int) - ((48 : UInt8).toNat : Int))).toNat : Int)) (conv_u8_i64 _) ?_
            refine TL.fa Try.underlying38 rfl Try.sizeOf2 rfl 0 rfl rfl rfl rfl ?_
            refine TL.st1 0 0 rfl Try.sizeOf2 rfl rfl rfl rfl rfl rfl rfl ?_
            refine TL.done ?_
            exact TC.inl (((UInt8.ofInt (((gt x1 1).toNat : Int) - ((48 : UInt8).toNat : Int))).toNat : Int)) (()) ⟨rfl, rfl, rfl, trivial⟩ [1, 0] rfl
          · refine TC.seq ?_
            refine TC.region ?_
            refine TL.move rfl rfl (v := strv x1) rfl ?_
            refine TL.strEq x1 ([118, 52] : Str) rfl rfl rfl rfl ?_
            refine TL.assign rfl rfl (v := .bool (x1 == ([118, 52] : Str))) rfl ?_
            refine TL.done ?_
            refine TC.cond (b := (x1 == ([118, 52] : Str))) rfl (fun c9 => ?_) (fun c10 => ?_)
            · refine TC.region ?_
              refine TL.fa Try.underlying38 rfl Try.sizeOf2 rfl 0 rfl rfl rfl rfl ?_
              refine TL.st1 0 0 rfl Try.sizeOf2 rfl rfl rfl rfl rfl rfl rfl ?_
              refine TL.done ?_
              exact TC.inl (4) (()) ⟨rfl, rfl, rfl, trivial⟩ [1, 0] rfl
            · refine TC.seq ?_
              refine TC.region ?_
              refine TL.move rfl rfl (v := strv x1) rfl ?_
              refine TL.strEq x1 ([115, 51] : Str) rfl rfl rfl rfl ?_
              refine TL.assign rfl rfl (v := .bool (x1 == ([115, 51] : Str))) rfl ?_
              refine TL.done ?_
              refine TC.cond (b := (x1 == ([115, 51] : Str))) rfl (fun c11 => ?_) (fun c12 => ?_)
              · refine TC.region ?_
                refine TL.fa Try.underlying38 rfl Try.sizeOf2 rfl 0 rfl rfl rfl rfl ?_
                refine TL.st1 0 0 rfl Try.sizeOf2 rfl rfl rfl rfl rfl rfl rfl ?_
                refine TL.done ?_
                exact TC.inl (6) (()) ⟨rfl, rfl, rfl, trivial⟩ [1, 0] rfl
              · refine TC.seq ?_
                refine TC.region ?_
                refine TL.loadM 0 2 (Src.box 0 rfl) Try.isAgg38 Try.sizeOf38 (mid := [.one (.int .i64 0), .arr 36 (enf u8v (fun _ => (0 : UInt8)))]) rfl rfl rfl rfl rfl rfl ?_
                refine TL.stM (news := [.one (.int .i64 0), .arr 36 (enf u8v (fun _ => (0 : UInt8)))]) 1 0 2 rfl Try.sizeOf38 (ones_one rfl (ones_arr (fun _ => rfl) ones_nil)) rfl rfl rfl rfl rfl rfl ?_
                refine TL.assign rfl rfl (v := .bool false) rfl ?_
                refine TL.done ?_
                exact TC.retF (Fin.join (by simp) (Fin.body (fin2 (.inr rfl) rfl (.cellN rfl (Src.box 1 rfl) Try.isAgg38 Try.sizeOf38 rfl) (.tmp rfl) [] rfl ⟨rfl, rfl⟩)))
        · rintro y1 _
          refine TC.seq ?_
          refine TC.seq ?_
          refine TC.region ?_
          refine TL.assign rfl rfl (v := .int .i64 0) rfl ?_
          refine TL.done ?_
          refine TC.loop1 (σ := (Nat → UInt8) × Int) (γ := Unit) (Γ' := (fun p q => match p, q with | (y2, x2), _ => [(0, strv x1), (2, bp b_1 0), (4, bp b_2 0), (5, .int .i64 x2)])) (L' := (fun p q => match p, q with | (y2, x2), _ => [box b_1 38 [.one (.int .i64 0), .arr 36 (enf u8v (fun _ => (0 : UInt8)))], box b_2 38 [.one (.int .i64 y1), .arr 36 (enf u8v y2)]])) (Γb := (fun p q => match p, q with | (y2, x2), _ => [(0, strv x1), (2, bp b_1 0), (4, bp b_2 0), (5, .int .i64 x2)])) (Lb := (fun p q => match p, q with | (y2, x2), _ => [box b_1 38 [.one (.int .i64 0), .arr 36 (enf u8v (fun _ => (0 : UInt8)))], box b_2 38 [.one (.int .i64 y1), .arr 36 (enf u8v y2)]])) (((fun _ => (0 : UInt8)), 0)) (()) ⟨rfl, rfl, rfl, rfl, trivial⟩ [0, 0] rfl ?_ ?_
          · rintro ⟨y2, x2⟩ _
            refine TC.seq ?_
            refine TC.seq ?_
            refine TC.region ?_
            refine TL.move rfl rfl (v := .int .i64 x2) rfl ?_
            refine TL.fa Try.underlying38 rfl Try.sizeOf2 rfl 0 rfl rfl rfl rfl ?_
            refine TL.load1 0 (Src.box 1 rfl) Try.isAgg2 rfl rfl rfl rfl rfl ?_
            refine TL.bin .i64 x2 y1 rfl rfl rfl rfl (v := .bool (decide (x2 < y1))) rfl ?_
            refine TL.done ?_
            refine TC.cond (b := (decide (x2 < y1))) rfl (fun c13 => ?_) (fun c14 => ?_)
            · refine TC.skip ?_
              refine TC.seq ?_
              refine TC.block (NoEx.loop1 rfl) ?_
              refine TC.seq ?_
              refine TC.region ?_
              refine TL.assign rfl rfl (v := .int .i64 0) rfl ?_
              refine TL.done ?_
              refine TC.loop1 (σ := (Nat → UInt8) × Int) (γ := Unit) (Γ' := (fun p q => match p, q with | (y3, x3), _ => [(0, strv x1), (2, bp b_1 0), (4, bp b_2 0), (5, .int .i64 x2), (6, .int .i64 x3)])) (L' := (fun p q => match p, q with | (y3, x3), _ => [box b_1 38 [.one (.int .i64 0), .arr 36 (enf u8v (fun _ => (0 : UInt8)))], box b_2 38 [.one (.int .i64 y1), .arr 36 (enf u8v y3)]])) (Γb := (fun p q => match p, q with | (y3, x3), _ => [(0, strv x1), (2, bp b_1 0), (4, bp b_2 0), (5, .int .i64 x2), (6, .int .i64 x3)])) (Lb := (fun p q => match p, q with | (y3, x3), _ => [box b_1 38 [.one (.int .i64 0), .arr 36 (enf u8v (fun _ => (0 : UInt8)))], box b_2 38 [.one (.int .i64 y1), .arr 36 (enf u8v y3)]])) ((y2, 0)) (()) ⟨rfl, rfl, rfl, rfl, rfl, trivial⟩ [0, 0] rfl ?_ ?_
              · rintro ⟨y3, x3⟩ _
                refine TC.seq ?_
                refine TC.seq ?_
                refine TC.region ?_
                refine TL.move rfl rfl (v := .int .i64 x3) rfl ?_
                refine TL.fa Try.underlying38 rfl Try.sizeOf2 rfl 0 rfl rfl rfl rfl ?_
                refine TL.load1 0 (Src.box 1 rfl) Try.isAgg2 rfl rfl rfl rfl rfl ?_
                refine TL.bin .i64 x3 y1 rfl rfl rfl rfl (v := .bool (decide (x3 < y1))) rfl ?_
                refine TL.done ?_
                refine TC.cond (b := (decide (x3 < y1))) rfl (fun c15 => ?_) (fun c16 => ?_)
                · refine TC.skip ?_
                  refine TC.seq ?_
                  refine TC.block (NoEx.loop1 rfl) ?_
                  refine TC.seq ?_
                  refine TC.region ?_
                  refine TL.move rfl rfl (v := .int .i64 x2) rfl ?_
                  refine TL.move rfl rfl (v := .int .i64 x3) rfl ?_
                  refine TL.bin .i64 x2 x3 rfl rfl rfl rfl (v := .int .i64 (w64 (x2 + x3))) rfl ?_
                  refine TL.fa Try.underlying38 rfl Try.sizeOf2 rfl 0 rfl rfl rfl rfl ?_
                  refine TL.load1 0 (Src.box 1 rfl) Try.isAgg2 rfl rfl rfl rfl rfl ?_
                  refine TL.nz fun z1 => ?_
                  refine TL.rem .i64 (w64 (x2 + x3)) y1 z1 rfl rfl rfl rfl ?_
                  refine TL.assign rfl rfl (v := .int .i64 (Int.tmod (w64 (x2 + x3)) y1)) rfl ?_
                  refine TL.done ?_
                  refine TC.seq ?_
                  refine TC.seq ?_
                  refine TC.region ?_
                  refine TL.move rfl rfl (v := strv x1) rfl ?_
                  refine TL.done ?_
                  refine TC.block (NoEx.loop1 rfl) ?_
                  refine TC.seq ?_
                  refine TC.region ?_
                  refine TL.strEq x1 ([118, 52] : Str) rfl rfl rfl rfl ?_
                  refine TL.assign rfl rfl (v := .bool (x1 == ([118, 52] : Str))) rfl ?_
                  refine TL.done ?_
                  refine TC.join1 (σ := Int) (γ := Unit) (Γ' := (fun x4 _ => [(0, strv x1), (2, bp b_1 0), (4, bp b_2 0), (5, .int .i64 x2), (6, .int .i64 x3), (7, .int .i64 x4)])) (L' := (fun x4 _ => [box b_1 38 [.one (.int .i64 0), .arr 36 (enf u8v (fun _ => (0 : UInt8)))], box b_2 38 [.one (.int .i64 y1), .arr 36 (enf u8v y3)]])) ?_ ?_
                  · refine TC.cond (b := (x1 == ([118, 52] : Str))) rfl (fun c17 => ?_) (fun c18 => ?_)
                    · refine TC.region ?_
                      refine TL.move rfl rfl (v := .int .i64 x2) rfl ?_
                      refine TL.move rfl rfl (v := .int .i64 x3) rfl ?_
                      refine TL.bin .i64 x2 x3 rfl rfl rfl rfl (v := .int .i64 (bits .xor .i64 x2 x3)) rfl ?_
                      refine TL.assign rfl rfl (v := .int .i64 (bits .xor .i64 x2 x3)) rfl ?_
                      refine TL.done ?_
                      exact TC.nrm ((bits .xor .i64 x2 x3)) (()) ⟨rfl, rfl, rfl, rfl, rfl, rfl, trivial⟩ [0, 0] rfl
                    · refine TC.seq ?_
                      refine TC.region ?_
                      refine TL.strEq x1 ([115, 51] : Str) rfl rfl rfl rfl ?_
                      refine TL.assign rfl rfl (v := .bool (x1 == ([115, 51] : Str))) rfl ?_
                      refine TL.done ?_
                      refine TC.cond (b := (x1 == ([115, 51] : Str))) rfl (fun c19 => ?_) (fun c20 => ?_)
                      · refine TC.region ?_
                        refine TL.move rfl rfl (v := .int .i64 x2) rfl ?_
                        refine TL.move rfl rfl (v := .int .i64 x3) rfl ?_
                        refine TL.call (R := G.spec_l06Turn.R) Try.call97 rfl rfl rfl (fun w hS => G.spec_l06Turn.calls w x2 x3) ?_
                        rintro r_1 _ _ ⟨rfl, rfl⟩
                        refine TL.assign rfl rfl (v := .int .i64 r_1) rfl ?_
                        refine TL.done ?_
                        exact TC.nrm (r_1) (()) ⟨rfl, rfl, rfl, rfl, rfl, rfl, trivial⟩ [0, 0] rfl
                      · refine TC.skip ?_
                        exact TC.nrm ((Int.tmod (w64 (x2 + x3)) y1)) (()) ⟨rfl, rfl, rfl, rfl, rfl, rfl, trivial⟩ [0, 0] rfl
                  · rintro x4 _
                    refine TC.region ?_
                    refine TL.move rfl rfl (v := .int .i64 x2) rfl ?_
                    refine TL.move rfl rfl (v := .int .i64 x3) rfl ?_
                    refine TL.move rfl rfl (v := .int .i64 x4) rfl ?_
                    refine TL.conv .i64 .u8 x4 _ rfl rfl rfl Try.underlying2 Try.underlying5 (v := u8v (UInt8.ofInt x4)) (conv_i64_u8 _) ?_
                    refine TL.fa Try.underlying38 rfl Try.sizeOf34 rfl 1 rfl rfl rfl rfl ?_
                    refine TL.chk fun h5 => ?_
                    refine TL.ixa x2 (1 + x2.toNat * 6) h5 Try.underlying34 Try.sizeOf33 rfl rfl rfl rfl (by omega) ?_
                    refine TL.chk fun h6 => ?_
                    refine TL.ixa x3 (1 + (x2.toNat * 6 + x3.toNat)) h6 Try.underlying33 Try.sizeOf5 rfl rfl rfl rfl (by omega) ?_
                    refine TL.stA (e := u8v) (z := (UInt8.ofInt x4)) 1 1 (x2.toNat * 6 + x3.toNat) rfl Try.sizeOf5 rfl (by omega) (s := 1) rfl (by omega) rfl rfl rfl rfl rfl ?_
                    refine TL.done ?_
                    refine TC.region ?_
                    refine TL.move rfl rfl (v := .int .i64 x3) rfl ?_
                    refine TL.bin .i64 x3 1 rfl rfl rfl rfl (v := .int .i64 (w64 (x3 + 1))) rfl ?_
                    refine TL.assign rfl rfl (v := .int .i64 (w64 (x3 + 1))) rfl ?_
                    refine TL.done ?_
                    exact TC.next1 (((upd y3 (x2.toNat * 6 + x3.toNat) (UInt8.ofInt x4)), (w64 (x3 + 1)))) (()) ⟨rfl, rfl, rfl, rfl, rfl, trivial⟩ [0, 0] rfl
                · exact TC.brk1 ((y3, x3)) (()) ⟨rfl, rfl, rfl, rfl, rfl, trivial⟩ [0, 0] rfl
              · rintro ⟨y3, x3⟩ _
                refine TC.region ?_
                refine TL.move rfl rfl (v := .int .i64 x2) rfl ?_
                refine TL.bin .i64 x2 1 rfl rfl rfl rfl (v := .int .i64 (w64 (x2 + 1))) rfl ?_
                refine TL.assign rfl rfl (v := .int .i64 (w64 (x2 + 1))) rfl ?_
                refine TL.done ?_
                exact TC.next1 ((y3, (w64 (x2 + 1)))) (()) ⟨rfl, rfl, rfl, rfl, trivial⟩ [0, 0] rfl
            · exact TC.brk1 ((y2, x2)) (()) ⟨rfl, rfl, rfl, rfl, trivial⟩ [0, 0] rfl
          · rintro ⟨y2, x2⟩ _
            refine TC.seq ?_
            refine TC.region ?_
            refine TL.loadM 0 2 (Src.box 1 rfl) Try.isAgg38 Try.sizeOf38 (mid := [.one (.int .i64 y1), .arr 36 (enf u8v y2)]) rfl rfl rfl rfl rfl rfl ?_
            refine TL.stM (news := [.one (.int .i64 y1), .arr 36 (enf u8v y2)]) 0 0 2 rfl Try.sizeOf38 (ones_one rfl (ones_arr (fun _ => rfl) ones_nil)) rfl rfl rfl rfl rfl rfl ?_
            refine TL.assign rfl rfl (v := .bool true) rfl ?_
            refine TL.done ?_
            exact TC.retF (Fin.body (fin2 (.inr rfl) rfl (.cellN rfl (Src.box 0 rfl) Try.isAgg38 Try.sizeOf38 rfl) (.tmp rfl) [] rfl ⟨rfl, rfl⟩))

end Go.Proofs.Ytgljkechjkllgaa.G
