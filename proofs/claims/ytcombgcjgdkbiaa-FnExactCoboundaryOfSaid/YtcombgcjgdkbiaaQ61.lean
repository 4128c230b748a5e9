/- spec.l06Is, as a pure function. -/
import Derived.Test.YtcombgcjgdkbiaaProg
import Derived.Test.YtcombgcjgdkbiaaSx9
import Derived.Test.YtcombgcjgdkbiaaQ54
set_option linter.unusedVariables false
namespace Go.Proofs.Ytcombgcjgdkbiaa.G
open Go Go.Sx Go.Proofs

def spec_l06Is.b0 (x3 : Int) (x1 : Int) (x2 : Nat → UInt8) : Int → Option (LR Int (LR Int Bool)) := fun x4 => (bif (decide (x4 < 6)) then ((bif ((decide (x3 ≥ x1)) || (decide (x4 ≥ x1))) then chk x3 6 (chk x4 6 ((bif (((x2 (x3.toNat * 6 + x4.toNat)).toNat : Int) != ((0 : UInt8).toNat : Int)) then some (.inr (.ret (.ret (false)))) else some (.inl ())))) else chk x3 6 (chk x4 6 ((bif (decide (((x2 (x3.toNat * 6 + x4.toNat)).toNat : Int) ≥ x1)) then some (.inr (.ret (.ret (false)))) else some (.inl ())))))).bind (jn (fun _ => some (.next (w64 (x4 + 1))))) else some (.brk x4))

def spec_l06Is.b1 (x1 : Int) (x2 : Nat → UInt8) : Int → Option (LR Int Bool) := fun x3 => (bif (decide (x3 < 6)) then (loop (spec_l06Is.b0 x3 x1 x2) 0).bind (ln (fun x4 => some (.next (w64 (x3 + 1))))) else some (.brk x3))

def spec_l06Is.b2 (x1 : Int) (x5 : Int) (x7 : Int) (x2 : Nat → UInt8) : Int → Option (LR Int (LR (Bool × Int) (LR Int Bool))) := fun x8 => (bif (decide (x8 < x1)) then chk x5 6 (chk x7 6 (chk ((x2 (x5.toNat * 6 + x7.toNat)).toNat : Int) 6 (chk x8 6 (chk ((x2 (x7.toNat * 6 + x8.toNat)).toNat : Int) 6 ((bif (((x2 ((x2 (x5.toNat * 6 + x7.toNat)).toNat * 6 + x8.toNat)).toNat : Int) != ((x2 (x5.toNat * 6 + (x2 (x7.toNat * 6 + x8.toNat)).toNat)).toNat : Int)) then some (.ret (.ret (.ret (false)))) else some (.next (w64 (x8 + 1))))))))) else some (.brk x8))

def spec_l06Is.b3 (x1 : Int) (x5 : Int) (x2 : Nat → UInt8) : Bool × Int → Option (LR (Bool × Int) (LR Int Bool)) := fun p => match p with | (x6, x7) => (bif (decide (x7 < x1)) then (bif x6 then some true else chk x5 6 (chk x7 6 (some ((((x2 (x5.toNat * 6 + x7.toNat)).toNat : Int) == ((0 : UInt8).toNat : Int)) && (((x2 (x7.toNat * 6 + x5.toNat)).toNat : Int) == ((0 : UInt8).toNat : Int)))))).bind (fun b_2 => (loop (spec_l06Is.b2 x1 x5 x7 x2) 0).bind (ln (fun x8 => some (.next (b_2, (w64 (x7 + 1))))))) else some (.brk (x6, x7)))

def spec_l06Is.b4 (x1 : Int) (x2 : Nat → UInt8) : Int → Option (LR Int Bool) := fun x5 => (bif (decide (x5 < x1)) then (loop (spec_l06Is.b3 x1 x5 x2) (false, 0)).bind (ln (fun p => match p with | (x6, x7) => (bif (!x6) then some true else chk x5 6 (some (((x2 x5.toNat).toNat : Int) != x5))).bind (fun b_3 => (bif b_3 then some true else chk x5 6 (some (((x2 (x5.toNat * 6)).toNat : Int) != x5))).bind (fun b_4 => (bif b_4 then some (.ret (false)) else some (.next (w64 (x5 + 1)))))))) else some (.brk x5))

def spec_l06Is.f (x1 : Int) (x2 : Nat → UInt8) : Option Bool := (G.spec_l01In.f x1 1 6).bind (fun r_1 => (bif (!r_1) then some false else (loop (spec_l06Is.b1 x1 x2) 0).bind (ln (fun x3 => (loop (spec_l06Is.b4 x1 x2) 0).bind (ln (fun x5 => some true))))))

def spec_l06Is.R (r : Bool) (v : Value) (L : List Asn) : Prop := v = .bool r ∧ L = []

set_option maxRecDepth 100000 in
set_option maxHeartbeats 4000000 in
theorem spec_l06Is.calls (w : World) (x1 : Int) (x2 : Nat → UInt8) :
    ∀ r, spec_l06Is.f x1 x2 = some r → Calls Try.prog 61 #[sval [.one (.int .i64 x1), .arr 36 (enf u8v x2)]] w (Ret w (spec_l06Is.R r)) := by

  refine calls_T (n := 126) (Γ := [(0, sval [.one (.int .i64 x1), .arr 36 (enf u8v x2)])]) (R := spec_l06Is.R) Try.func61 rfl rfl (Nat.le_of_ble_eq_true rfl) ⟨rfl, trivial⟩ ?_
  unfold spec_l06Is.f
  refine TC.seq ?_
  refine TC.region ?_
  refine TL.box [.one (.int .i64 x1), .arr 36 (enf u8v x2)] rfl rfl rfl rfl fun b_1 => ?_
  refine TL.assign rfl rfl (v := .bool false) rfl ?_
  refine TL.done ?_
  refine TC.seq ?_
  refine TC.region ?_
  refine TL.fa Try.underlying37 rfl Try.sizeOf2 rfl 0 rfl rfl rfl rfl ?_
  refine TL.load1 0 (Src.box 0 rfl) Try.isAgg2 rfl rfl rfl rfl rfl ?_
  refine TL.assign rfl rfl (v := .int .i64 x1) rfl ?_
  refine TL.done ?_
  refine TC.seq ?_
  refine TC.seq ?_
  refine TC.region ?_
  refine TL.move rfl rfl (v := .int .i64 x1) rfl ?_
  refine TL.call (R := G.spec_l01In.R) Try.call54 rfl rfl rfl (fun w hS => G.spec_l01In.calls w x1 1 6) ?_
  rintro r_1 _ _ ⟨rfl, rfl⟩
  refine TL.not r_1 rfl rfl rfl ?_
  refine TL.done ?_
  refine TC.cond (b := (!r_1)) rfl (fun c1 => ?_) (fun c2 => ?_)
  · refine TC.seq ?_
    refine TC.region ?_
    refine TL.assign rfl rfl (v := .bool false) rfl ?_
    refine TL.done ?_
    exact TC.retF (Fin.body (fin1 (.inr rfl) rfl (.tmp rfl) [] rfl ⟨rfl, rfl⟩))
  · refine TC.skip ?_
    refine TC.seq ?_
    refine TC.seq ?_
    refine TC.region ?_
    refine TL.assign rfl rfl (v := .int .i64 0) rfl ?_
    refine TL.done ?_
    refine TC.loopK (σ := Int) (γ := Unit) (Γ' := (fun x3 _ => [(1, bp b_1 0), (3, .int .i64 x1), (4, .int .i64 x3)])) (L' := (fun x3 _ => [box b_1 37 [.one (.int .i64 x1), .arr 36 (enf u8v x2)]])) (Γb := (fun x3 _ => [(1, bp b_1 0), (3, .int .i64 x1), (4, .int .i64 x3)])) (Lb := (fun x3 _ => [box b_1 37 [.one (.int .i64 x1), .arr 36 (enf u8v x2)]])) (0) (()) ⟨rfl, rfl, rfl, trivial⟩ [0] rfl ?_ ?_
    · rintro x3 _
      refine TC.seq ?_
      refine TC.seq ?_
      refine TC.region ?_
      refine TL.move rfl rfl (v := .int .i64 x3) rfl ?_
      refine TL.bin .i64 x3 6 rfl rfl rfl rfl (v := .bool (decide (x3 < 6))) rfl ?_
      refine TL.done ?_
      refine TC.cond (b := (decide (x3 < 6))) rfl (fun c3 => ?_) (fun c4 => ?_)
      · refine TC.skip ?_
        refine TC.seq ?_
        refine TC.block (NoEx.loop rfl NoEx.body) ?_
        refine TC.seq ?_
        refine TC.region ?_
        refine TL.assign rfl rfl (v := .int .i64 0) rfl ?_
        refine TL.done ?_
        refine TC.loopK (σ := Int) (γ := Unit) (Γ' := (fun x4 _ => [(1, bp b_1 0), (3, .int .i64 x1), (4, .int .i64 x3), (5, .int .i64 x4)])) (L' := (fun x4 _ => [box b_1 37 [.one (.int .i64 x1), .arr 36 (enf u8v x2)]])) (Γb := (fun x4 _ => [(1, bp b_1 0), (3, .int .i64 x1), (4, .int .i64 x3), (5, .int .i64 x4)])) (Lb := (fun x4 _ => [box b_1 37 [.one (.int .i64 x1), .arr 36 (enf u8v x2)]])) (0) (()) ⟨rfl, rfl, rfl, rfl, trivial⟩ [0] rfl ?_ ?_
        · rintro x4 _
          refine TC.seq ?_
          refine TC.seq ?_
          refine TC.region ?_
          refine TL.move rfl rfl (v := .int .i64 x4) rfl ?_
          refine TL.bin .i64 x4 6 rfl rfl rfl rfl (v := .bool (decide (x4 < 6))) rfl ?_
          refine TL.done ?_
          refine TC.cond (b := (decide (x4 < 6))) rfl (fun c5 => ?_) (fun c6 => ?_)
          · refine TC.skip ?_
            refine TC.seq ?_
            refine TC.block (NoEx.loop rfl (NoEx.loop rfl NoEx.body)) ?_
            refine TC.seq ?_
            refine TC.region ?_
            refine TL.move rfl rfl (v := .int .i64 x3) rfl ?_
            refine TL.move rfl rfl (v := .int .i64 x1) rfl ?_
            refine TL.bin .i64 x3 x1 rfl rfl rfl rfl (v := .bool (decide (x3 ≥ x1))) rfl ?_
            refine TL.move rfl rfl (v := .bool (decide (x3 ≥ x1))) rfl ?_
            refine TL.cutU 4 [(30, .bool ((decide (x3 ≥ x1)) || (decide (x4 ≥ x1)))), (1, bp b_1 0), (3, .int .i64 x1), (4, .int .i64 x3), (5, .int .i64 x4), (19, .int .i64 x4), (20, .bool (decide (x4 < 6))), (23, .int .i64 x3), (24, .int .i64 x1), (25, .bool (decide (x3 ≥ x1))), (26, .bool (decide (x3 ≥ x1)))] [box b_1 37 [.one (.int .i64 x1), .arr 36 (enf u8v x2)]] ?_ ?_
            · refine TL.cases (t := 26) (b := (decide (x3 ≥ x1))) rfl (fun c7 => ?_) (fun c8 => ?_)
              · refine TL.skip rfl rfl (by decide) ?_
                refine TL.skip rfl rfl (by decide) ?_
                refine TL.skip rfl rfl (by decide) ?_
                refine TL.pick rfl rfl (b := true) rfl (r := .bool true) rfl ?_
                refine TL.done ?_
                exact TC.nrm () () ⟨(by rw [c7]; rfl), rfl, rfl, rfl, rfl, rfl, rfl, rfl, rfl, rfl, (by rw [c7]; rfl), trivial⟩ [0] rfl
              · refine TL.move rfl rfl (v := .int .i64 x4) rfl ?_
                refine TL.move rfl rfl (v := .int .i64 x1) rfl ?_
                refine TL.bin .i64 x4 x1 rfl rfl rfl rfl (v := .bool (decide (x4 ≥ x1))) rfl ?_
                refine TL.pick rfl rfl (b := false) rfl (r := .bool (decide (x4 ≥ x1))) rfl ?_
                refine TL.done ?_
                exact TC.nrm () () ⟨(by rw [c8]; rfl), rfl, rfl, rfl, rfl, rfl, rfl, rfl, rfl, rfl, (by rw [c8]; rfl), trivial⟩ [0] rfl
            · refine TL.done ?_
              refine TC.join (σ := Unit) (γ := Unit) (Γ' := (fun _ _ => [(1, bp b_1 0), (3, .int .i64 x1), (4, .int .i64 x3), (5, .int .i64 x4)])) (L' := (fun _ _ => [box b_1 37 [.one (.int .i64 x1), .arr 36 (enf u8v x2)]])) ?_ ?_
              · refine TC.cond (b := ((decide (x3 ≥ x1)) || (decide (x4 ≥ x1)))) rfl (fun c9 => ?_) (fun c10 => ?_)
                · refine TC.seq ?_
                  refine TC.region ?_
                  refine TL.move rfl rfl (v := .int .i64 x3) rfl ?_
                  refine TL.move rfl rfl (v := .int .i64 x4) rfl ?_
                  refine TL.fa Try.underlying37 rfl Try.sizeOf33 rfl 1 rfl rfl rfl rfl ?_
                  refine TL.chk fun h1 => ?_
                  refine TL.ixa x3 (1 + x3.toNat * 6) h1 Try.underlying33 Try.sizeOf32 rfl rfl rfl rfl (by omega) ?_
                  refine TL.chk fun h2 => ?_
                  refine TL.ixa x4 (1 + (x3.toNat * 6 + x4.toNat)) h2 Try.underlying32 Try.sizeOf5 rfl rfl rfl rfl (by omega) ?_
                  refine TL.loadA (x3.toNat * 6 + x4.toNat) 1 (Src.box 0 rfl) Try.isAgg5 rfl (by omega) (v := u8v (x2 (x3.toNat * 6 + x4.toNat))) rfl (st := 1) rfl (by omega) rfl rfl rfl ?_
                  refine TL.bin .u8 ((x2 (x3.toNat * 6 + x4.toNat)).toNat : Int) ((0 : UInt8).toNat : Int) rfl rfl rfl rfl (v := .bool (((x2 (x3.toNat * 6 + x4.toNat)).toNat : Int) != ((0 : UInt8).toNat : Int))) rfl ?_
                  refine TL.done ?_
                  refine TC.cond (b := (((x2 (x3.toNat * 6 + x4.toNat)).toNat : Int) != ((0 : UInt8).toNat : Int))) rfl (fun c11 => ?_) (fun c12 => ?_)
                  · refine TC.seq ?_
                    refine TC.region ?_
                    refine TL.assign rfl rfl (v := .bool false) rfl ?_
                    refine TL.done ?_
                    exact TC.retF (Fin.join (by simp) (Fin.loop Far.ret (Fin.loop Far.ret (Fin.body (fin1 (.inr rfl) rfl (.tmp rfl) [] rfl ⟨rfl, rfl⟩)))))
                  · refine TC.skip ?_
                    exact TC.inl (()) (()) ⟨rfl, rfl, rfl, rfl, trivial⟩ [0] rfl
                · refine TC.seq ?_
                  refine TC.region ?_
                  refine TL.move rfl rfl (v := .int .i64 x3) rfl ?_
                  refine TL.move rfl rfl (v := .int .i64 x4) rfl ?_
                  refine TL.fa Try.underlying37 rfl Try.sizeOf33 rfl 1 rfl rfl rfl rfl ?_
                  refine TL.chk fun h3 => ?_
                  refine TL.ixa x3 (1 + x3.toNat * 6) h3 Try.underlying33 Try.sizeOf32 rfl rfl rfl rfl (by omega) ?_
                  refine TL.chk fun h4 => ?_
                  refine TL.ixa x4 (1 + (x3.toNat * 6 + x4.toNat)) h4 Try.underlying32 Try.sizeOf5 rfl rfl rfl rfl (by omega) ?_
                  refine TL.loadA (x3.toNat * 6 + x4.toNat) 1 (Src.box 0 rfl) Try.isAgg5 rfl (by omega) (v := u8v (x2 (x3.toNat * 6 + x4.toNat))) rfl (st := 1) rfl (by omega) rfl rfl rfl ?_
                  refine TL.conv .u8 .i64 ((x2 (x3.toNat * 6 + x4.toNat)).toNat : Int) _ rfl rfl rfl Try.underlying5 Try.underlying2 (v := .int .i64 ((x2 (x3.toNat * 6 + x4.toNat)).toNat : Int)) (conv_u8_i64 _) ?_
                  refine TL.move rfl rfl (v := .int .i64 x1) rfl ?_
                  refine TL.bin .i64 ((x2 (x3.toNat * 6 + x4.toNat)).toNat : Int) x1 rfl rfl rfl rfl (v := .bool (decide (((x2 (x3.toNat * 6 + x4.toNat)).toNat : Int) ≥ x1))) rfl ?_
                  refine TL.done ?_
                  refine TC.cond (b := (decide (((x2 (x3.toNat * 6 + x4.toNat)).toNat : Int) ≥ x1))) rfl (fun c13 => ?_) (fun c14 => ?_)
                  · refine TC.seq ?_
                    refine TC.region ?_
                    refine TL.assign rfl rfl (v := .bool false) rfl ?_
                    refine TL.done ?_
                    exact TC.retF (Fin.join (by simp) (Fin.loop Far.ret (Fin.loop Far.ret (Fin.body (fin1 (.inr rfl) rfl (.tmp rfl) [] rfl ⟨rfl, rfl⟩)))))
                  · refine TC.skip ?_
                    exact TC.inl (()) (()) ⟨rfl, rfl, rfl, rfl, trivial⟩ [0] rfl
              · rintro _ _
                refine TC.region ?_
                refine TL.move rfl rfl (v := .int .i64 x4) rfl ?_
                refine TL.bin .i64 x4 1 rfl rfl rfl rfl (v := .int .i64 (w64 (x4 + 1))) rfl ?_
                refine TL.assign rfl rfl (v := .int .i64 (w64 (x4 + 1))) rfl ?_
                refine TL.done ?_
                exact TC.next ((w64 (x4 + 1))) (()) ⟨rfl, rfl, rfl, rfl, trivial⟩ [0] rfl
          · exact TC.brk (x4) (()) ⟨rfl, rfl, rfl, rfl, trivial⟩ [0] rfl
        · rintro x4 _
          refine TC.region ?_
          refine TL.move rfl rfl (v := .int .i64 x3) rfl ?_
          refine TL.bin .i64 x3 1 rfl rfl rfl rfl (v := .int .i64 (w64 (x3 + 1))) rfl ?_
          refine TL.assign rfl rfl (v := .int .i64 (w64 (x3 + 1))) rfl ?_
          refine TL.done ?_
          exact TC.next ((w64 (x3 + 1))) (()) ⟨rfl, rfl, rfl, trivial⟩ [0] rfl
      · exact TC.brk (x3) (()) ⟨rfl, rfl, rfl, trivial⟩ [0] rfl
    · rintro x3 _
      refine TC.seq ?_
      refine TC.seq ?_
      refine TC.region ?_
      refine TL.assign rfl rfl (v := .int .i64 0) rfl ?_
      refine TL.done ?_
      refine TC.loopK (σ := Int) (γ := Unit) (Γ' := (fun x5 _ => [(1, bp b_1 0), (3, .int .i64 x1), (6, .int .i64 x5)])) (L' := (fun x5 _ => [box b_1 37 [.one (.int .i64 x1), .arr 36 (enf u8v x2)]])) (Γb := (fun x5 _ => [(1, bp b_1 0), (3, .int .i64 x1), (6, .int .i64 x5)])) (Lb := (fun x5 _ => [box b_1 37 [.one (.int .i64 x1), .arr 36 (enf u8v x2)]])) (0) (()) ⟨rfl, rfl, rfl, trivial⟩ [0] rfl ?_ ?_
      · rintro x5 _
        refine TC.seq ?_
        refine TC.seq ?_
        refine TC.region ?_
        refine TL.move rfl rfl (v := .int .i64 x5) rfl ?_
        refine TL.move rfl rfl (v := .int .i64 x1) rfl ?_
        refine TL.bin .i64 x5 x1 rfl rfl rfl rfl (v := .bool (decide (x5 < x1))) rfl ?_
        refine TL.done ?_
        refine TC.cond (b := (decide (x5 < x1))) rfl (fun c15 => ?_) (fun c16 => ?_)
        · refine TC.skip ?_
          refine TC.seq ?_
          refine TC.block (NoEx.loop rfl NoEx.body) ?_
          refine TC.seq ?_
          refine TC.region ?_
          refine TL.assign rfl rfl (v := .bool false) rfl ?_
          refine TL.done ?_
          refine TC.seq ?_
          refine TC.seq ?_
          refine TC.region ?_
          refine TL.assign rfl rfl (v := .int .i64 0) rfl ?_
          refine TL.done ?_
          refine TC.loopK (σ := Bool × Int) (γ := Unit) (Γ' := (fun p q => match p, q with | (x6, x7), _ => [(1, bp b_1 0), (3, .int .i64 x1), (6, .int .i64 x5), (7, .bool x6), (8, .int .i64 x7)])) (L' := (fun p q => match p, q with | (x6, x7), _ => [box b_1 37 [.one (.int .i64 x1), .arr 36 (enf u8v x2)]])) (Γb := (fun p q => match p, q with | (x6, x7), _ => [(1, bp b_1 0), (3, .int .i64 x1), (6, .int .i64 x5), (7, .bool x6), (8, .int .i64 x7)])) (Lb := (fun p q => match p, q with | (x6, x7), _ => [box b_1 37 [.one (.int .i64 x1), .arr 36 (enf u8v x2)]])) ((false, 0)) (()) ⟨rfl, rfl, rfl, rfl, rfl, trivial⟩ [0] rfl ?_ ?_
          · rintro ⟨x6, x7⟩ _
            refine TC.seq ?_
            refine TC.seq ?_
            refine TC.region ?_
            refine TL.move rfl rfl (v := .int .i64 x7) rfl ?_
            refine TL.move rfl rfl (v := .int .i64 x1) rfl ?_
            refine TL.bin .i64 x7 x1 rfl rfl rfl rfl (v := .bool (decide (x7 < x1))) rfl ?_
            refine TL.done ?_
            refine TC.cond (b := (decide (x7 < x1))) rfl (fun c17 => ?_) (fun c18 => ?_)
            · refine TC.skip ?_
              refine TC.seq ?_
              refine TC.block (NoEx.loop rfl (NoEx.loop rfl NoEx.body)) ?_
              refine TC.seq ?_
              refine TC.region ?_
              refine TL.move rfl rfl (v := .bool x6) rfl ?_
              refine TL.move rfl rfl (v := .bool x6) rfl ?_
              refine TL.cutJ (σ := Bool) (γ := Unit) (Γ' := fun b_2 _ => [(75, .bool b_2), (1, bp b_1 0), (3, .int .i64 x1), (6, .int .i64 x5), (7, .bool x6), (8, .int .i64 x7), (52, .int .i64 x7), (53, .int .i64 x1), (54, .bool (decide (x7 < x1))), (57, .bool x6), (58, .bool x6)]) (L' := fun _ _ => [box b_1 37 [.one (.int .i64 x1), .arr 36 (enf u8v x2)]]) 17 ?_ ?_
              · refine TL.ifb (t := 58) (b := x6) rfl (fun c19 => ?_) (fun c20 => ?_)
                · refine TL.skip rfl rfl (by decide) ?_
                  refine TL.skip rfl rfl (by decide) ?_
                  refine TL.skip rfl rfl (by decide) ?_
                  refine TL.skip rfl rfl (by decide) ?_
                  refine TL.skip rfl rfl (by decide) ?_
                  refine TL.skip rfl rfl (by decide) ?_
                  refine TL.skip rfl rfl (by decide) ?_
                  refine TL.skip rfl rfl (by decide) ?_
                  refine TL.skip rfl rfl (by decide) ?_
                  refine TL.skip rfl rfl (by decide) ?_
                  refine TL.skip rfl rfl (by decide) ?_
                  refine TL.skip rfl rfl (by decide) ?_
                  refine TL.skip rfl rfl (by decide) ?_
                  refine TL.skip rfl rfl (by decide) ?_
                  refine TL.skip rfl rfl (by decide) ?_
                  refine TL.skip rfl rfl (by decide) ?_
                  refine TL.pick rfl rfl (b := true) rfl (r := .bool true) rfl ?_
                  refine TL.done ?_
                  exact TC.nrm (true) () ⟨rfl, rfl, rfl, rfl, rfl, rfl, rfl, rfl, rfl, rfl, (by rw [c19]; rfl), trivial⟩ [0] rfl
                · refine TL.move rfl rfl (v := .int .i64 x5) rfl ?_
                  refine TL.move rfl rfl (v := .int .i64 x7) rfl ?_
                  refine TL.fa Try.underlying37 rfl Try.sizeOf33 rfl 1 rfl rfl rfl rfl ?_
                  refine TL.chk fun h5 => ?_
                  refine TL.ixa x5 (1 + x5.toNat * 6) h5 Try.underlying33 Try.sizeOf32 rfl rfl rfl rfl (by omega) ?_
                  refine TL.chk fun h6 => ?_
                  refine TL.ixa x7 (1 + (x5.toNat * 6 + x7.toNat)) h6 Try.underlying32 Try.sizeOf5 rfl rfl rfl rfl (by omega) ?_
                  refine TL.loadA (x5.toNat * 6 + x7.toNat) 1 (Src.box 0 rfl) Try.isAgg5 rfl (by omega) (v := u8v (x2 (x5.toNat * 6 + x7.toNat))) rfl (st := 1) rfl (by omega) rfl rfl rfl ?_
                  refine TL.bin .u8 ((x2 (x5.toNat * 6 + x7.toNat)).toNat : Int) ((0 : UInt8).toNat : Int) rfl rfl rfl rfl (v := .bool (((x2 (x5.toNat * 6 + x7.toNat)).toNat : Int) == ((0 : UInt8).toNat : Int))) rfl ?_
                  refine TL.move rfl rfl (v := .bool (((x2 (x5.toNat * 6 + x7.toNat)).toNat : Int) == ((0 : UInt8).toNat : Int))) rfl ?_
                  refine TL.cutU 8 [(74, .bool ((((x2 (x5.toNat * 6 + x7.toNat)).toNat : Int) == ((0 : UInt8).toNat : Int)) && (((x2 (x7.toNat * 6 + x5.toNat)).toNat : Int) == ((0 : UInt8).toNat : Int)))), (1, bp b_1 0), (3, .int .i64 x1), (6, .int .i64 x5), (7, .bool x6), (8, .int .i64 x7), (52, .int .i64 x7), (53, .int .i64 x1), (54, .bool (decide (x7 < x1))), (57, .bool x6), (58, .bool false), (59, .int .i64 x5), (60, .int .i64 x7), (61, bp b_1 1), (62, bp b_1 (1 + x5.toNat * 6)), (63, bp b_1 (1 + (x5.toNat * 6 + x7.toNat))), (64, u8v (x2 (x5.toNat * 6 + x7.toNat))), (65, .bool (((x2 (x5.toNat * 6 + x7.toNat)).toNat : Int) == ((0 : UInt8).toNat : Int))), (66, .bool (((x2 (x5.toNat * 6 + x7.toNat)).toNat : Int) == ((0 : UInt8).toNat : Int)))] [box b_1 37 [.one (.int .i64 x1), .arr 36 (enf u8v x2)]] ?_ ?_
                  · refine TL.cases (t := 66) (b := (((x2 (x5.toNat * 6 + x7.toNat)).toNat : Int) == ((0 : UInt8).toNat : Int))) rfl (fun c21 => ?_) (fun c22 => ?_)
                    · refine TL.move rfl rfl (v := .int .i64 x7) rfl ?_
                      refine TL.move rfl rfl (v := .int .i64 x5) rfl ?_
                      refine TL.fa Try.underlying37 rfl Try.sizeOf33 rfl 1 rfl rfl rfl rfl ?_
                      refine TL.ixa x7 (1 + x7.toNat * 6) h6 Try.underlying33 Try.sizeOf32 rfl rfl rfl rfl (by omega) ?_
                      refine TL.ixa x5 (1 + (x7.toNat * 6 + x5.toNat)) h5 Try.underlying32 Try.sizeOf5 rfl rfl rfl rfl (by omega) ?_
                      refine TL.loadA (x7.toNat * 6 + x5.toNat) 1 (Src.box 0 rfl) Try.isAgg5 rfl (by omega) (v := u8v (x2 (x7.toNat * 6 + x5.toNat))) rfl (st := 1) rfl (by omega) rfl rfl rfl ?_
                      refine TL.bin .u8 ((x2 (x7.toNat * 6 + x5.toNat)).toNat : Int) ((0 : UInt8).toNat : Int) rfl rfl rfl rfl (v := .bool (((x2 (x7.toNat * 6 + x5.toNat)).toNat : Int) == ((0 : UInt8).toNat : Int))) rfl ?_
                      refine TL.pick rfl rfl (b := true) rfl (r := .bool (((x2 (x7.toNat * 6 + x5.toNat)).toNat : Int) == ((0 : UInt8).toNat : Int))) rfl ?_
                      refine TL.done ?_
                      exact TC.nrm () () ⟨(by rw [c21]; rfl), rfl, rfl, rfl, rfl, rfl, rfl, rfl, rfl, rfl, rfl, rfl, rfl, rfl, rfl, rfl, rfl, rfl, (by rw [c21]; rfl), trivial⟩ [0] rfl
                    · refine TL.skip rfl rfl (by decide) ?_
                      refine TL.skip rfl rfl (by decide) ?_
                      refine TL.skip rfl rfl (by decide) ?_
                      refine TL.skip rfl rfl (by decide) ?_
                      refine TL.skip rfl rfl (by decide) ?_
                      refine TL.skip rfl rfl (by decide) ?_
                      refine TL.skip rfl rfl (by decide) ?_
                      refine TL.pick rfl rfl (b := false) rfl (r := .bool false) rfl ?_
                      refine TL.done ?_
                      exact TC.nrm () () ⟨(by rw [c22]; rfl), rfl, rfl, rfl, rfl, rfl, rfl, rfl, rfl, rfl, rfl, rfl, rfl, rfl, rfl, rfl, rfl, rfl, (by rw [c22]; rfl), trivial⟩ [0] rfl
                  · refine TL.pick rfl rfl (b := false) rfl (r := .bool ((((x2 (x5.toNat * 6 + x7.toNat)).toNat : Int) == ((0 : UInt8).toNat : Int)) && (((x2 (x7.toNat * 6 + x5.toNat)).toNat : Int) == ((0 : UInt8).toNat : Int)))) rfl ?_
                    refine TL.done ?_
                    exact TC.nrm (((((x2 (x5.toNat * 6 + x7.toNat)).toNat : Int) == ((0 : UInt8).toNat : Int)) && (((x2 (x7.toNat * 6 + x5.toNat)).toNat : Int) == ((0 : UInt8).toNat : Int)))) () ⟨rfl, rfl, rfl, rfl, rfl, rfl, rfl, rfl, rfl, rfl, (by rw [c20]; rfl), trivial⟩ [0] rfl
              · rintro b_2 _
                refine TL.assign rfl rfl (v := .bool b_2) rfl ?_
                refine TL.done ?_
                refine TC.seq ?_
                refine TC.region ?_
                refine TL.assign rfl rfl (v := .int .i64 0) rfl ?_
                refine TL.done ?_
                refine TC.loopK (σ := Int) (γ := Unit) (Γ' := (fun x8 _ => [(1, bp b_1 0), (3, .int .i64 x1), (6, .int .i64 x5), (7, .bool b_2), (8, .int .i64 x7), (9, .int .i64 x8)])) (L' := (fun x8 _ => [box b_1 37 [.one (.int .i64 x1), .arr 36 (enf u8v x2)]])) (Γb := (fun x8 _ => [(1, bp b_1 0), (3, .int .i64 x1), (6, .int .i64 x5), (7, .bool b_2), (8, .int .i64 x7), (9, .int .i64 x8)])) (Lb := (fun x8 _ => [box b_1 37 [.one (.int .i64 x1), .arr 36 (enf u8v x2)]])) (0) (()) ⟨rfl, rfl, rfl, rfl, rfl, rfl, trivial⟩ [0] rfl ?_ ?_
                · rintro x8 _
                  refine TC.seq ?_
                  refine TC.seq ?_
                  refine TC.region ?_
                  refine TL.move rfl rfl (v := .int .i64 x8) rfl ?_
                  refine TL.move rfl rfl (v := .int .i64 x1) rfl ?_
                  refine TL.bin .i64 x8 x1 rfl rfl rfl rfl (v := .bool (decide (x8 < x1))) rfl ?_
                  refine TL.done ?_
                  refine TC.cond (b := (decide (x8 < x1))) rfl (fun c23 => ?_) (fun c24 => ?_)
                  · refine TC.skip ?_
                    refine TC.seq ?_
                    refine TC.block (NoEx.loop rfl (NoEx.loop rfl (NoEx.loop rfl NoEx.body))) ?_
                    refine TC.seq ?_
                    refine TC.wk (Γ' := [(1, bp b_1 0), (3, .int .i64 x1), (6, .int .i64 x5), (7, .bool b_2), (8, .int .i64 x7), (9, .int .i64 x8), (76, .int .i64 x8), (77, .int .i64 x1), (78, .bool (decide (x8 < x1)))]) ⟨rfl, rfl, rfl, rfl, rfl, rfl, rfl, rfl, rfl, trivial⟩ ?_
                    refine TC.chk fun h7 => ?_
                    refine TC.chk fun h8 => ?_
                    refine TC.chk fun h9 => ?_
                    refine TC.chk fun h10 => ?_
                    refine TC.chk fun h11 => ?_
                    refine TC.draw [.int .i64 x5, .int .i64 x7, bp b_1 1, bp b_1 (1 + x5.toNat * 6), bp b_1 (1 + (x5.toNat * 6 + x7.toNat)), u8v (x2 (x5.toNat * 6 + x7.toNat)), .int .i64 x8, bp b_1 1, bp b_1 (1 + (x2 (x5.toNat * 6 + x7.toNat)).toNat * 6), bp b_1 (1 + ((x2 (x5.toNat * 6 + x7.toNat)).toNat * 6 + x8.toNat)), u8v (x2 ((x2 (x5.toNat * 6 + x7.toNat)).toNat * 6 + x8.toNat)), .int .i64 x5, .int .i64 x7, .int .i64 x8, bp b_1 1, bp b_1 (1 + x7.toNat * 6), bp b_1 (1 + (x7.toNat * 6 + x8.toNat)), u8v (x2 (x7.toNat * 6 + x8.toNat)), bp b_1 1, bp b_1 (1 + x5.toNat * 6), bp b_1 (1 + (x5.toNat * 6 + (x2 (x7.toNat * 6 + x8.toNat)).toNat)), u8v (x2 (x5.toNat * 6 + (x2 (x7.toNat * 6 + x8.toNat)).toNat)), .bool (((x2 ((x2 (x5.toNat * 6 + x7.toNat)).toNat * 6 + x8.toNat)).toNat : Int) != ((x2 (x5.toNat * 6 + (x2 (x7.toNat * 6 + x8.toNat)).toNat)).toNat : Int))] 23 [box b_1 37 [.one (.int .i64 x1), .arr 36 (enf u8v x2)]] (by kernel_rfl) rfl rfl rfl rfl ?_ ?_
                    · refine ⟨?_, ?_, ?_, ?_, ?_, ?_, ?_, ?_, ?_, ?_, ?_, ?_, ?_, ?_, ?_, ?_, ?_, ?_, ?_, ?_, ?_, ?_, ?_, trivial⟩
                      · refine TL.move rfl rfl (v := .int .i64 x5) rfl ?_
                        refine TL.done ?_
                        exact TC.nrm () () ⟨rfl, trivial⟩ [0] rfl
                      · refine TL.move rfl rfl (v := .int .i64 x7) rfl ?_
                        refine TL.done ?_
                        exact TC.nrm () () ⟨rfl, trivial⟩ [0] rfl
                      · refine TL.fa Try.underlying37 rfl Try.sizeOf33 rfl 1 rfl rfl rfl rfl ?_
                        refine TL.done ?_
                        exact TC.nrm () () ⟨rfl, trivial⟩ [0] rfl
                      · refine TL.ixa x5 (1 + x5.toNat * 6) h7 Try.underlying33 Try.sizeOf32 rfl rfl rfl rfl (by omega) ?_
                        refine TL.done ?_
                        exact TC.nrm () () ⟨rfl, trivial⟩ [0] rfl
                      · refine TL.ixa x7 (1 + (x5.toNat * 6 + x7.toNat)) h8 Try.underlying32 Try.sizeOf5 rfl rfl rfl rfl (by omega) ?_
                        refine TL.done ?_
                        exact TC.nrm () () ⟨rfl, trivial⟩ [0] rfl
                      · refine TL.loadA (x5.toNat * 6 + x7.toNat) 1 (Src.box 0 rfl) Try.isAgg5 rfl (by omega) (v := u8v (x2 (x5.toNat * 6 + x7.toNat))) rfl (st := 1) rfl (by omega) rfl rfl rfl ?_
                        refine TL.done ?_
                        exact TC.nrm () () ⟨rfl, trivial⟩ [0] rfl
                      · refine TL.move rfl rfl (v := .int .i64 x8) rfl ?_
                        refine TL.done ?_
                        exact TC.nrm () () ⟨rfl, trivial⟩ [0] rfl
                      · refine TL.fa Try.underlying37 rfl Try.sizeOf33 rfl 1 rfl rfl rfl rfl ?_
                        refine TL.done ?_
                        exact TC.nrm () () ⟨rfl, trivial⟩ [0] rfl
                      · refine TL.ixa ((x2 (x5.toNat * 6 + x7.toNat)).toNat : Int) (1 + (x2 (x5.toNat * 6 + x7.toNat)).toNat * 6) h9 Try.underlying33 Try.sizeOf32 rfl rfl rfl rfl (by omega) ?_
                        refine TL.done ?_
                        exact TC.nrm () () ⟨rfl, trivial⟩ [0] rfl
                      · refine TL.ixa x8 (1 + ((x2 (x5.toNat * 6 + x7.toNat)).toNat * 6 + x8.toNat)) h10 Try.underlying32 Try.sizeOf5 rfl rfl rfl rfl (by omega) ?_
                        refine TL.done ?_
                        exact TC.nrm () () ⟨rfl, trivial⟩ [0] rfl
                      · refine TL.loadA ((x2 (x5.toNat * 6 + x7.toNat)).toNat * 6 + x8.toNat) 1 (Src.box 0 rfl) Try.isAgg5 rfl (by omega) (v := u8v (x2 ((x2 (x5.toNat * 6 + x7.toNat)).toNat * 6 + x8.toNat))) rfl (st := 1) rfl (by omega) rfl rfl rfl ?_
                        refine TL.done ?_
                        exact TC.nrm () () ⟨rfl, trivial⟩ [0] rfl
                      · refine TL.move rfl rfl (v := .int .i64 x5) rfl ?_
                        refine TL.done ?_
                        exact TC.nrm () () ⟨rfl, trivial⟩ [0] rfl
                      · refine TL.move rfl rfl (v := .int .i64 x7) rfl ?_
                        refine TL.done ?_
                        exact TC.nrm () () ⟨rfl, trivial⟩ [0] rfl
                      · refine TL.move rfl rfl (v := .int .i64 x8) rfl ?_
                        refine TL.done ?_
                        exact TC.nrm () () ⟨rfl, trivial⟩ [0] rfl
                      · refine TL.fa Try.underlying37 rfl Try.sizeOf33 rfl 1 rfl rfl rfl rfl ?_
                        refine TL.done ?_
                        exact TC.nrm () () ⟨rfl, trivial⟩ [0] rfl
                      · refine TL.ixa x7 (1 + x7.toNat * 6) h8 Try.underlying33 Try.sizeOf32 rfl rfl rfl rfl (by omega) ?_
                        refine TL.done ?_
                        exact TC.nrm () () ⟨rfl, trivial⟩ [0] rfl
                      · refine TL.ixa x8 (1 + (x7.toNat * 6 + x8.toNat)) h10 Try.underlying32 Try.sizeOf5 rfl rfl rfl rfl (by omega) ?_
                        refine TL.done ?_
                        exact TC.nrm () () ⟨rfl, trivial⟩ [0] rfl
                      · refine TL.loadA (x7.toNat * 6 + x8.toNat) 1 (Src.box 0 rfl) Try.isAgg5 rfl (by omega) (v := u8v (x2 (x7.toNat * 6 + x8.toNat))) rfl (st := 1) rfl (by omega) rfl rfl rfl ?_
                        refine TL.done ?_
                        exact TC.nrm () () ⟨rfl, trivial⟩ [0] rfl
                      · refine TL.fa Try.underlying37 rfl Try.sizeOf33 rfl 1 rfl rfl rfl rfl ?_
                        refine TL.done ?_
                        exact TC.nrm () () ⟨rfl, trivial⟩ [0] rfl
                      · refine TL.ixa x5 (1 + x5.toNat * 6) h7 Try.underlying33 Try.sizeOf32 rfl rfl rfl rfl (by omega) ?_
                        refine TL.done ?_
                        exact TC.nrm () () ⟨rfl, trivial⟩ [0] rfl
                      · refine TL.ixa ((x2 (x7.toNat * 6 + x8.toNat)).toNat : Int) (1 + (x5.toNat * 6 + (x2 (x7.toNat * 6 + x8.toNat)).toNat)) h11 Try.underlying32 Try.sizeOf5 rfl rfl rfl rfl (by omega) ?_
                        refine TL.done ?_
                        exact TC.nrm () () ⟨rfl, trivial⟩ [0] rfl
                      · refine TL.loadA (x5.toNat * 6 + (x2 (x7.toNat * 6 + x8.toNat)).toNat) 1 (Src.box 0 rfl) Try.isAgg5 rfl (by omega) (v := u8v (x2 (x5.toNat * 6 + (x2 (x7.toNat * 6 + x8.toNat)).toNat))) rfl (st := 1) rfl (by omega) rfl rfl rfl ?_
                        refine TL.done ?_
                        exact TC.nrm () () ⟨rfl, trivial⟩ [0] rfl
                      · refine TL.bin .u8 ((x2 ((x2 (x5.toNat * 6 + x7.toNat)).toNat * 6 + x8.toNat)).toNat : Int) ((x2 (x5.toNat * 6 + (x2 (x7.toNat * 6 + x8.toNat)).toNat)).toNat : Int) rfl rfl rfl rfl (v := .bool (((x2 ((x2 (x5.toNat * 6 + x7.toNat)).toNat * 6 + x8.toNat)).toNat : Int) != ((x2 (x5.toNat * 6 + (x2 (x7.toNat * 6 + x8.toNat)).toNat)).toNat : Int))) rfl ?_
                        refine TL.done ?_
                        exact TC.nrm () () ⟨rfl, trivial⟩ [0] rfl
                    · refine TC.cond (b := (((x2 ((x2 (x5.toNat * 6 + x7.toNat)).toNat * 6 + x8.toNat)).toNat : Int) != ((x2 (x5.toNat * 6 + (x2 (x7.toNat * 6 + x8.toNat)).toNat)).toNat : Int))) rfl (fun c25 => ?_) (fun c26 => ?_)
                      · refine TC.seq ?_
                        refine TC.region ?_
                        refine TL.assign rfl rfl (v := .bool false) rfl ?_
                        refine TL.done ?_
                        exact TC.retF (Fin.loop Far.ret (Fin.loop Far.ret (Fin.loop Far.ret (Fin.body (fin1 (.inr rfl) rfl (.tmp rfl) [] rfl ⟨rfl, rfl⟩)))))
                      · refine TC.skip ?_
                        refine TC.region ?_
                        refine TL.move rfl rfl (v := .int .i64 x8) rfl ?_
                        refine TL.bin .i64 x8 1 rfl rfl rfl rfl (v := .int .i64 (w64 (x8 + 1))) rfl ?_
                        refine TL.assign rfl rfl (v := .int .i64 (w64 (x8 + 1))) rfl ?_
                        refine TL.done ?_
                        exact TC.next ((w64 (x8 + 1))) (()) ⟨rfl, rfl, rfl, rfl, rfl, rfl, trivial⟩ [0] rfl
                  · exact TC.brk (x8) (()) ⟨rfl, rfl, rfl, rfl, rfl, rfl, trivial⟩ [0] rfl
                · rintro x8 _
                  refine TC.region ?_
                  refine TL.move rfl rfl (v := .int .i64 x7) rfl ?_
                  refine TL.bin .i64 x7 1 rfl rfl rfl rfl (v := .int .i64 (w64 (x7 + 1))) rfl ?_
                  refine TL.assign rfl rfl (v := .int .i64 (w64 (x7 + 1))) rfl ?_
                  refine TL.done ?_
                  exact TC.next ((b_2, (w64 (x7 + 1)))) (()) ⟨rfl, rfl, rfl, rfl, rfl, trivial⟩ [0] rfl
            · exact TC.brk ((x6, x7)) (()) ⟨rfl, rfl, rfl, rfl, rfl, trivial⟩ [0] rfl
          · rintro ⟨x6, x7⟩ _
            refine TC.seq ?_
            refine TC.region ?_
            refine TL.move rfl rfl (v := .bool x6) rfl ?_
            refine TL.not x6 rfl rfl rfl ?_
            refine TL.move rfl rfl (v := .bool (!x6)) rfl ?_
            refine TL.cutJ (σ := Bool) (γ := Unit) (Γ' := fun b_3 _ => [(115, .bool b_3), (1, bp b_1 0), (3, .int .i64 x1), (6, .int .i64 x5), (7, .bool x6), (8, .int .i64 x7), (104, .bool x6), (105, .bool (!x6)), (106, .bool (!x6))]) (L' := fun _ _ => [box b_1 37 [.one (.int .i64 x1), .arr 36 (enf u8v x2)]]) 9 ?_ ?_
            · refine TL.ifb (t := 106) (b := (!x6)) rfl (fun c27 => ?_) (fun c28 => ?_)
              · refine TL.skip rfl rfl (by decide) ?_
                refine TL.skip rfl rfl (by decide) ?_
                refine TL.skip rfl rfl (by decide) ?_
                refine TL.skip rfl rfl (by decide) ?_
                refine TL.skip rfl rfl (by decide) ?_
                refine TL.skip rfl rfl (by decide) ?_
                refine TL.skip rfl rfl (by decide) ?_
                refine TL.skip rfl rfl (by decide) ?_
                refine TL.pick rfl rfl (b := true) rfl (r := .bool true) rfl ?_
                refine TL.done ?_
                exact TC.nrm (true) () ⟨rfl, rfl, rfl, rfl, rfl, rfl, rfl, rfl, (by rw [c27]; rfl), trivial⟩ [0] rfl
              · refine TL.move rfl rfl (v := .int .i64 x5) rfl ?_
                refine TL.fa Try.underlying37 rfl Try.sizeOf33 rfl 1 rfl rfl rfl rfl ?_
                refine TL.ixa 0 1 (by decide) Try.underlying33 Try.sizeOf32 rfl rfl rfl rfl rfl ?_
                refine TL.chk fun h12 => ?_
                refine TL.ixa x5 (1 + x5.toNat) h12 Try.underlying32 Try.sizeOf5 rfl rfl rfl rfl (by omega) ?_
                refine TL.loadA x5.toNat 1 (Src.box 0 rfl) Try.isAgg5 rfl (by omega) (v := u8v (x2 x5.toNat)) rfl (st := 1) rfl (by omega) rfl rfl rfl ?_
                refine TL.conv .u8 .i64 ((x2 x5.toNat).toNat : Int) _ rfl rfl rfl Try.underlying5 Try.underlying2 (v := .int .i64 ((x2 x5.toNat).toNat : Int)) (conv_u8_i64 _) ?_
                refine TL.move rfl rfl (v := .int .i64 x5) rfl ?_
                refine TL.bin .i64 ((x2 x5.toNat).toNat : Int) x5 rfl rfl rfl rfl (v := .bool (((x2 x5.toNat).toNat : Int) != x5)) rfl ?_
                refine TL.pick rfl rfl (b := false) rfl (r := .bool (((x2 x5.toNat).toNat : Int) != x5)) rfl ?_
                refine TL.done ?_
                exact TC.nrm ((((x2 x5.toNat).toNat : Int) != x5)) () ⟨rfl, rfl, rfl, rfl, rfl, rfl, rfl, rfl, (by rw [c28]; rfl), trivial⟩ [0] rfl
            · rintro b_3 _
              refine TL.move rfl rfl (v := .bool b_3) rfl ?_
              refine TL.cutJ (σ := Bool) (γ := Unit) (Γ' := fun b_4 _ => [(125, .bool b_4), (1, bp b_1 0), (3, .int .i64 x1), (6, .int .i64 x5), (7, .bool x6), (8, .int .i64 x7), (104, .bool x6), (105, .bool (!x6)), (106, .bool (!x6)), (115, .bool b_3), (116, .bool b_3)]) (L' := fun _ _ => [box b_1 37 [.one (.int .i64 x1), .arr 36 (enf u8v x2)]]) 9 ?_ ?_
              · refine TL.ifb (t := 116) (b := b_3) rfl (fun c29 => ?_) (fun c30 => ?_)
                · refine TL.skip rfl rfl (by decide) ?_
                  refine TL.skip rfl rfl (by decide) ?_
                  refine TL.skip rfl rfl (by decide) ?_
                  refine TL.skip rfl rfl (by decide) ?_
                  refine TL.skip rfl rfl (by decide) ?_
                  refine TL.skip rfl rfl (by decide) ?_
                  refine TL.skip rfl rfl (by decide) ?_
                  refine TL.skip rfl rfl (by decide) ?_
                  refine TL.pick rfl rfl (b := true) rfl (r := .bool true) rfl ?_
                  refine TL.done ?_
                  exact TC.nrm (true) () ⟨rfl, rfl, rfl, rfl, rfl, rfl, rfl, rfl, rfl, rfl, (by rw [c29]; rfl), trivial⟩ [0] rfl
                · refine TL.move rfl rfl (v := .int .i64 x5) rfl ?_
                  refine TL.fa Try.underlying37 rfl Try.sizeOf33 rfl 1 rfl rfl rfl rfl ?_
                  refine TL.chk fun h13 => ?_
                  refine TL.ixa x5 (1 + x5.toNat * 6) h13 Try.underlying33 Try.sizeOf32 rfl rfl rfl rfl (by omega) ?_
                  refine TL.ixa 0 (1 + x5.toNat * 6) (by decide) Try.underlying32 Try.sizeOf5 rfl rfl rfl rfl (by omega) ?_
                  refine TL.loadA (x5.toNat * 6) 1 (Src.box 0 rfl) Try.isAgg5 rfl (by omega) (v := u8v (x2 (x5.toNat * 6))) rfl (st := 1) rfl (by omega) rfl rfl rfl ?_
                  refine TL.conv .u8 .i64 ((x2 (x5.toNat * 6)).toNat : Int) _ rfl rfl rfl Try.underlying5 Try.underlying2 (v := .int .i64 ((x2 (x5.toNat * 6)).toNat : Int)) (conv_u8_i64 _) ?_
                  refine TL.move rfl rfl (v := .int .i64 x5) rfl ?_
                  refine TL.bin .i64 ((x2 (x5.toNat * 6)).toNat : Int) x5 rfl rfl rfl rfl (v := .bool (((x2 (x5.toNat * 6)).toNat : Int) != x5)) rfl ?_
                  refine TL.pick rfl rfl (b := false) rfl (r := .bool (((x2 (x5.toNat * 6)).toNat : Int) != x5)) rfl ?_
                  refine TL.done ?_
                  exact TC.nrm ((((x2 (x5.toNat * 6)).toNat : Int) != x5)) () ⟨rfl, rfl, rfl, rfl, rfl, rfl, rfl, rfl, rfl, rfl, (by rw [c30]; rfl), trivial⟩ [0] rfl
              · rintro b_4 _
                refine TL.done ?_
                refine TC.cond (b := b_4) rfl (fun c31 => ?_) (fun c32 => ?_)
                · refine TC.seq ?_
                  refine TC.region ?_
                  refine TL.assign rfl rfl (v := .bool false) rfl ?_
                  refine TL.done ?_
                  exact TC.retF (Fin.loop Far.ret (Fin.body (fin1 (.inr rfl) rfl (.tmp rfl) [] rfl ⟨rfl, rfl⟩)))
                · refine TC.skip ?_
                  refine TC.region ?_
                  refine TL.move rfl rfl (v := .int .i64 x5) rfl ?_
                  refine TL.bin .i64 x5 1 rfl rfl rfl rfl (v := .int .i64 (w64 (x5 + 1))) rfl ?_
                  refine TL.assign rfl rfl (v := .int .i64 (w64 (x5 + 1))) rfl ?_
                  refine TL.done ?_
                  exact TC.next ((w64 (x5 + 1))) (()) ⟨rfl, rfl, rfl, trivial⟩ [0] rfl
        · exact TC.brk (x5) (()) ⟨rfl, rfl, rfl, trivial⟩ [0] rfl
      · rintro x5 _
        refine TC.seq ?_
        refine TC.region ?_
        refine TL.assign rfl rfl (v := .bool true) rfl ?_
        refine TL.done ?_
        exact TC.retF (Fin.body (fin1 (.inr rfl) rfl (.tmp rfl) [] rfl ⟨rfl, rfl⟩))

end Go.Proofs.Ytcombgcjgdkbiaa.G
