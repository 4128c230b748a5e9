/- impl.Group).entriesOk, as a pure function. -/
import Derived.Test.YtcombgcjgdkbiaaProg
import Derived.Test.YtcombgcjgdkbiaaSx9
import Derived.Test.YtcombgcjgdkbiaaQ65
set_option linter.unusedVariables false
namespace Go.Proofs.Ytcombgcjgdkbiaa.G
open Go Go.Sx Go.Proofs

def impl_Group_entriesOk.b0 (g1 : Int) (g2 : Nat → UInt8) (x1 : Int) : Int → Option (LR Int (LR Int Bool)) := fun x2 => (bif (decide (x2 < 6)) then chk x2 6 ((G.impl_Group_n.f g1 g2).bind (fun r_1 => (bif (decide (x1 < r_1)) then (G.impl_Group_n.f g1 g2).bind (fun r_2 => some (decide (x2 < r_2))) else some false).bind (fun b_3 => (bif ((b_3 && (decide ((((sub g2 (x1.toNat * 6)) x2.toNat).toNat : Int) ≥ g1))) || ((!b_3) && ((((sub g2 (x1.toNat * 6)) x2.toNat).toNat : Int) != ((0 : UInt8).toNat : Int)))) then some (.ret (.ret (false))) else some (.next (w64 (x2 + 1))))))) else some (.brk x2))

def impl_Group_entriesOk.b1 (g1 : Int) (g2 : Nat → UInt8) : Int → Option (LR Int Bool) := fun x1 => (bif (decide (x1 < 6)) then chk x1 6 ((loop (impl_Group_entriesOk.b0 g1 g2 x1) 0).bind (ln (fun x2 => some (.next (w64 (x1 + 1)))))) else some (.brk x1))

def impl_Group_entriesOk.f (g1 : Int) (g2 : Nat → UInt8) : Option Bool := (loop (impl_Group_entriesOk.b1 g1 g2) 0).bind (ln (fun x1 => some true))

def impl_Group_entriesOk.R (r : Bool) (v : Value) (L : List Asn) : Prop := v = .bool r ∧ L = []

set_option maxRecDepth 100000 in
set_option maxHeartbeats 4000000 in
theorem impl_Group_entriesOk.calls (w : World) (b_1 : Nat) (g1 : Int) (g2 : Nat → UInt8) (h1 : At (hp w) b_1 [.one (.int .i64 g1), .arr 36 (enf u8v g2)]) :
    ∀ r, impl_Group_entriesOk.f g1 g2 = some r → Calls Try.prog 114 #[bp b_1 0] w (Ret w (impl_Group_entriesOk.R r)) := by

  refine calls_T (n := 51) (Γ := [(0, bp b_1 0)]) (R := impl_Group_entriesOk.R) Try.func114 rfl rfl (Nat.le_of_ble_eq_true rfl) ⟨rfl, trivial⟩ ?_
  unfold impl_Group_entriesOk.f
  refine TC.seq ?_
  refine TC.region ?_
  refine TL.assign rfl rfl (v := .bool false) rfl ?_
  refine TL.done ?_
  refine TC.seq ?_
  refine TC.seq ?_
  refine TC.region ?_
  refine TL.move rfl rfl (v := bp b_1 0) rfl ?_
  refine TL.nilCheck rfl rfl rfl ?_
  refine TL.fa Try.underlying37 rfl Try.sizeOf33 rfl 1 rfl rfl rfl rfl ?_
  refine TL.loadM 1 1 (Src.at h1) Try.isAgg33 Try.sizeOf33 (mid := [.arr 36 (enf u8v g2)]) rfl rfl rfl rfl rfl rfl ?_
  refine TL.move rfl rfl (v := .int .i64 0) rfl ?_
  refine TL.done ?_
  refine TC.loopK (σ := Int) (γ := Unit) (Γ' := (fun x1 _ => [(0, bp b_1 0), (11, sval [.arr 36 (enf u8v g2)]), (12, .int .i64 x1)])) (L' := (fun x1 _ => [])) (Γb := (fun x1 _ => [(0, bp b_1 0), (11, sval [.arr 36 (enf u8v g2)]), (12, .int .i64 x1)])) (Lb := (fun x1 _ => [])) (0) (()) ⟨rfl, rfl, rfl, trivial⟩ [] rfl ?_ ?_
  · rintro x1 _
    refine TC.seq ?_
    refine TC.region ?_
    refine TL.bin .i64 x1 6 rfl rfl rfl rfl (v := .bool (decide (x1 < 6))) rfl ?_
    refine TL.done ?_
    refine TC.seq ?_
    refine TC.cond (b := (decide (x1 < 6))) rfl (fun c1 => ?_) (fun c2 => ?_)
    · refine TC.skip ?_
      refine TC.seq ?_
      refine TC.block (NoEx.loop rfl NoEx.body) ?_
      refine TC.seq ?_
      refine TC.region ?_
      refine TL.move rfl rfl (v := .int .i64 x1) rfl ?_
      refine TL.chk fun h2 => ?_
      refine TL.ixvN x1 h2 Try.underlying33 Try.isAgg32 Try.sizeOf32 rfl (v := sval [.arr 6 (enf u8v (sub g2 (x1.toNat * 6)))]) rfl rfl rfl rfl rfl ?_
      refine TL.alloc [.arr 6 (enf u8v (fun _ => (0 : UInt8)))] rfl rfl Try.zeroValue32 rfl fun b_2 => ?_
      refine TL.assign rfl rfl (v := .int .i64 x1) rfl ?_
      refine TL.stM (news := [.arr 6 (enf u8v (sub g2 (x1.toNat * 6)))]) 0 0 1 rfl Try.sizeOf32 (ones_arr (fun _ => rfl) ones_nil) rfl rfl rfl rfl rfl rfl ?_
      refine TL.done ?_
      refine TC.seq ?_
      refine TC.region ?_
      refine TL.loadM 0 1 (Src.box 0 rfl) Try.isAgg32 Try.sizeOf32 (mid := [.arr 6 (enf u8v (sub g2 (x1.toNat * 6)))]) rfl rfl rfl rfl rfl rfl ?_
      refine TL.move rfl rfl (v := .int .i64 0) rfl ?_
      refine TL.done ?_
      refine TC.loopK (σ := Int) (γ := Unit) (Γ' := (fun x2 _ => [(0, bp b_1 0), (3, .int .i64 x1), (11, sval [.arr 36 (enf u8v g2)]), (12, .int .i64 x1), (16, sval [.arr 6 (enf u8v (sub g2 (x1.toNat * 6)))]), (17, .int .i64 x2)])) (L' := (fun x2 _ => [])) (Γb := (fun x2 _ => [(0, bp b_1 0), (3, .int .i64 x1), (11, sval [.arr 36 (enf u8v g2)]), (12, .int .i64 x1), (16, sval [.arr 6 (enf u8v (sub g2 (x1.toNat * 6)))]), (17, .int .i64 x2)])) (Lb := (fun x2 _ => [])) (0) (()) ⟨rfl, rfl, rfl, rfl, rfl, rfl, trivial⟩ [] rfl ?_ ?_
      · rintro x2 _
        refine TC.seq ?_
        refine TC.region ?_
        refine TL.bin .i64 x2 6 rfl rfl rfl rfl (v := .bool (decide (x2 < 6))) rfl ?_
        refine TL.done ?_
        refine TC.seq ?_
        refine TC.cond (b := (decide (x2 < 6))) rfl (fun c3 => ?_) (fun c4 => ?_)
        · refine TC.skip ?_
          refine TC.seq ?_
          refine TC.block (NoEx.loop rfl (NoEx.loop rfl NoEx.body)) ?_
          refine TC.seq ?_
          refine TC.region ?_
          refine TL.move rfl rfl (v := .int .i64 x2) rfl ?_
          refine TL.chk fun h3 => ?_
          refine TL.ixv1 x2 h3 Try.underlying32 Try.isAgg5 Try.sizeOf5 (v := u8v ((sub g2 (x1.toNat * 6)) x2.toNat)) rfl rfl rfl rfl rfl ?_
          refine TL.assign rfl rfl (v := .int .i64 x2) rfl ?_
          refine TL.assign rfl rfl (v := u8v ((sub g2 (x1.toNat * 6)) x2.toNat)) rfl ?_
          refine TL.done ?_
          refine TC.seq ?_
          refine TC.region ?_
          refine TL.move rfl rfl (v := .int .i64 x1) rfl ?_
          refine TL.move rfl rfl (v := bp b_1 0) rfl ?_
          refine TL.call (R := G.impl_Group_n.R) Try.call65 rfl rfl rfl (fun w hS => G.impl_Group_n.calls w b_1 g1 g2 ((Src.at h1) w hS)) ?_
          rintro r_1 _ _ ⟨rfl, rfl⟩
          refine TL.bin .i64 x1 r_1 rfl rfl rfl rfl (v := .bool (decide (x1 < r_1))) rfl ?_
          refine TL.move rfl rfl (v := .bool (decide (x1 < r_1))) rfl ?_
          refine TL.cutJ (σ := Bool) (γ := Unit) (Γ' := fun b_3 _ => [(30, .bool b_3), (0, bp b_1 0), (3, .int .i64 x1), (11, sval [.arr 36 (enf u8v g2)]), (12, .int .i64 x1), (16, sval [.arr 6 (enf u8v (sub g2 (x1.toNat * 6)))]), (17, .int .i64 x2), (18, .bool (decide (x2 < 6))), (19, .int .i64 x2), (20, u8v ((sub g2 (x1.toNat * 6)) x2.toNat)), (5, .int .i64 x2), (6, u8v ((sub g2 (x1.toNat * 6)) x2.toNat)), (21, .int .i64 x1), (22, bp b_1 0), (23, .int .i64 r_1), (24, .bool (decide (x1 < r_1))), (25, .bool (decide (x1 < r_1)))]) (L' := fun _ _ => []) 5 ?_ ?_
          · refine TL.ifb (t := 25) (b := (decide (x1 < r_1))) rfl (fun c5 => ?_) (fun c6 => ?_)
            · refine TL.move rfl rfl (v := .int .i64 x2) rfl ?_
              refine TL.move rfl rfl (v := bp b_1 0) rfl ?_
              refine TL.call (R := G.impl_Group_n.R) Try.call65 rfl rfl rfl (fun w hS => G.impl_Group_n.calls w b_1 g1 g2 ((Src.at h1) w hS)) ?_
              rintro r_2 _ _ ⟨rfl, rfl⟩
              refine TL.bin .i64 x2 r_2 rfl rfl rfl rfl (v := .bool (decide (x2 < r_2))) rfl ?_
              refine TL.pick rfl rfl (b := true) rfl (r := .bool (decide (x2 < r_2))) rfl ?_
              refine TL.done ?_
              exact TC.nrm ((decide (x2 < r_2))) () ⟨rfl, rfl, rfl, rfl, rfl, rfl, rfl, rfl, rfl, rfl, rfl, rfl, rfl, rfl, rfl, rfl, (by rw [c5]; rfl), trivial⟩ [] rfl
            · refine TL.skip rfl rfl (by decide) ?_
              refine TL.skip rfl rfl (by decide) ?_
              refine TL.skip rfl rfl (by decide) ?_
              refine TL.skip rfl rfl (by decide) ?_
              refine TL.pick rfl rfl (b := false) rfl (r := .bool false) rfl ?_
              refine TL.done ?_
              exact TC.nrm (false) () ⟨rfl, rfl, rfl, rfl, rfl, rfl, rfl, rfl, rfl, rfl, rfl, rfl, rfl, rfl, rfl, rfl, (by rw [c6]; rfl), trivial⟩ [] rfl
          · rintro b_3 _
            refine TL.assign rfl rfl (v := .bool b_3) rfl ?_
            refine TL.done ?_
            refine TC.seq ?_
            refine TC.region ?_
            refine TL.move rfl rfl (v := .bool b_3) rfl ?_
            refine TL.move rfl rfl (v := .bool b_3) rfl ?_
            refine TL.cutU 8 [(40, .bool (b_3 && (decide ((((sub g2 (x1.toNat * 6)) x2.toNat).toNat : Int) ≥ g1)))), (0, bp b_1 0), (3, .int .i64 x1), (11, sval [.arr 36 (enf u8v g2)]), (12, .int .i64 x1), (16, sval [.arr 6 (enf u8v (sub g2 (x1.toNat * 6)))]), (17, .int .i64 x2), (18, .bool (decide (x2 < 6))), (19, .int .i64 x2), (20, u8v ((sub g2 (x1.toNat * 6)) x2.toNat)), (5, .int .i64 x2), (6, u8v ((sub g2 (x1.toNat * 6)) x2.toNat)), (21, .int .i64 x1), (22, bp b_1 0), (23, .int .i64 r_1), (24, .bool (decide (x1 < r_1))), (25, .bool (decide (x1 < r_1))), (30, .bool b_3), (7, .bool b_3), (31, .bool b_3), (32, .bool b_3)] [] ?_ ?_
            · refine TL.cases (t := 32) (b := b_3) rfl (fun c7 => ?_) (fun c8 => ?_)
              · refine TL.move rfl rfl (v := u8v ((sub g2 (x1.toNat * 6)) x2.toNat)) rfl ?_
                refine TL.conv .u8 .i64 (((sub g2 (x1.toNat * 6)) x2.toNat).toNat : Int) _ rfl rfl rfl Try.underlying5 Try.underlying2 (v := .int .i64 (((sub g2 (x1.toNat * 6)) x2.toNat).toNat : Int)) (conv_u8_i64 _) ?_
                refine TL.move rfl rfl (v := bp b_1 0) rfl ?_
                refine TL.nilCheck rfl rfl rfl ?_
                refine TL.fa Try.underlying37 rfl Try.sizeOf2 rfl 0 rfl rfl rfl rfl ?_
                refine TL.load1 0 (Src.at h1) Try.isAgg2 rfl rfl rfl rfl rfl ?_
                refine TL.bin .i64 (((sub g2 (x1.toNat * 6)) x2.toNat).toNat : Int) g1 rfl rfl rfl rfl (v := .bool (decide ((((sub g2 (x1.toNat * 6)) x2.toNat).toNat : Int) ≥ g1))) rfl ?_
                refine TL.pick rfl rfl (b := true) rfl (r := .bool (decide ((((sub g2 (x1.toNat * 6)) x2.toNat).toNat : Int) ≥ g1))) rfl ?_
                refine TL.done ?_
                exact TC.nrm () () ⟨(by rw [c7]; rfl), rfl, rfl, rfl, rfl, rfl, rfl, rfl, rfl, rfl, rfl, rfl, rfl, rfl, rfl, rfl, rfl, rfl, rfl, rfl, (by rw [c7]; rfl), trivial⟩ [] rfl
              · refine TL.skip rfl rfl (by decide) ?_
                refine TL.skip rfl rfl (by decide) ?_
                refine TL.skip rfl rfl (by decide) ?_
                refine TL.skip rfl rfl (by decide) ?_
                refine TL.skip rfl rfl (by decide) ?_
                refine TL.skip rfl rfl (by decide) ?_
                refine TL.skip rfl rfl (by decide) ?_
                refine TL.pick rfl rfl (b := false) rfl (r := .bool false) rfl ?_
                refine TL.done ?_
                exact TC.nrm () () ⟨(by rw [c8]; rfl), rfl, rfl, rfl, rfl, rfl, rfl, rfl, rfl, rfl, rfl, rfl, rfl, rfl, rfl, rfl, rfl, rfl, rfl, rfl, (by rw [c8]; rfl), trivial⟩ [] rfl
            · refine TL.move rfl rfl (v := .bool (b_3 && (decide ((((sub g2 (x1.toNat * 6)) x2.toNat).toNat : Int) ≥ g1)))) rfl ?_
              refine TL.cutU 7 [(48, .bool ((b_3 && (decide ((((sub g2 (x1.toNat * 6)) x2.toNat).toNat : Int) ≥ g1))) || ((!b_3) && ((((sub g2 (x1.toNat * 6)) x2.toNat).toNat : Int) != ((0 : UInt8).toNat : Int))))), (0, bp b_1 0), (3, .int .i64 x1), (11, sval [.arr 36 (enf u8v g2)]), (12, .int .i64 x1), (16, sval [.arr 6 (enf u8v (sub g2 (x1.toNat * 6)))]), (17, .int .i64 x2), (18, .bool (decide (x2 < 6))), (19, .int .i64 x2), (20, u8v ((sub g2 (x1.toNat * 6)) x2.toNat)), (5, .int .i64 x2), (6, u8v ((sub g2 (x1.toNat * 6)) x2.toNat)), (21, .int .i64 x1), (22, bp b_1 0), (23, .int .i64 r_1), (24, .bool (decide (x1 < r_1))), (25, .bool (decide (x1 < r_1))), (30, .bool b_3), (7, .bool b_3), (31, .bool b_3), (32, .bool b_3), (40, .bool (b_3 && (decide ((((sub g2 (x1.toNat * 6)) x2.toNat).toNat : Int) ≥ g1)))), (41, .bool (b_3 && (decide ((((sub g2 (x1.toNat * 6)) x2.toNat).toNat : Int) ≥ g1))))] [] ?_ ?_
              · refine TL.cases (t := 41) (b := (b_3 && (decide ((((sub g2 (x1.toNat * 6)) x2.toNat).toNat : Int) ≥ g1)))) rfl (fun c9 => ?_) (fun c10 => ?_)
                · refine TL.skip rfl rfl (by decide) ?_
                  refine TL.skip rfl rfl (by decide) ?_
                  refine TL.skip rfl rfl (by decide) ?_
                  refine TL.skip rfl rfl (by decide) ?_
                  refine TL.skip rfl rfl (by decide) ?_
                  refine TL.skip rfl rfl (by decide) ?_
                  refine TL.pick rfl rfl (b := true) rfl (r := .bool true) rfl ?_
                  refine TL.done ?_
                  exact TC.nrm () () ⟨(by rw [c9]; rfl), rfl, rfl, rfl, rfl, rfl, rfl, rfl, rfl, rfl, rfl, rfl, rfl, rfl, rfl, rfl, rfl, rfl, rfl, rfl, rfl, rfl, (by rw [c9]; rfl), trivial⟩ [] rfl
                · refine TL.move rfl rfl (v := .bool b_3) rfl ?_
                  refine TL.not b_3 rfl rfl rfl ?_
                  refine TL.move rfl rfl (v := .bool (!b_3)) rfl ?_
                  refine TL.cutU 3 [(47, .bool ((!b_3) && ((((sub g2 (x1.toNat * 6)) x2.toNat).toNat : Int) != ((0 : UInt8).toNat : Int)))), (0, bp b_1 0), (3, .int .i64 x1), (11, sval [.arr 36 (enf u8v g2)]), (12, .int .i64 x1), (16, sval [.arr 6 (enf u8v (sub g2 (x1.toNat * 6)))]), (17, .int .i64 x2), (18, .bool (decide (x2 < 6))), (19, .int .i64 x2), (20, u8v ((sub g2 (x1.toNat * 6)) x2.toNat)), (5, .int .i64 x2), (6, u8v ((sub g2 (x1.toNat * 6)) x2.toNat)), (21, .int .i64 x1), (22, bp b_1 0), (23, .int .i64 r_1), (24, .bool (decide (x1 < r_1))), (25, .bool (decide (x1 < r_1))), (30, .bool b_3), (7, .bool b_3), (31, .bool b_3), (32, .bool b_3), (40, .bool (b_3 && (decide ((((sub g2 (x1.toNat * 6)) x2.toNat).toNat : Int) ≥ g1)))), (41, .bool false), (42, .bool b_3), (43, .bool (!b_3)), (44, .bool (!b_3))] [] ?_ ?_
                  · refine TL.cases (t := 44) (b := (!b_3)) rfl (fun c11 => ?_) (fun c12 => ?_)
                    · refine TL.move rfl rfl (v := u8v ((sub g2 (x1.toNat * 6)) x2.toNat)) rfl ?_
                      refine TL.bin .u8 (((sub g2 (x1.toNat * 6)) x2.toNat).toNat : Int) ((0 : UInt8).toNat : Int) rfl rfl rfl rfl (v := .bool ((((sub g2 (x1.toNat * 6)) x2.toNat).toNat : Int) != ((0 : UInt8).toNat : Int))) rfl ?_
                      refine TL.pick rfl rfl (b := true) rfl (r := .bool ((((sub g2 (x1.toNat * 6)) x2.toNat).toNat : Int) != ((0 : UInt8).toNat : Int))) rfl ?_
                      refine TL.done ?_
                      exact TC.nrm () () ⟨(by rw [c11]; rfl), rfl, rfl, rfl, rfl, rfl, rfl, rfl, rfl, rfl, rfl, rfl, rfl, rfl, rfl, rfl, rfl, rfl, rfl, rfl, rfl, rfl, rfl, rfl, rfl, (by rw [c11]; rfl), trivial⟩ [] rfl
                    · refine TL.skip rfl rfl (by decide) ?_
                      refine TL.skip rfl rfl (by decide) ?_
                      refine TL.pick rfl rfl (b := false) rfl (r := .bool false) rfl ?_
                      refine TL.done ?_
                      exact TC.nrm () () ⟨(by rw [c12]; rfl), rfl, rfl, rfl, rfl, rfl, rfl, rfl, rfl, rfl, rfl, rfl, rfl, rfl, rfl, rfl, rfl, rfl, rfl, rfl, rfl, rfl, rfl, rfl, rfl, (by rw [c12]; rfl), trivial⟩ [] rfl
                  · refine TL.pick rfl rfl (b := false) rfl (r := .bool ((!b_3) && ((((sub g2 (x1.toNat * 6)) x2.toNat).toNat : Int) != ((0 : UInt8).toNat : Int)))) rfl ?_
                    refine TL.done ?_
                    exact TC.nrm () () ⟨(by rw [c10]; rfl), rfl, rfl, rfl, rfl, rfl, rfl, rfl, rfl, rfl, rfl, rfl, rfl, rfl, rfl, rfl, rfl, rfl, rfl, rfl, rfl, rfl, (by rw [c10]; rfl), trivial⟩ [] rfl
              · refine TL.done ?_
                refine TC.cond (b := ((b_3 && (decide ((((sub g2 (x1.toNat * 6)) x2.toNat).toNat : Int) ≥ g1))) || ((!b_3) && ((((sub g2 (x1.toNat * 6)) x2.toNat).toNat : Int) != ((0 : UInt8).toNat : Int))))) rfl (fun c13 => ?_) (fun c14 => ?_)
                · refine TC.seq ?_
                  refine TC.region ?_
                  refine TL.assign rfl rfl (v := .bool false) rfl ?_
                  refine TL.done ?_
                  exact TC.retF (Fin.loop Far.ret (Fin.loop Far.ret (Fin.body (fin1 (.inr rfl) rfl (.tmp rfl) [] rfl ⟨rfl, rfl⟩))))
                · refine TC.skip ?_
                  refine TC.region ?_
                  refine TL.bin .i64 x2 1 rfl rfl rfl rfl (v := .int .i64 (w64 (x2 + 1))) rfl ?_
                  refine TL.move rfl rfl (v := .int .i64 (w64 (x2 + 1))) rfl ?_
                  refine TL.done ?_
                  exact TC.next ((w64 (x2 + 1))) (()) ⟨rfl, rfl, rfl, rfl, rfl, rfl, trivial⟩ [] rfl
        · exact TC.brk (x2) (()) ⟨rfl, rfl, rfl, rfl, rfl, rfl, trivial⟩ [] rfl
      · rintro x2 _
        refine TC.region ?_
        refine TL.bin .i64 x1 1 rfl rfl rfl rfl (v := .int .i64 (w64 (x1 + 1))) rfl ?_
        refine TL.move rfl rfl (v := .int .i64 (w64 (x1 + 1))) rfl ?_
        refine TL.done ?_
        exact TC.next ((w64 (x1 + 1))) (()) ⟨rfl, rfl, rfl, trivial⟩ [] rfl
    · exact TC.brk (x1) (()) ⟨rfl, rfl, rfl, trivial⟩ [] rfl
  · rintro x1 _
    refine TC.seq ?_
    refine TC.region ?_
    refine TL.assign rfl rfl (v := .bool true) rfl ?_
    refine TL.done ?_
    exact TC.retF (Fin.body (fin1 (.inr rfl) rfl (.tmp rfl) [] rfl ⟨rfl, rfl⟩))

end Go.Proofs.Ytcombgcjgdkbiaa.G
