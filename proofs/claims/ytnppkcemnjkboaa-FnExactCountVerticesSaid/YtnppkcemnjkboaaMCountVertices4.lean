/- Functions of the program, as pure functions. -/
import Derived.Test.YtnppkcemnjkboaaMCountVertices3
import Derived.Test.YtnppkcemnjkboaaProg
/- laws.heldInt64SS, as a pure function. -/
set_option linter.unusedVariables false
namespace Go.Proofs.Ytnppkcemnjkboaa.G
open Go Go.Sx Go.Proofs

def laws_heldInt64SS.b0 (a_1 : List (List Int)) : Int × Int → Option (LR (Int × Int) Int) := fun p => match p with | (k_2, i1) => (bif (decide (i1 < (a_1.length : Int))) then chk i1 a_1.length ((G.laws_heldInt64S.f (gt a_1 i1) k_2).bind (fun r_1 => (bif (decide (r_1 < 0)) then some (.ret ((-1))) else some (.next (r_1, (w64 (i1 + 1))))))) else some (.brk (k_2, i1)))

def laws_heldInt64SS.f (a_1 : List (List Int)) (k_1 : Int) : Option Int := (loop (laws_heldInt64SS.b0 a_1) (k_1, 0)).bind (ln (fun p => match p with | (k_2, i1) => some k_2))

def laws_heldInt64SS.R (r : Int) (v : Value) (L : List Asn) : Prop := v = .int .i64 r ∧ L = []

set_option maxRecDepth 100000 in
set_option maxHeartbeats 4000000 in
theorem laws_heldInt64SS.calls (w : World) (s1 : SV) (ss1 : List SV) (a_1 : List (List Int)) (k_1 : Int) (h1 : ReadsM Ei (hp w) s1 ss1 a_1) :
    ∀ r, laws_heldInt64SS.f a_1 k_1 = some r → Calls Try.prog 21 #[SV.v s1, .int .i64 k_1] w (Ret w (laws_heldInt64SS.R r)) := by

  refine calls_T (n := 21) (Γ := [(0, SV.v s1), (1, .int .i64 k_1)]) (R := laws_heldInt64SS.R) Try.func21 rfl rfl (Nat.le_of_ble_eq_true rfl) ⟨rfl, rfl, trivial⟩ ?_
  unfold laws_heldInt64SS.f
  refine TC.seq ?_
  refine TC.region ?_
  refine TL.assign rfl rfl (v := .int .i64 0) rfl ?_
  refine TL.done ?_
  refine TC.seq ?_
  refine TC.seq ?_
  refine TC.region ?_
  refine TL.assign rfl rfl (v := .int .i64 0) rfl ?_
  refine TL.done ?_
  refine TC.loopK (σ := Int × Int) (γ := Unit) (Γ' := (fun p q => match p, q with | (k_2, i1), _ => [(0, SV.v s1), (1, .int .i64 k_2), (5, .int .i64 i1)])) (L' := (fun p q => match p, q with | (k_2, i1), _ => [])) (Γb := (fun p q => match p, q with | (k_2, i1), _ => [(0, SV.v s1), (1, .int .i64 k_2), (5, .int .i64 i1)])) (Lb := (fun p q => match p, q with | (k_2, i1), _ => [])) ((k_1, 0)) (()) ⟨rfl, rfl, rfl, trivial⟩ [] rfl ?_ ?_
  · rintro ⟨k_2, i1⟩ _
    refine TC.seq ?_
    refine TC.seq ?_
    refine TC.region ?_
    refine TL.move rfl rfl (v := .int .i64 i1) rfl ?_
    refine TL.move rfl rfl (v := SV.v s1) rfl ?_
    refine TL.lenM (RdM.old h1) Try.underlying22 rfl rfl rfl ?_
    refine TL.bin .i64 i1 (a_1.length : Int) rfl rfl rfl rfl (v := .bool (decide (i1 < (a_1.length : Int)))) rfl ?_
    refine TL.done ?_
    refine TC.cond (b := (decide (i1 < (a_1.length : Int)))) rfl (fun c1 => ?_) (fun c2 => ?_)
    · refine TC.skip ?_
      refine TC.seq ?_
      refine TC.block (NoEx.loop rfl NoEx.body) ?_
      refine TC.seq ?_
      refine TC.region ?_
      refine TL.move rfl rfl (v := SV.v s1) rfl ?_
      refine TL.move rfl rfl (v := .int .i64 i1) rfl ?_
      refine TL.chk fun h2 => ?_
      refine TL.ixsM i1 i1.toNat (RdM.old h1) h2 Try.underlying22 Try.sizeOf53 rfl rfl rfl rfl (by omega) ?_
      refine TL.loadM2 (RdM.old h1) Try.isAgg53 i1 h2 (by omega) rfl rfl rfl ?_
      refine TL.move rfl rfl (v := .int .i64 k_2) rfl ?_
      refine TL.call (R := G.laws_heldInt64S.R) Try.call64 rfl rfl rfl (fun w hS => G.laws_heldInt64S.calls w (gt ss1 i1) (gt a_1 i1) k_2 ((RdM.inn (RdM.old h1) h2) w hS)) ?_
      rintro r_1 _ _ ⟨rfl, rfl⟩
      refine TL.assign rfl rfl (v := .int .i64 r_1) rfl ?_
      refine TL.done ?_
      refine TC.seq ?_
      refine TC.region ?_
      refine TL.move rfl rfl (v := .int .i64 r_1) rfl ?_
      refine TL.bin .i64 r_1 0 rfl rfl rfl rfl (v := .bool (decide (r_1 < 0))) rfl ?_
      refine TL.done ?_
      refine TC.cond (b := (decide (r_1 < 0))) rfl (fun c3 => ?_) (fun c4 => ?_)
      · refine TC.seq ?_
        refine TC.region ?_
        refine TL.assign rfl rfl (v := .int .i64 (-1)) rfl ?_
        refine TL.done ?_
        exact TC.retF (Fin.loop Far.ret (Fin.body (fin1 (.inr rfl) rfl (.tmp rfl) [] rfl ⟨rfl, rfl⟩)))
      · refine TC.skip ?_
        refine TC.region ?_
        refine TL.move rfl rfl (v := .int .i64 i1) rfl ?_
        refine TL.bin .i64 i1 1 rfl rfl rfl rfl (v := .int .i64 (w64 (i1 + 1))) rfl ?_
        refine TL.assign rfl rfl (v := .int .i64 (w64 (i1 + 1))) rfl ?_
        refine TL.done ?_
        exact TC.next ((r_1, (w64 (i1 + 1)))) (()) ⟨rfl, rfl, rfl, trivial⟩ [] rfl
    · exact TC.brk ((k_2, i1)) (()) ⟨rfl, rfl, rfl, trivial⟩ [] rfl
  · rintro ⟨k_2, i1⟩ _
    refine TC.seq ?_
    refine TC.region ?_
    refine TL.move rfl rfl (v := .int .i64 k_2) rfl ?_
    refine TL.assign rfl rfl (v := .int .i64 k_2) rfl ?_
    refine TL.done ?_
    exact TC.retF (Fin.body (fin1 (.inr rfl) rfl (.tmp rfl) [] rfl ⟨rfl, rfl⟩))

end Go.Proofs.Ytnppkcemnjkboaa.G
