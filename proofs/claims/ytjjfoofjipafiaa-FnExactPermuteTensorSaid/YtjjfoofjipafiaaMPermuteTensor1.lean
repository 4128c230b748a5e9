/- Functions of the program, as pure functions. -/
import Derived.Test.YtjjfoofjipafiaaSy2
import Derived.Test.YtjjfoofjipafiaaProg
/- laws.eqInt64S, as a pure function. -/
set_option linter.unusedVariables false
namespace Go.Proofs.Ytjjfoofjipafiaa.G
open Go Go.Sx Go.Proofs

def laws_eqInt64S.b0 (a_1 : List Int) (b_1 : List Int) : Int → Option (LR Int Bool) := fun i1 => (bif (decide (i1 < (a_1.length : Int))) then chk i1 a_1.length (chk i1 b_1.length ((bif ((gt a_1 i1) != (gt b_1 i1)) then some (.ret (false)) else some (.next (w64 (i1 + 1)))))) else some (.brk i1))

def laws_eqInt64S.f (a_1 : List Int) (b_1 : List Int) : Option Bool := (bif ((a_1.length : Int) != (b_1.length : Int)) then some false else (loop (laws_eqInt64S.b0 a_1 b_1) 0).bind (ln (fun i1 => some true)))

def laws_eqInt64S.R (r : Bool) (v : Value) (L : List Asn) : Prop := v = .bool r ∧ L = []

set_option maxRecDepth 100000 in
set_option maxHeartbeats 4000000 in
theorem laws_eqInt64S.calls (w : World) (s1 : SV) (a_1 : List Int) (s2 : SV) (b_1 : List Int) (h1 : Reads Ei (hp w) s1 a_1) (h2 : Reads Ei (hp w) s2 b_1) :
    ∀ r, laws_eqInt64S.f a_1 b_1 = some r → Calls Try.prog 33 #[SV.v s1, SV.v s2] w (Ret w (laws_eqInt64S.R r)) := by

  refine calls_T (n := 26) (Γ := [(0, SV.v s1), (1, SV.v s2)]) (R := laws_eqInt64S.R) Try.func33 rfl rfl (Nat.le_of_ble_eq_true rfl) ⟨rfl, rfl, trivial⟩ ?_
  unfold laws_eqInt64S.f
  refine TC.seq ?_
  refine TC.region ?_
  refine TL.assign rfl rfl (v := .bool false) rfl ?_
  refine TL.done ?_
  refine TC.seq ?_
  refine TC.seq ?_
  refine TC.region ?_
  refine TL.move rfl rfl (v := SV.v s1) rfl ?_
  refine TL.len (Rd.old h1) Try.underlying22 rfl rfl rfl ?_
  refine TL.move rfl rfl (v := SV.v s2) rfl ?_
  refine TL.len (Rd.old h2) Try.underlying22 rfl rfl rfl ?_
  refine TL.bin .i64 (a_1.length : Int) (b_1.length : Int) rfl rfl rfl rfl (v := .bool ((a_1.length : Int) != (b_1.length : Int))) rfl ?_
  refine TL.done ?_
  refine TC.cond (b := ((a_1.length : Int) != (b_1.length : Int))) rfl (fun c1 => ?_) (fun c2 => ?_)
  · refine TC.seq ?_
    refine TC.region ?_
    refine TL.assign rfl rfl (v := .bool false) rfl ?_
    refine TL.done ?_
    exact TC.retF (Fin.body (fin1 (.inr rfl) rfl (.tmp rfl) [] rfl ⟨rfl, rfl⟩))
  · refine TC.skip ?_
    refine TC.seq ?_
    refine TC.seq ?_
    refine TC.region ?_
    refine TL.assign rfl rfl (v := .int .i64 0) rfl ?_
    refine TL.done ?_
    refine TC.loopK (σ := Int) (γ := Unit) (Γ' := (fun i1 _ => [(0, SV.v s1), (1, SV.v s2), (5, .int .i64 i1)])) (L' := (fun i1 _ => [])) (Γb := (fun i1 _ => [(0, SV.v s1), (1, SV.v s2), (5, .int .i64 i1)])) (Lb := (fun i1 _ => [])) (0) (()) ⟨rfl, rfl, rfl, trivial⟩ [] rfl ?_ ?_
    · rintro i1 _
      refine TC.seq ?_
      refine TC.seq ?_
      refine TC.region ?_
      refine TL.move rfl rfl (v := .int .i64 i1) rfl ?_
      refine TL.move rfl rfl (v := SV.v s1) rfl ?_
      refine TL.len (Rd.old h1) Try.underlying22 rfl rfl rfl ?_
      refine TL.bin .i64 i1 (a_1.length : Int) rfl rfl rfl rfl (v := .bool (decide (i1 < (a_1.length : Int)))) rfl ?_
      refine TL.done ?_
      refine TC.cond (b := (decide (i1 < (a_1.length : Int)))) rfl (fun c3 => ?_) (fun c4 => ?_)
      · refine TC.skip ?_
        refine TC.seq ?_
        refine TC.block (NoEx.loop rfl NoEx.body) ?_
        refine TC.seq ?_
        refine TC.wk (Γ' := [(0, SV.v s1), (1, SV.v s2), (5, .int .i64 i1), (11, .int .i64 i1), (12, SV.v s1), (13, .int .i64 (a_1.length : Int)), (14, .bool (decide (i1 < (a_1.length : Int))))]) ⟨rfl, rfl, rfl, rfl, rfl, rfl, rfl, trivial⟩ ?_
        refine TC.chk fun h3 => ?_
        refine TC.chk fun h4 => ?_
        refine TC.draw [SV.v s1, .int .i64 i1, ep s1 i1.toNat, .int .i64 (gt a_1 i1), SV.v s2, .int .i64 i1, ep s2 i1.toNat, .int .i64 (gt b_1 i1), .bool ((gt a_1 i1) != (gt b_1 i1))] 9 [] (by kernel_rfl) rfl rfl rfl rfl ?_ ?_
        · refine ⟨?_, ?_, ?_, ?_, ?_, ?_, ?_, ?_, ?_, trivial⟩
          · refine TL.move rfl rfl (v := SV.v s1) rfl ?_
            refine TL.done ?_
            exact TC.nrm () () ⟨rfl, trivial⟩ [] (by kernel_rfl)
          · refine TL.move rfl rfl (v := .int .i64 i1) rfl ?_
            refine TL.done ?_
            exact TC.nrm () () ⟨rfl, trivial⟩ [] (by kernel_rfl)
          · refine TL.ixs i1 i1.toNat (Rd.old h1) h3 Try.underlying22 Try.sizeOf2 rfl rfl rfl rfl (by omega) ?_
            refine TL.done ?_
            exact TC.nrm () () ⟨rfl, trivial⟩ [] (by kernel_rfl)
          · refine TL.loadE (Rd.old h1) Try.isAgg2 i1.toNat 0 (gt_spec h3) (v := .int .i64 (gt a_1 i1)) rfl (by simp only [show Ei.sz = 1 from rfl] <;> omega) rfl rfl rfl ?_
            refine TL.done ?_
            exact TC.nrm () () ⟨rfl, trivial⟩ [] (by kernel_rfl)
          · refine TL.move rfl rfl (v := SV.v s2) rfl ?_
            refine TL.done ?_
            exact TC.nrm () () ⟨rfl, trivial⟩ [] (by kernel_rfl)
          · refine TL.move rfl rfl (v := .int .i64 i1) rfl ?_
            refine TL.done ?_
            exact TC.nrm () () ⟨rfl, trivial⟩ [] (by kernel_rfl)
          · refine TL.ixs i1 i1.toNat (Rd.old h2) h4 Try.underlying22 Try.sizeOf2 rfl rfl rfl rfl (by omega) ?_
            refine TL.done ?_
            exact TC.nrm () () ⟨rfl, trivial⟩ [] (by kernel_rfl)
          · refine TL.loadE (Rd.old h2) Try.isAgg2 i1.toNat 0 (gt_spec h4) (v := .int .i64 (gt b_1 i1)) rfl (by simp only [show Ei.sz = 1 from rfl] <;> omega) rfl rfl rfl ?_
            refine TL.done ?_
            exact TC.nrm () () ⟨rfl, trivial⟩ [] (by kernel_rfl)
          · refine TL.bin .i64 (gt a_1 i1) (gt b_1 i1) rfl rfl rfl rfl (v := .bool ((gt a_1 i1) != (gt b_1 i1))) rfl ?_
            refine TL.done ?_
            exact TC.nrm () () ⟨rfl, trivial⟩ [] (by kernel_rfl)
        · refine TC.cond (b := ((gt a_1 i1) != (gt b_1 i1))) rfl (fun c5 => ?_) (fun c6 => ?_)
          · refine TC.seq ?_
            refine TC.region ?_
            refine TL.assign rfl rfl (v := .bool false) rfl ?_
            refine TL.done ?_
            exact TC.retF (Fin.loop Far.ret (Fin.body (fin1 (.inr rfl) rfl (.tmp rfl) [] rfl ⟨rfl, rfl⟩)))
          · refine TC.skip ?_
            refine TC.region ?_
            refine TL.move rfl rfl (v := .int .i64 i1) rfl ?_
            refine TL.bin .i64 i1 1 rfl rfl rfl rfl (v := .int .i64 (w64 (i1 + 1))) rfl ?_
            refine TL.assign rfl rfl (v := .int .i64 (w64 (i1 + 1))) rfl ?_
            refine TL.done ?_
            exact TC.next ((w64 (i1 + 1))) (()) ⟨rfl, rfl, rfl, trivial⟩ [] rfl
      · exact TC.brk (i1) (()) ⟨rfl, rfl, rfl, trivial⟩ [] rfl
    · rintro i1 _
      refine TC.seq ?_
      refine TC.region ?_
      refine TL.assign rfl rfl (v := .bool true) rfl ?_
      refine TL.done ?_
      exact TC.retF (Fin.body (fin1 (.inr rfl) rfl (.tmp rfl) [] rfl ⟨rfl, rfl⟩))

end Go.Proofs.Ytjjfoofjipafiaa.G

/- laws.eqTensor, as a pure function. -/
set_option linter.unusedVariables false
namespace Go.Proofs.Ytjjfoofjipafiaa.G
open Go Go.Sx Go.Proofs

def laws_eqTensor.f (a_1 : Int) (a_2 : Int) (a_3 : Int) (a_4 : Int) (a_5 : List Int) (b_1 : Int) (b_2 : Int) (b_3 : Int) (b_4 : Int) (b_5 : List Int) : Option Bool := (bif (a_1 != b_1) then some false else (bif (a_2 != b_2) then some false else (bif (a_3 != b_3) then some false else (bif (a_4 != b_4) then some false else (G.laws_eqInt64S.f a_5 b_5).bind (fun r_1 => (bif (!r_1) then some false else some true))))))

def laws_eqTensor.R (r : Bool) (v : Value) (L : List Asn) : Prop := v = .bool r ∧ L = []

set_option maxRecDepth 100000 in
set_option maxHeartbeats 4000000 in
theorem laws_eqTensor.calls (w : World) (a_1 : Int) (a_2 : Int) (a_3 : Int) (a_4 : Int) (s1 : SV) (a_5 : List Int) (b_1 : Int) (b_2 : Int) (b_3 : Int) (b_4 : Int) (s2 : SV) (b_5 : List Int) (h1 : Reads Ei (hp w) s1 a_5) (h2 : Reads Ei (hp w) s2 b_5) :
    ∀ r, laws_eqTensor.f a_1 a_2 a_3 a_4 a_5 b_1 b_2 b_3 b_4 b_5 = some r → Calls Try.prog 14 #[sval [.one (.int .i64 a_1), .one (.int .i64 a_2), .one (.int .i64 a_3), .one (.int .i64 a_4), .one (SV.v s1)], sval [.one (.int .i64 b_1), .one (.int .i64 b_2), .one (.int .i64 b_3), .one (.int .i64 b_4), .one (SV.v s2)]] w (Ret w (laws_eqTensor.R r)) := by

  refine calls_T (n := 31) (Γ := [(0, sval [.one (.int .i64 a_1), .one (.int .i64 a_2), .one (.int .i64 a_3), .one (.int .i64 a_4), .one (SV.v s1)]), (1, sval [.one (.int .i64 b_1), .one (.int .i64 b_2), .one (.int .i64 b_3), .one (.int .i64 b_4), .one (SV.v s2)])]) (R := laws_eqTensor.R) Try.func14 rfl rfl (Nat.le_of_ble_eq_true rfl) ⟨rfl, rfl, trivial⟩ ?_
  unfold laws_eqTensor.f
  refine TC.seq ?_
  refine TC.region ?_
  refine TL.box [.one (.int .i64 a_1), .one (.int .i64 a_2), .one (.int .i64 a_3), .one (.int .i64 a_4), .one (SV.v s1)] rfl rfl rfl rfl fun b_6 => ?_
  refine TL.box [.one (.int .i64 b_1), .one (.int .i64 b_2), .one (.int .i64 b_3), .one (.int .i64 b_4), .one (SV.v s2)] rfl rfl rfl rfl fun b_7 => ?_
  refine TL.assign rfl rfl (v := .bool false) rfl ?_
  refine TL.done ?_
  refine TC.seq ?_
  refine TC.seq ?_
  refine TC.region ?_
  refine TL.fa Try.underlying24 rfl Try.sizeOf2 rfl 0 rfl rfl rfl rfl ?_
  refine TL.load1 0 (Src.box 1 rfl) Try.isAgg2 rfl rfl rfl rfl rfl ?_
  refine TL.fa Try.underlying24 rfl Try.sizeOf2 rfl 0 rfl rfl rfl rfl ?_
  refine TL.load1 0 (Src.box 0 rfl) Try.isAgg2 rfl rfl rfl rfl rfl ?_
  refine TL.bin .i64 a_1 b_1 rfl rfl rfl rfl (v := .bool (a_1 != b_1)) rfl ?_
  refine TL.done ?_
  refine TC.cond (b := (a_1 != b_1)) rfl (fun c1 => ?_) (fun c2 => ?_)
  · refine TC.seq ?_
    refine TC.region ?_
    refine TL.assign rfl rfl (v := .bool false) rfl ?_
    refine TL.done ?_
    exact TC.retF (Fin.body (fin1 (.inr rfl) rfl (.tmp rfl) [] rfl ⟨rfl, rfl⟩))
  · refine TC.skip ?_
    refine TC.seq ?_
    refine TC.seq ?_
    refine TC.region ?_
    refine TL.fa Try.underlying24 rfl Try.sizeOf2 rfl 1 rfl rfl rfl rfl ?_
    refine TL.load1 1 (Src.box 1 rfl) Try.isAgg2 rfl rfl rfl rfl rfl ?_
    refine TL.fa Try.underlying24 rfl Try.sizeOf2 rfl 1 rfl rfl rfl rfl ?_
    refine TL.load1 1 (Src.box 0 rfl) Try.isAgg2 rfl rfl rfl rfl rfl ?_
    refine TL.bin .i64 a_2 b_2 rfl rfl rfl rfl (v := .bool (a_2 != b_2)) rfl ?_
    refine TL.done ?_
    refine TC.cond (b := (a_2 != b_2)) rfl (fun c3 => ?_) (fun c4 => ?_)
    · refine TC.seq ?_
      refine TC.region ?_
      refine TL.assign rfl rfl (v := .bool false) rfl ?_
      refine TL.done ?_
      exact TC.retF (Fin.body (fin1 (.inr rfl) rfl (.tmp rfl) [] rfl ⟨rfl, rfl⟩))
    · refine TC.skip ?_
      refine TC.seq ?_
      refine TC.seq ?_
      refine TC.region ?_
      refine TL.fa Try.underlying24 rfl Try.sizeOf2 rfl 2 rfl rfl rfl rfl ?_
      refine TL.load1 2 (Src.box 1 rfl) Try.isAgg2 rfl rfl rfl rfl rfl ?_
      refine TL.fa Try.underlying24 rfl Try.sizeOf2 rfl 2 rfl rfl rfl rfl ?_
      refine TL.load1 2 (Src.box 0 rfl) Try.isAgg2 rfl rfl rfl rfl rfl ?_
      refine TL.bin .i64 a_3 b_3 rfl rfl rfl rfl (v := .bool (a_3 != b_3)) rfl ?_
      refine TL.done ?_
      refine TC.cond (b := (a_3 != b_3)) rfl (fun c5 => ?_) (fun c6 => ?_)
      · refine TC.seq ?_
        refine TC.region ?_
        refine TL.assign rfl rfl (v := .bool false) rfl ?_
        refine TL.done ?_
        exact TC.retF (Fin.body (fin1 (.inr rfl) rfl (.tmp rfl) [] rfl ⟨rfl, rfl⟩))
      · refine TC.skip ?_
        refine TC.seq ?_
        refine TC.seq ?_
        refine TC.region ?_
        refine TL.fa Try.underlying24 rfl Try.sizeOf2 rfl 3 rfl rfl rfl rfl ?_
        refine TL.load1 3 (Src.box 1 rfl) Try.isAgg2 rfl rfl rfl rfl rfl ?_
        refine TL.fa Try.underlying24 rfl Try.sizeOf2 rfl 3 rfl rfl rfl rfl ?_
        refine TL.load1 3 (Src.box 0 rfl) Try.isAgg2 rfl rfl rfl rfl rfl ?_
        refine TL.bin .i64 a_4 b_4 rfl rfl rfl rfl (v := .bool (a_4 != b_4)) rfl ?_
        refine TL.done ?_
        refine TC.cond (b := (a_4 != b_4)) rfl (fun c7 => ?_) (fun c8 => ?_)
        · refine TC.seq ?_
          refine TC.region ?_
          refine TL.assign rfl rfl (v := .bool false) rfl ?_
          refine TL.done ?_
          exact TC.retF (Fin.body (fin1 (.inr rfl) rfl (.tmp rfl) [] rfl ⟨rfl, rfl⟩))
        · refine TC.skip ?_
          refine TC.seq ?_
          refine TC.seq ?_
          refine TC.region ?_
          refine TL.fa Try.underlying24 rfl Try.sizeOf22 rfl 4 rfl rfl rfl rfl ?_
          refine TL.load1 4 (Src.box 1 rfl) Try.isAgg22 rfl rfl rfl rfl rfl ?_
          refine TL.fa Try.underlying24 rfl Try.sizeOf22 rfl 4 rfl rfl rfl rfl ?_
          refine TL.load1 4 (Src.box 0 rfl) Try.isAgg22 rfl rfl rfl rfl rfl ?_
          refine TL.call (R := G.laws_eqInt64S.R) Try.call33 rfl rfl rfl (fun w hS => G.laws_eqInt64S.calls w s1 a_5 s2 b_5 ((Rd.old h1) w hS) ((Rd.old h2) w hS)) ?_
          rintro r_1 _ _ ⟨rfl, rfl⟩
          refine TL.not r_1 rfl rfl rfl ?_
          refine TL.done ?_
          refine TC.cond (b := (!r_1)) rfl (fun c9 => ?_) (fun c10 => ?_)
          · refine TC.seq ?_
            refine TC.region ?_
            refine TL.assign rfl rfl (v := .bool false) rfl ?_
            refine TL.done ?_
            exact TC.retF (Fin.body (fin1 (.inr rfl) rfl (.tmp rfl) [] rfl ⟨rfl, rfl⟩))
          · refine TC.skip ?_
            refine TC.seq ?_
            refine TC.region ?_
            refine TL.assign rfl rfl (v := .bool true) rfl ?_
            refine TL.done ?_
            exact TC.retF (Fin.body (fin1 (.inr rfl) rfl (.tmp rfl) [] rfl ⟨rfl, rfl⟩))

end Go.Proofs.Ytjjfoofjipafiaa.G

/- laws.markInt64S, as a pure function. -/
set_option linter.unusedVariables false
namespace Go.Proofs.Ytjjfoofjipafiaa.G
open Go Go.Sx Go.Proofs

def laws_markInt64S.b0 : (List Int) × Int × Int → Option (LB ((List Int) × Int × Int)) := fun p => match p with | (a_2, k_2, i1) => (bif (decide (i1 < (a_2.length : Int))) then chk i1 a_2.length (some (.next ((a_2.set i1.toNat k_2), (w64 (k_2 + 1)), (w64 (i1 + 1))))) else some (.brk (a_2, k_2, i1)))

def laws_markInt64S.f (a_1 : List Int) (k_1 : Int) : Option (Int × (List Int)) := (loop1 (laws_markInt64S.b0) (a_1, k_1, 0)).bind (fun p => match p with | (a_2, k_2, i1) => some (k_2, a_2))

def laws_markInt64S.R (s1 : SV) (r : Int × (List Int)) (v : Value) (L : List Asn) : Prop := v = .int .i64 r.1 ∧ L = [row Ei 2 s1 r.2]

set_option maxRecDepth 100000 in
set_option maxHeartbeats 4000000 in
theorem laws_markInt64S.calls (w0 : World) (I : Hp) (w : World) (s1 : SV) (a_1 : List Int) (k_1 : Int) (hS : St w0 I [row Ei 2 s1 a_1] w) :
    ∀ r, laws_markInt64S.f a_1 k_1 = some r → Calls Try.prog 36 #[SV.v s1, .int .i64 k_1] w (RetM w0 I ((laws_markInt64S.R s1) r)) := by

  refine calls_TM (w0 := w0) (I := I) (L := [row Ei 2 s1 a_1]) (n := 19) (Γ := [(0, SV.v s1), (1, .int .i64 k_1)]) (R := (laws_markInt64S.R s1)) Try.func36 rfl rfl (Nat.le_of_ble_eq_true rfl) ⟨rfl, rfl, trivial⟩ ?_ w hS
  unfold laws_markInt64S.f
  refine TC.seq ?_
  refine TC.region ?_
  refine TL.assign rfl rfl (v := .int .i64 0) rfl ?_
  refine TL.done ?_
  refine TC.seq ?_
  refine TC.seq ?_
  refine TC.region ?_
  refine TL.assign rfl rfl (v := .int .i64 0) rfl ?_
  refine TL.done ?_
  refine TC.loop1 (σ := (List Int) × Int × Int) (γ := Unit) (Γ' := (fun p q => match p, q with | (a_2, k_2, i1), _ => [(0, SV.v s1), (1, .int .i64 k_2), (5, .int .i64 i1)])) (L' := (fun p q => match p, q with | (a_2, k_2, i1), _ => [row Ei 2 s1 a_2])) (Γb := (fun p q => match p, q with | (a_2, k_2, i1), _ => [(0, SV.v s1), (1, .int .i64 k_2), (5, .int .i64 i1)])) (Lb := (fun p q => match p, q with | (a_2, k_2, i1), _ => [row Ei 2 s1 a_2])) ((a_1, k_1, 0)) (()) ⟨rfl, rfl, rfl, trivial⟩ [0] rfl ?_ ?_
  · rintro ⟨a_2, k_2, i1⟩ _
    refine TC.seq ?_
    refine TC.seq ?_
    refine TC.region ?_
    refine TL.move rfl rfl (v := .int .i64 i1) rfl ?_
    refine TL.move rfl rfl (v := SV.v s1) rfl ?_
    refine TL.len (Rd.row 0 rfl) Try.underlying22 rfl rfl rfl ?_
    refine TL.bin .i64 i1 (a_2.length : Int) rfl rfl rfl rfl (v := .bool (decide (i1 < (a_2.length : Int)))) rfl ?_
    refine TL.done ?_
    refine TC.cond (b := (decide (i1 < (a_2.length : Int)))) rfl (fun c1 => ?_) (fun c2 => ?_)
    · refine TC.skip ?_
      refine TC.seq ?_
      refine TC.block (NoEx.loop1 rfl) ?_
      refine TC.seq ?_
      refine TC.region ?_
      refine TL.move rfl rfl (v := SV.v s1) rfl ?_
      refine TL.move rfl rfl (v := .int .i64 i1) rfl ?_
      refine TL.move rfl rfl (v := .int .i64 k_2) rfl ?_
      refine TL.chk fun h1 => ?_
      refine TL.ixs i1 i1.toNat (Rd.row 0 rfl) h1 Try.underlying22 Try.sizeOf2 rfl rfl rfl rfl (by omega) ?_
      refine TL.stE 0 (i1.toNat) k_2 (v := .int .i64 k_2) rfl Try.sizeOf2 rfl rfl rfl (by have h_ := h1; omega) (by simp only [show Ei.sz = 1 from rfl] <;> omega) rfl rfl rfl ?_
      refine TL.done ?_
      refine TC.region ?_
      refine TL.move rfl rfl (v := .int .i64 k_2) rfl ?_
      refine TL.bin .i64 k_2 1 rfl rfl rfl rfl (v := .int .i64 (w64 (k_2 + 1))) rfl ?_
      refine TL.assign rfl rfl (v := .int .i64 (w64 (k_2 + 1))) rfl ?_
      refine TL.done ?_
      refine TC.region ?_
      refine TL.move rfl rfl (v := .int .i64 i1) rfl ?_
      refine TL.bin .i64 i1 1 rfl rfl rfl rfl (v := .int .i64 (w64 (i1 + 1))) rfl ?_
      refine TL.assign rfl rfl (v := .int .i64 (w64 (i1 + 1))) rfl ?_
      refine TL.done ?_
      exact TC.next1 (((a_2.set i1.toNat k_2), (w64 (k_2 + 1)), (w64 (i1 + 1)))) (()) ⟨rfl, rfl, rfl, trivial⟩ [0] rfl
    · exact TC.brk1 ((a_2, k_2, i1)) (()) ⟨rfl, rfl, rfl, trivial⟩ [0] rfl
  · rintro ⟨a_2, k_2, i1⟩ _
    refine TC.seq ?_
    refine TC.region ?_
    refine TL.move rfl rfl (v := .int .i64 k_2) rfl ?_
    refine TL.assign rfl rfl (v := .int .i64 k_2) rfl ?_
    refine TL.done ?_
    exact TC.retF (Fin.body (fin1 (.inr rfl) rfl (.tmp rfl) [0] rfl ⟨rfl, rfl⟩))

end Go.Proofs.Ytjjfoofjipafiaa.G

/- laws.markTensor, as a pure function. -/
set_option linter.unusedVariables false
namespace Go.Proofs.Ytjjfoofjipafiaa.G
open Go Go.Sx Go.Proofs

def laws_markTensor.f (a_1 : Int) (a_2 : Int) (a_3 : Int) (a_4 : Int) (a_5 : List Int) (k_1 : Int) : Option (Int × (List Int)) := (G.laws_markInt64S.f a_5 k_1).bind (fun p => match p with | (r_1, l1) => some (r_1, l1))

def laws_markTensor.R (s1 : SV) (r : Int × (List Int)) (v : Value) (L : List Asn) : Prop := v = .int .i64 r.1 ∧ L = [row Ei 2 s1 r.2]

set_option maxRecDepth 100000 in
set_option maxHeartbeats 4000000 in
theorem laws_markTensor.calls (w0 : World) (I : Hp) (w : World) (a_1 : Int) (a_2 : Int) (a_3 : Int) (a_4 : Int) (s1 : SV) (a_5 : List Int) (k_1 : Int) (hS : St w0 I [row Ei 2 s1 a_5] w) :
    ∀ r, laws_markTensor.f a_1 a_2 a_3 a_4 a_5 k_1 = some r → Calls Try.prog 15 #[sval [.one (.int .i64 a_1), .one (.int .i64 a_2), .one (.int .i64 a_3), .one (.int .i64 a_4), .one (SV.v s1)], .int .i64 k_1] w (RetM w0 I ((laws_markTensor.R s1) r)) := by

  refine calls_TM (w0 := w0) (I := I) (L := [row Ei 2 s1 a_5]) (n := 10) (Γ := [(0, sval [.one (.int .i64 a_1), .one (.int .i64 a_2), .one (.int .i64 a_3), .one (.int .i64 a_4), .one (SV.v s1)]), (1, .int .i64 k_1)]) (R := (laws_markTensor.R s1)) Try.func15 rfl rfl (Nat.le_of_ble_eq_true rfl) ⟨rfl, rfl, trivial⟩ ?_ w hS
  unfold laws_markTensor.f
  refine TC.seq ?_
  refine TC.region ?_
  refine TL.box [.one (.int .i64 a_1), .one (.int .i64 a_2), .one (.int .i64 a_3), .one (.int .i64 a_4), .one (SV.v s1)] rfl rfl rfl rfl fun b_1 => ?_
  refine TL.assign rfl rfl (v := .int .i64 0) rfl ?_
  refine TL.done ?_
  refine TC.seq ?_
  refine TC.region ?_
  refine TL.fa Try.underlying24 rfl Try.sizeOf22 rfl 4 rfl rfl rfl rfl ?_
  refine TL.load1 4 (Src.box 0 rfl) Try.isAgg22 rfl rfl rfl rfl rfl ?_
  refine TL.move rfl rfl (v := .int .i64 k_1) rfl ?_
  refine TL.callX (R := G.laws_markInt64S.R s1) [1, 0] [row Ei 2 s1 a_5] [box b_1 24 [.one (.int .i64 a_1), .one (.int .i64 a_2), .one (.int .i64 a_3), .one (.int .i64 a_4), .one (SV.v s1)]] rfl Try.call36 rfl rfl rfl (fun w I_ hle hB hS => G.laws_markInt64S.calls _ I_ w s1 a_5 k_1 hS) ?_
  rintro ⟨r_1, l1⟩ _ _ ⟨rfl, rfl⟩
  refine TL.assign rfl rfl (v := .int .i64 r_1) rfl ?_
  refine TL.done ?_
  refine TC.seq ?_
  refine TC.region ?_
  refine TL.move rfl rfl (v := .int .i64 r_1) rfl ?_
  refine TL.assign rfl rfl (v := .int .i64 r_1) rfl ?_
  refine TL.done ?_
  exact TC.retF (Fin.body (fin1 (.inr rfl) rfl (.tmp rfl) [0] rfl ⟨rfl, rfl⟩))

end Go.Proofs.Ytjjfoofjipafiaa.G

/- laws.heldInt64S, as a pure function. -/
set_option linter.unusedVariables false
namespace Go.Proofs.Ytjjfoofjipafiaa.G
open Go Go.Sx Go.Proofs

def laws_heldInt64S.b0 (a_1 : List Int) : Int × Int → Option (LR (Int × Int) Int) := fun p => match p with | (k_2, i1) => (bif (decide (i1 < (a_1.length : Int))) then chk i1 a_1.length ((bif ((gt a_1 i1) != k_2) then some (.ret ((-1))) else some (.next ((w64 (k_2 + 1)), (w64 (i1 + 1)))))) else some (.brk (k_2, i1)))

def laws_heldInt64S.f (a_1 : List Int) (k_1 : Int) : Option Int := (loop (laws_heldInt64S.b0 a_1) (k_1, 0)).bind (ln (fun p => match p with | (k_2, i1) => some k_2))

def laws_heldInt64S.R (r : Int) (v : Value) (L : List Asn) : Prop := v = .int .i64 r ∧ L = []

set_option maxRecDepth 100000 in
set_option maxHeartbeats 4000000 in
theorem laws_heldInt64S.calls (w : World) (s1 : SV) (a_1 : List Int) (k_1 : Int) (h1 : Reads Ei (hp w) s1 a_1) :
    ∀ r, laws_heldInt64S.f a_1 k_1 = some r → Calls Try.prog 37 #[SV.v s1, .int .i64 k_1] w (Ret w (laws_heldInt64S.R r)) := by

  refine calls_T (n := 21) (Γ := [(0, SV.v s1), (1, .int .i64 k_1)]) (R := laws_heldInt64S.R) Try.func37 rfl rfl (Nat.le_of_ble_eq_true rfl) ⟨rfl, rfl, trivial⟩ ?_
  unfold laws_heldInt64S.f
  refine TC.seq ?_
  refine TC.region ?_
  refine TL.assign rfl rfl (v := .int .i64 0) rfl ?_
  refine TL.done ?_
  refine TC.seq ?_
  refine TC.seq ?_
  refine TC.region ?_
  refine TL.assign rfl rfl (v := .int .i64 0) rfl ?_
  refine TL.done ?_
  refine TC.loopK (σ := Int × Int) (γ := Unit) (Γ' := (fun p q => match p, q with | (k_2, i1), _ => [(0, SV.v s1), (1, .int .i64 k_2), (5, .int .i64 i1)])) (L' := (fun p q => match p, q with | (k_2, i1), _ => [])) (Γb := (fun p q => match p, q with | (k_2, i1), _ => [(0, SV.v s1), (1, .int .i64 k_2), (5, .int .i64 i1)])) (Lb := (fun p q => match p, q with | (k_2, i1), _ => [])) ((k_1, 0)) (()) ⟨rfl, rfl, rfl, trivial⟩ [] rfl ?_ ?_
  · rintro ⟨k_2, i1⟩ _
    refine TC.seq ?_
    refine TC.seq ?_
    refine TC.region ?_
    refine TL.move rfl rfl (v := .int .i64 i1) rfl ?_
    refine TL.move rfl rfl (v := SV.v s1) rfl ?_
    refine TL.len (Rd.old h1) Try.underlying22 rfl rfl rfl ?_
    refine TL.bin .i64 i1 (a_1.length : Int) rfl rfl rfl rfl (v := .bool (decide (i1 < (a_1.length : Int)))) rfl ?_
    refine TL.done ?_
    refine TC.cond (b := (decide (i1 < (a_1.length : Int)))) rfl (fun c1 => ?_) (fun c2 => ?_)
    · refine TC.skip ?_
      refine TC.seq ?_
      refine TC.block (NoEx.loop rfl NoEx.body) ?_
      refine TC.seq ?_
      refine TC.seq ?_
      refine TC.region ?_
      refine TL.move rfl rfl (v := SV.v s1) rfl ?_
      refine TL.move rfl rfl (v := .int .i64 i1) rfl ?_
      refine TL.chk fun h2 => ?_
      refine TL.ixs i1 i1.toNat (Rd.old h1) h2 Try.underlying22 Try.sizeOf2 rfl rfl rfl rfl (by omega) ?_
      refine TL.loadE (Rd.old h1) Try.isAgg2 i1.toNat 0 (gt_spec h2) (v := .int .i64 (gt a_1 i1)) rfl (by simp only [show Ei.sz = 1 from rfl] <;> omega) rfl rfl rfl ?_
      refine TL.move rfl rfl (v := .int .i64 k_2) rfl ?_
      refine TL.bin .i64 (gt a_1 i1) k_2 rfl rfl rfl rfl (v := .bool ((gt a_1 i1) != k_2)) rfl ?_
      refine TL.done ?_
      refine TC.cond (b := ((gt a_1 i1) != k_2)) rfl (fun c3 => ?_) (fun c4 => ?_)
      · refine TC.seq ?_
        refine TC.region ?_
        refine TL.assign rfl rfl (v := .int .i64 (-1)) rfl ?_
        refine TL.done ?_
        exact TC.retF (Fin.loop Far.ret (Fin.body (fin1 (.inr rfl) rfl (.tmp rfl) [] rfl ⟨rfl, rfl⟩)))
      · refine TC.skip ?_
        refine TC.region ?_
        refine TL.move rfl rfl (v := .int .i64 k_2) rfl ?_
        refine TL.bin .i64 k_2 1 rfl rfl rfl rfl (v := .int .i64 (w64 (k_2 + 1))) rfl ?_
        refine TL.assign rfl rfl (v := .int .i64 (w64 (k_2 + 1))) rfl ?_
        refine TL.done ?_
        refine TC.region ?_
        refine TL.move rfl rfl (v := .int .i64 i1) rfl ?_
        refine TL.bin .i64 i1 1 rfl rfl rfl rfl (v := .int .i64 (w64 (i1 + 1))) rfl ?_
        refine TL.assign rfl rfl (v := .int .i64 (w64 (i1 + 1))) rfl ?_
        refine TL.done ?_
        exact TC.next (((w64 (k_2 + 1)), (w64 (i1 + 1)))) (()) ⟨rfl, rfl, rfl, trivial⟩ [] rfl
    · exact TC.brk ((k_2, i1)) (()) ⟨rfl, rfl, rfl, trivial⟩ [] rfl
  · rintro ⟨k_2, i1⟩ _
    refine TC.seq ?_
    refine TC.region ?_
    refine TL.move rfl rfl (v := .int .i64 k_2) rfl ?_
    refine TL.assign rfl rfl (v := .int .i64 k_2) rfl ?_
    refine TL.done ?_
    exact TC.retF (Fin.body (fin1 (.inr rfl) rfl (.tmp rfl) [] rfl ⟨rfl, rfl⟩))

end Go.Proofs.Ytjjfoofjipafiaa.G

/- laws.heldTensor, as a pure function. -/
set_option linter.unusedVariables false
namespace Go.Proofs.Ytjjfoofjipafiaa.G
open Go Go.Sx Go.Proofs

def laws_heldTensor.f (a_1 : Int) (a_2 : Int) (a_3 : Int) (a_4 : Int) (a_5 : List Int) (k_1 : Int) : Option Int := (G.laws_heldInt64S.f a_5 k_1).bind (fun r_1 => (bif (decide (r_1 < 0)) then some (-1) else some r_1))

def laws_heldTensor.R (r : Int) (v : Value) (L : List Asn) : Prop := v = .int .i64 r ∧ L = []

set_option maxRecDepth 100000 in
set_option maxHeartbeats 4000000 in
theorem laws_heldTensor.calls (w : World) (a_1 : Int) (a_2 : Int) (a_3 : Int) (a_4 : Int) (s1 : SV) (a_5 : List Int) (k_1 : Int) (h1 : Reads Ei (hp w) s1 a_5) :
    ∀ r, laws_heldTensor.f a_1 a_2 a_3 a_4 a_5 k_1 = some r → Calls Try.prog 16 #[sval [.one (.int .i64 a_1), .one (.int .i64 a_2), .one (.int .i64 a_3), .one (.int .i64 a_4), .one (SV.v s1)], .int .i64 k_1] w (Ret w (laws_heldTensor.R r)) := by

  refine calls_T (n := 12) (Γ := [(0, sval [.one (.int .i64 a_1), .one (.int .i64 a_2), .one (.int .i64 a_3), .one (.int .i64 a_4), .one (SV.v s1)]), (1, .int .i64 k_1)]) (R := laws_heldTensor.R) Try.func16 rfl rfl (Nat.le_of_ble_eq_true rfl) ⟨rfl, rfl, trivial⟩ ?_
  unfold laws_heldTensor.f
  refine TC.seq ?_
  refine TC.region ?_
  refine TL.box [.one (.int .i64 a_1), .one (.int .i64 a_2), .one (.int .i64 a_3), .one (.int .i64 a_4), .one (SV.v s1)] rfl rfl rfl rfl fun b_1 => ?_
  refine TL.assign rfl rfl (v := .int .i64 0) rfl ?_
  refine TL.done ?_
  refine TC.seq ?_
  refine TC.region ?_
  refine TL.fa Try.underlying24 rfl Try.sizeOf22 rfl 4 rfl rfl rfl rfl ?_
  refine TL.load1 4 (Src.box 0 rfl) Try.isAgg22 rfl rfl rfl rfl rfl ?_
  refine TL.move rfl rfl (v := .int .i64 k_1) rfl ?_
  refine TL.call (R := G.laws_heldInt64S.R) Try.call37 rfl rfl rfl (fun w hS => G.laws_heldInt64S.calls w s1 a_5 k_1 ((Rd.old h1) w hS)) ?_
  rintro r_1 _ _ ⟨rfl, rfl⟩
  refine TL.assign rfl rfl (v := .int .i64 r_1) rfl ?_
  refine TL.done ?_
  refine TC.seq ?_
  refine TC.seq ?_
  refine TC.region ?_
  refine TL.move rfl rfl (v := .int .i64 r_1) rfl ?_
  refine TL.bin .i64 r_1 0 rfl rfl rfl rfl (v := .bool (decide (r_1 < 0))) rfl ?_
  refine TL.done ?_
  refine TC.cond (b := (decide (r_1 < 0))) rfl (fun c1 => ?_) (fun c2 => ?_)
  · refine TC.seq ?_
    refine TC.region ?_
    refine TL.assign rfl rfl (v := .int .i64 (-1)) rfl ?_
    refine TL.done ?_
    exact TC.retF (Fin.body (fin1 (.inr rfl) rfl (.tmp rfl) [] rfl ⟨rfl, rfl⟩))
  · refine TC.skip ?_
    refine TC.seq ?_
    refine TC.region ?_
    refine TL.move rfl rfl (v := .int .i64 r_1) rfl ?_
    refine TL.assign rfl rfl (v := .int .i64 r_1) rfl ?_
    refine TL.done ?_
    exact TC.retF (Fin.body (fin1 (.inr rfl) rfl (.tmp rfl) [] rfl ⟨rfl, rfl⟩))

end Go.Proofs.Ytjjfoofjipafiaa.G

/- laws.szInt64S, as a pure function. -/
set_option linter.unusedVariables false
namespace Go.Proofs.Ytjjfoofjipafiaa.G
open Go Go.Sx Go.Proofs

def laws_szInt64S.f (a_1 : List Int) (left_1 : Int) : Option Int := (bif (decide ((w64 (left_1 - (a_1.length : Int))) < 0)) then some (-1) else some (w64 (left_1 - (a_1.length : Int))))

def laws_szInt64S.R (r : Int) (v : Value) (L : List Asn) : Prop := v = .int .i64 r ∧ L = []

set_option maxRecDepth 100000 in
set_option maxHeartbeats 4000000 in
theorem laws_szInt64S.calls (w : World) (s1 : SV) (a_1 : List Int) (left_1 : Int) (h1 : Reads Ei (hp w) s1 a_1) :
    ∀ r, laws_szInt64S.f a_1 left_1 = some r → Calls Try.prog 54 #[SV.v s1, .int .i64 left_1] w (Ret w (laws_szInt64S.R r)) := by

  refine calls_T (n := 12) (Γ := [(0, SV.v s1), (1, .int .i64 left_1)]) (R := laws_szInt64S.R) Try.func54 rfl rfl (Nat.le_of_ble_eq_true rfl) ⟨rfl, rfl, trivial⟩ ?_
  unfold laws_szInt64S.f
  refine TC.seq ?_
  refine TC.region ?_
  refine TL.assign rfl rfl (v := .int .i64 0) rfl ?_
  refine TL.done ?_
  refine TC.seq ?_
  refine TC.region ?_
  refine TL.move rfl rfl (v := .int .i64 left_1) rfl ?_
  refine TL.move rfl rfl (v := SV.v s1) rfl ?_
  refine TL.len (Rd.old h1) Try.underlying22 rfl rfl rfl ?_
  refine TL.bin .i64 left_1 (a_1.length : Int) rfl rfl rfl rfl (v := .int .i64 (w64 (left_1 - (a_1.length : Int)))) rfl ?_
  refine TL.assign rfl rfl (v := .int .i64 (w64 (left_1 - (a_1.length : Int)))) rfl ?_
  refine TL.done ?_
  refine TC.seq ?_
  refine TC.seq ?_
  refine TC.region ?_
  refine TL.move rfl rfl (v := .int .i64 (w64 (left_1 - (a_1.length : Int)))) rfl ?_
  refine TL.bin .i64 (w64 (left_1 - (a_1.length : Int))) 0 rfl rfl rfl rfl (v := .bool (decide ((w64 (left_1 - (a_1.length : Int))) < 0))) rfl ?_
  refine TL.done ?_
  refine TC.cond (b := (decide ((w64 (left_1 - (a_1.length : Int))) < 0))) rfl (fun c1 => ?_) (fun c2 => ?_)
  · refine TC.seq ?_
    refine TC.region ?_
    refine TL.assign rfl rfl (v := .int .i64 (-1)) rfl ?_
    refine TL.done ?_
    exact TC.retF (Fin.body (fin1 (.inr rfl) rfl (.tmp rfl) [] rfl ⟨rfl, rfl⟩))
  · refine TC.skip ?_
    refine TC.seq ?_
    refine TC.region ?_
    refine TL.move rfl rfl (v := .int .i64 (w64 (left_1 - (a_1.length : Int)))) rfl ?_
    refine TL.assign rfl rfl (v := .int .i64 (w64 (left_1 - (a_1.length : Int)))) rfl ?_
    refine TL.done ?_
    exact TC.retF (Fin.body (fin1 (.inr rfl) rfl (.tmp rfl) [] rfl ⟨rfl, rfl⟩))

end Go.Proofs.Ytjjfoofjipafiaa.G

/- laws.szTensor, as a pure function. -/
set_option linter.unusedVariables false
namespace Go.Proofs.Ytjjfoofjipafiaa.G
open Go Go.Sx Go.Proofs

def laws_szTensor.f (a_1 : Int) (a_2 : Int) (a_3 : Int) (a_4 : Int) (a_5 : List Int) (left_1 : Int) : Option Int := (G.laws_szInt64S.f a_5 left_1).bind (fun r_1 => (bif (decide (r_1 < 0)) then some (-1) else some r_1))

def laws_szTensor.R (r : Int) (v : Value) (L : List Asn) : Prop := v = .int .i64 r ∧ L = []

set_option maxRecDepth 100000 in
set_option maxHeartbeats 4000000 in
theorem laws_szTensor.calls (w : World) (a_1 : Int) (a_2 : Int) (a_3 : Int) (a_4 : Int) (s1 : SV) (a_5 : List Int) (left_1 : Int) (h1 : Reads Ei (hp w) s1 a_5) :
    ∀ r, laws_szTensor.f a_1 a_2 a_3 a_4 a_5 left_1 = some r → Calls Try.prog 19 #[sval [.one (.int .i64 a_1), .one (.int .i64 a_2), .one (.int .i64 a_3), .one (.int .i64 a_4), .one (SV.v s1)], .int .i64 left_1] w (Ret w (laws_szTensor.R r)) := by

  refine calls_T (n := 12) (Γ := [(0, sval [.one (.int .i64 a_1), .one (.int .i64 a_2), .one (.int .i64 a_3), .one (.int .i64 a_4), .one (SV.v s1)]), (1, .int .i64 left_1)]) (R := laws_szTensor.R) Try.func19 rfl rfl (Nat.le_of_ble_eq_true rfl) ⟨rfl, rfl, trivial⟩ ?_
  unfold laws_szTensor.f
  refine TC.seq ?_
  refine TC.region ?_
  refine TL.box [.one (.int .i64 a_1), .one (.int .i64 a_2), .one (.int .i64 a_3), .one (.int .i64 a_4), .one (SV.v s1)] rfl rfl rfl rfl fun b_1 => ?_
  refine TL.assign rfl rfl (v := .int .i64 0) rfl ?_
  refine TL.done ?_
  refine TC.seq ?_
  refine TC.region ?_
  refine TL.fa Try.underlying32 rfl Try.sizeOf22 rfl 4 rfl rfl rfl rfl ?_
  refine TL.load1 4 (Src.box 0 rfl) Try.isAgg22 rfl rfl rfl rfl rfl ?_
  refine TL.move rfl rfl (v := .int .i64 left_1) rfl ?_
  refine TL.call (R := G.laws_szInt64S.R) Try.call54 rfl rfl rfl (fun w hS => G.laws_szInt64S.calls w s1 a_5 left_1 ((Rd.old h1) w hS)) ?_
  rintro r_1 _ _ ⟨rfl, rfl⟩
  refine TL.assign rfl rfl (v := .int .i64 r_1) rfl ?_
  refine TL.done ?_
  refine TC.seq ?_
  refine TC.seq ?_
  refine TC.region ?_
  refine TL.move rfl rfl (v := .int .i64 r_1) rfl ?_
  refine TL.bin .i64 r_1 0 rfl rfl rfl rfl (v := .bool (decide (r_1 < 0))) rfl ?_
  refine TL.done ?_
  refine TC.cond (b := (decide (r_1 < 0))) rfl (fun c1 => ?_) (fun c2 => ?_)
  · refine TC.seq ?_
    refine TC.region ?_
    refine TL.assign rfl rfl (v := .int .i64 (-1)) rfl ?_
    refine TL.done ?_
    exact TC.retF (Fin.body (fin1 (.inr rfl) rfl (.tmp rfl) [] rfl ⟨rfl, rfl⟩))
  · refine TC.skip ?_
    refine TC.seq ?_
    refine TC.region ?_
    refine TL.move rfl rfl (v := .int .i64 r_1) rfl ?_
    refine TL.assign rfl rfl (v := .int .i64 r_1) rfl ?_
    refine TL.done ?_
    exact TC.retF (Fin.body (fin1 (.inr rfl) rfl (.tmp rfl) [] rfl ⟨rfl, rfl⟩))

end Go.Proofs.Ytjjfoofjipafiaa.G

/- laws.toInt64S, as a pure function. -/
set_option linter.unusedVariables false
namespace Go.Proofs.Ytjjfoofjipafiaa.G
open Go Go.Sx Go.Proofs

def laws_toInt64S.b0 (a_1 : List Int) : (List Int) × Int → Option (LB ((List Int) × Int)) := fun p => match p with | (out1, i1) => (bif (decide (i1 < (a_1.length : Int))) then chk i1 a_1.length (chk i1 out1.length (some (.next ((out1.set i1.toNat (gt a_1 i1)), (w64 (i1 + 1)))))) else some (.brk (out1, i1)))

def laws_toInt64S.f (a_1 : List Int) : Option (List Int) := small a_1.length ((loop1 (laws_toInt64S.b0 a_1) ((List.replicate (a_1.length : Int).toNat (0 : Int)), 0)).bind (fun p => match p with | (out1, i1) => some out1))

def laws_toInt64S.R (r : List Int) (v : Value) (L : List Asn) : Prop := ∃ (s0 : SV), v = SV.v s0 ∧ L = [row Ei 2 s0 r]

set_option maxRecDepth 100000 in
set_option maxHeartbeats 4000000 in
theorem laws_toInt64S.calls (w : World) (s1 : SV) (a_1 : List Int) (h1 : Reads Ei (hp w) s1 a_1) :
    ∀ r, laws_toInt64S.f a_1 = some r → Calls Try.prog 39 #[SV.v s1] w (Ret w (laws_toInt64S.R r)) := by

  refine calls_T (n := 22) (Γ := [(0, SV.v s1)]) (R := laws_toInt64S.R) Try.func39 rfl rfl (Nat.le_of_ble_eq_true rfl) ⟨rfl, trivial⟩ ?_
  unfold laws_toInt64S.f
  refine TC.seq ?_
  refine TC.region ?_
  refine TL.assign rfl rfl (v := SV.v ⟨none, 0, 0⟩) rfl ?_
  refine TL.done ?_
  refine TC.seq ?_
  refine TC.region ?_
  refine TL.move rfl rfl (v := SV.v s1) rfl ?_
  refine TL.len (Rd.old h1) Try.underlying22 rfl rfl rfl ?_
  refine TL.small fun h2 => ?_
  refine TL.mkslice Ei (0 : Int) (a_1.length : Int) Try.underlying22 (info_of Try.type2) (zv := (Try.t2.zero.getD (.bool false))) rfl rfl rfl (by simp [Ei, flat, Seg.cells]) (by decide) (by omega) (by omega) rfl rfl rfl rfl fun s2 => ?_
  refine TL.assign rfl rfl (v := SV.v s2) rfl ?_
  refine TL.done ?_
  refine TC.seq ?_
  refine TC.seq ?_
  refine TC.region ?_
  refine TL.assign rfl rfl (v := .int .i64 0) rfl ?_
  refine TL.done ?_
  refine TC.loop1 (σ := (List Int) × Int) (γ := Unit) (Γ' := (fun p q => match p, q with | (out1, i1), _ => [(0, SV.v s1), (3, SV.v s2), (4, .int .i64 i1)])) (L' := (fun p q => match p, q with | (out1, i1), _ => [row Ei 2 s2 out1])) (Γb := (fun p q => match p, q with | (out1, i1), _ => [(0, SV.v s1), (3, SV.v s2), (4, .int .i64 i1)])) (Lb := (fun p q => match p, q with | (out1, i1), _ => [row Ei 2 s2 out1])) (((List.replicate (a_1.length : Int).toNat (0 : Int)), 0)) (()) ⟨rfl, rfl, rfl, trivial⟩ [0] rfl ?_ ?_
  · rintro ⟨out1, i1⟩ _
    refine TC.seq ?_
    refine TC.seq ?_
    refine TC.region ?_
    refine TL.move rfl rfl (v := .int .i64 i1) rfl ?_
    refine TL.move rfl rfl (v := SV.v s1) rfl ?_
    refine TL.len (Rd.old h1) Try.underlying22 rfl rfl rfl ?_
    refine TL.bin .i64 i1 (a_1.length : Int) rfl rfl rfl rfl (v := .bool (decide (i1 < (a_1.length : Int)))) rfl ?_
    refine TL.done ?_
    refine TC.cond (b := (decide (i1 < (a_1.length : Int)))) rfl (fun c1 => ?_) (fun c2 => ?_)
    · refine TC.skip ?_
      refine TC.seq ?_
      refine TC.block (NoEx.loop1 rfl) ?_
      refine TC.region ?_
      refine TL.move rfl rfl (v := SV.v s2) rfl ?_
      refine TL.move rfl rfl (v := .int .i64 i1) rfl ?_
      refine TL.move rfl rfl (v := SV.v s1) rfl ?_
      refine TL.move rfl rfl (v := .int .i64 i1) rfl ?_
      refine TL.chk fun h4 => ?_
      refine TL.ixs i1 i1.toNat (Rd.old h1) h4 Try.underlying22 Try.sizeOf2 rfl rfl rfl rfl (by omega) ?_
      refine TL.loadE (Rd.old h1) Try.isAgg2 i1.toNat 0 (gt_spec h4) (v := .int .i64 (gt a_1 i1)) rfl (by simp only [show Ei.sz = 1 from rfl] <;> omega) rfl rfl rfl ?_
      refine TL.chk fun h5 => ?_
      refine TL.ixs i1 i1.toNat (Rd.row 0 rfl) h5 Try.underlying22 Try.sizeOf2 rfl rfl rfl rfl (by omega) ?_
      refine TL.stE 0 (i1.toNat) (gt a_1 i1) (v := .int .i64 (gt a_1 i1)) rfl Try.sizeOf2 rfl rfl rfl (by have h_ := h5; omega) (by simp only [show Ei.sz = 1 from rfl] <;> omega) rfl rfl rfl ?_
      refine TL.done ?_
      refine TC.region ?_
      refine TL.move rfl rfl (v := .int .i64 i1) rfl ?_
      refine TL.bin .i64 i1 1 rfl rfl rfl rfl (v := .int .i64 (w64 (i1 + 1))) rfl ?_
      refine TL.assign rfl rfl (v := .int .i64 (w64 (i1 + 1))) rfl ?_
      refine TL.done ?_
      exact TC.next1 (((out1.set i1.toNat (gt a_1 i1)), (w64 (i1 + 1)))) (()) ⟨rfl, rfl, rfl, trivial⟩ [0] rfl
    · exact TC.brk1 ((out1, i1)) (()) ⟨rfl, rfl, rfl, trivial⟩ [0] rfl
  · rintro ⟨out1, i1⟩ _
    refine TC.seq ?_
    refine TC.region ?_
    refine TL.move rfl rfl (v := SV.v s2) rfl ?_
    refine TL.assign rfl rfl (v := SV.v s2) rfl ?_
    refine TL.done ?_
    exact TC.retF (Fin.body (fin1 (.inr rfl) rfl (.tmp rfl) [0] rfl ⟨s2, rfl, rfl⟩))

end Go.Proofs.Ytjjfoofjipafiaa.G

/- laws.toTensor, as a pure function. -/
set_option linter.unusedVariables false
namespace Go.Proofs.Ytjjfoofjipafiaa.G
open Go Go.Sx Go.Proofs

def laws_toTensor.f (a_1 : Int) (a_2 : Int) (a_3 : Int) (a_4 : Int) (a_5 : List Int) : Option (Int × Int × Int × Int × (List Int)) := (G.laws_toInt64S.f a_5).bind (fun r_1 => some (a_1, a_2, a_3, a_4, r_1))

def laws_toTensor.R (r : Int × Int × Int × Int × (List Int)) (v : Value) (L : List Asn) : Prop := ∃ (s0 : SV), v = sval [.one (.int .i64 r.1), .one (.int .i64 r.2.1), .one (.int .i64 r.2.2.1), .one (.int .i64 r.2.2.2.1), .one (SV.v s0)] ∧ L = [row Ei 2 s0 r.2.2.2.2]

set_option maxRecDepth 100000 in
set_option maxHeartbeats 4000000 in
theorem laws_toTensor.calls (w : World) (a_1 : Int) (a_2 : Int) (a_3 : Int) (a_4 : Int) (s1 : SV) (a_5 : List Int) (h1 : Reads Ei (hp w) s1 a_5) :
    ∀ r, laws_toTensor.f a_1 a_2 a_3 a_4 a_5 = some r → Calls Try.prog 21 #[sval [.one (.int .i64 a_1), .one (.int .i64 a_2), .one (.int .i64 a_3), .one (.int .i64 a_4), .one (SV.v s1)]] w (Ret w (laws_toTensor.R r)) := by

  refine calls_T (n := 21) (Γ := [(0, sval [.one (.int .i64 a_1), .one (.int .i64 a_2), .one (.int .i64 a_3), .one (.int .i64 a_4), .one (SV.v s1)])]) (R := laws_toTensor.R) Try.func21 rfl rfl (Nat.le_of_ble_eq_true rfl) ⟨rfl, trivial⟩ ?_
  unfold laws_toTensor.f
  refine TC.seq ?_
  refine TC.region ?_
  refine TL.box [.one (.int .i64 a_1), .one (.int .i64 a_2), .one (.int .i64 a_3), .one (.int .i64 a_4), .one (SV.v s1)] rfl rfl rfl rfl fun b_1 => ?_
  refine TL.alloc [.one (.int .i64 0), .one (.int .i64 0), .one (.int .i64 0), .one (.int .i64 0), .one (SV.v ⟨none, 0, 0⟩)] rfl rfl Try.zeroValue24 rfl fun b_2 => ?_
  refine TL.done ?_
  refine TC.seq ?_
  refine TC.region ?_
  refine TL.alloc [.one (.int .i64 0), .one (.int .i64 0), .one (.int .i64 0), .one (.int .i64 0), .one (SV.v ⟨none, 0, 0⟩)] rfl rfl Try.zeroValue24 rfl fun b_3 => ?_
  refine TL.done ?_
  refine TC.seq ?_
  refine TC.region ?_
  refine TL.fa Try.underlying32 rfl Try.sizeOf2 rfl 0 rfl rfl rfl rfl ?_
  refine TL.load1 0 (Src.box 2 rfl) Try.isAgg2 rfl rfl rfl rfl rfl ?_
  refine TL.fa Try.underlying24 rfl Try.sizeOf2 rfl 0 rfl rfl rfl rfl ?_
  refine TL.st1 0 0 rfl Try.sizeOf2 rfl rfl rfl rfl rfl rfl rfl ?_
  refine TL.done ?_
  refine TC.seq ?_
  refine TC.region ?_
  refine TL.fa Try.underlying32 rfl Try.sizeOf2 rfl 1 rfl rfl rfl rfl ?_
  refine TL.load1 1 (Src.box 2 rfl) Try.isAgg2 rfl rfl rfl rfl rfl ?_
  refine TL.fa Try.underlying24 rfl Try.sizeOf2 rfl 1 rfl rfl rfl rfl ?_
  refine TL.st1 0 1 rfl Try.sizeOf2 rfl rfl rfl rfl rfl rfl rfl ?_
  refine TL.done ?_
  refine TC.seq ?_
  refine TC.region ?_
  refine TL.fa Try.underlying32 rfl Try.sizeOf2 rfl 2 rfl rfl rfl rfl ?_
  refine TL.load1 2 (Src.box 2 rfl) Try.isAgg2 rfl rfl rfl rfl rfl ?_
  refine TL.fa Try.underlying24 rfl Try.sizeOf2 rfl 2 rfl rfl rfl rfl ?_
  refine TL.st1 0 2 rfl Try.sizeOf2 rfl rfl rfl rfl rfl rfl rfl ?_
  refine TL.done ?_
  refine TC.seq ?_
  refine TC.region ?_
  refine TL.fa Try.underlying32 rfl Try.sizeOf2 rfl 3 rfl rfl rfl rfl ?_
  refine TL.load1 3 (Src.box 2 rfl) Try.isAgg2 rfl rfl rfl rfl rfl ?_
  refine TL.fa Try.underlying24 rfl Try.sizeOf2 rfl 3 rfl rfl rfl rfl ?_
  refine TL.st1 0 3 rfl Try.sizeOf2 rfl rfl rfl rfl rfl rfl rfl ?_
  refine TL.done ?_
  refine TC.seq ?_
  refine TC.region ?_
  refine TL.fa Try.underlying32 rfl Try.sizeOf22 rfl 4 rfl rfl rfl rfl ?_
  refine TL.load1 4 (Src.box 2 rfl) Try.isAgg22 rfl rfl rfl rfl rfl ?_
  refine TL.call (R := G.laws_toInt64S.R) Try.call39 rfl rfl rfl (fun w hS => G.laws_toInt64S.calls w s1 a_5 ((Rd.old h1) w hS)) ?_
  rintro r_1 _ _ ⟨s2, rfl, rfl⟩
  refine TL.fa Try.underlying24 rfl Try.sizeOf22 rfl 4 rfl rfl rfl rfl ?_
  refine TL.st1 1 4 rfl Try.sizeOf22 rfl rfl rfl rfl rfl rfl rfl ?_
  refine TL.done ?_
  refine TC.seq ?_
  refine TC.region ?_
  refine TL.loadM 0 5 (Src.box 1 rfl) Try.isAgg24 Try.sizeOf24 (mid := [.one (.int .i64 a_1), .one (.int .i64 a_2), .one (.int .i64 a_3), .one (.int .i64 a_4), .one (SV.v s2)]) rfl rfl rfl rfl rfl rfl ?_
  refine TL.stM (news := [.one (.int .i64 a_1), .one (.int .i64 a_2), .one (.int .i64 a_3), .one (.int .i64 a_4), .one (SV.v s2)]) 2 0 5 rfl Try.sizeOf24 (ones_one rfl (ones_one rfl (ones_one rfl (ones_one rfl (ones_one rfl ones_nil))))) rfl rfl rfl rfl rfl rfl ?_
  refine TL.done ?_
  exact TC.retF (Fin.body (fin1 (.inr rfl) rfl (.cellN rfl (Src.box 2 rfl) Try.isAgg24 Try.sizeOf24 rfl) [0] rfl ⟨s2, rfl, rfl⟩))

end Go.Proofs.Ytjjfoofjipafiaa.G

/- spec.l03Power, as a pure function. -/
set_option linter.unusedVariables false
namespace Go.Proofs.Ytjjfoofjipafiaa.G
open Go Go.Sx Go.Proofs

def spec_l03Power.b0 (n_1 : Int) : Int × Int → Option (LB (Int × Int)) := fun p => match p with | (k_2, out1) => (bif ((decide (k_2 > 0)) && (decide (out1 ≤ 1296))) then some (.next ((w64 (k_2 - 1)), (w64 (out1 * n_1)))) else some (.brk (k_2, out1)))

def spec_l03Power.f (n_1 : Int) (k_1 : Int) : Option Int := (loop1 (spec_l03Power.b0 n_1) (k_1, 1)).bind (fun p => match p with | (k_2, out1) => some out1)

def spec_l03Power.R (r : Int) (v : Value) (L : List Asn) : Prop := v = .int .i64 r ∧ L = []

set_option maxRecDepth 100000 in
set_option maxHeartbeats 4000000 in
theorem spec_l03Power.calls (w : World) (n_1 : Int) (k_1 : Int) :
    ∀ r, spec_l03Power.f n_1 k_1 = some r → Calls Try.prog 56 #[.int .i64 n_1, .int .i64 k_1] w (Ret w (spec_l03Power.R r)) := by

  refine calls_T (n := 18) (Γ := [(0, .int .i64 n_1), (1, .int .i64 k_1)]) (R := spec_l03Power.R) Try.func56 rfl rfl (Nat.le_of_ble_eq_true rfl) ⟨rfl, rfl, trivial⟩ ?_
  unfold spec_l03Power.f
  refine TC.seq ?_
  refine TC.region ?_
  refine TL.assign rfl rfl (v := .int .i64 0) rfl ?_
  refine TL.done ?_
  refine TC.seq ?_
  refine TC.region ?_
  refine TL.assign rfl rfl (v := .int .i64 1) rfl ?_
  refine TL.done ?_
  refine TC.seq ?_
  refine TC.loop1 (σ := Int × Int) (γ := Unit) (Γ' := (fun p q => match p, q with | (k_2, out1), _ => [(0, .int .i64 n_1), (1, .int .i64 k_2), (5, .int .i64 out1)])) (L' := (fun p q => match p, q with | (k_2, out1), _ => [])) (Γb := (fun p q => match p, q with | (k_2, out1), _ => [(0, .int .i64 n_1), (1, .int .i64 k_2), (5, .int .i64 out1)])) (Lb := (fun p q => match p, q with | (k_2, out1), _ => [])) ((k_1, 1)) (()) ⟨rfl, rfl, rfl, trivial⟩ [] rfl ?_ ?_
  · rintro ⟨k_2, out1⟩ _
    refine TC.seq ?_
    refine TC.seq ?_
    refine TC.region ?_
    refine TL.move rfl rfl (v := .int .i64 k_2) rfl ?_
    refine TL.bin .i64 k_2 0 rfl rfl rfl rfl (v := .bool (decide (k_2 > 0))) rfl ?_
    refine TL.move rfl rfl (v := .bool (decide (k_2 > 0))) rfl ?_
    refine TL.cutU 3 [(11, .bool ((decide (k_2 > 0)) && (decide (out1 ≤ 1296)))), (0, .int .i64 n_1), (1, .int .i64 k_2), (5, .int .i64 out1), (6, .int .i64 k_2), (7, .bool (decide (k_2 > 0))), (8, .bool (decide (k_2 > 0)))] [] ?_ ?_
    · refine TL.cases (t := 8) (b := (decide (k_2 > 0))) rfl (fun c1 => ?_) (fun c2 => ?_)
      · refine TL.move rfl rfl (v := .int .i64 out1) rfl ?_
        refine TL.bin .i64 out1 1296 rfl rfl rfl rfl (v := .bool (decide (out1 ≤ 1296))) rfl ?_
        refine TL.pick rfl rfl (b := true) rfl (r := .bool (decide (out1 ≤ 1296))) rfl ?_
        refine TL.done ?_
        exact TC.nrm () () ⟨(by rw [c1]; rfl), rfl, rfl, rfl, rfl, rfl, (by rw [c1]; rfl), trivial⟩ [] (by kernel_rfl)
      · refine TL.skip rfl rfl (by decide) ?_
        refine TL.skip rfl rfl (by decide) ?_
        refine TL.pick rfl rfl (b := false) rfl (r := .bool false) rfl ?_
        refine TL.done ?_
        exact TC.nrm () () ⟨(by rw [c2]; rfl), rfl, rfl, rfl, rfl, rfl, (by rw [c2]; rfl), trivial⟩ [] (by kernel_rfl)
    · refine TL.done ?_
      refine TC.cond (b := ((decide (k_2 > 0)) && (decide (out1 ≤ 1296)))) rfl (fun c3 => ?_) (fun c4 => ?_)
      · refine TC.skip ?_
        refine TC.seq ?_
        refine TC.block (NoEx.loop1 rfl) ?_
        refine TC.region ?_
        refine TL.move rfl rfl (v := .int .i64 out1) rfl ?_
        refine TL.move rfl rfl (v := .int .i64 n_1) rfl ?_
        refine TL.bin .i64 out1 n_1 rfl rfl rfl rfl (v := .int .i64 (w64 (out1 * n_1))) rfl ?_
        refine TL.assign rfl rfl (v := .int .i64 (w64 (out1 * n_1))) rfl ?_
        refine TL.done ?_
        refine TC.region ?_
        refine TL.move rfl rfl (v := .int .i64 k_2) rfl ?_
        refine TL.bin .i64 k_2 1 rfl rfl rfl rfl (v := .int .i64 (w64 (k_2 - 1))) rfl ?_
        refine TL.assign rfl rfl (v := .int .i64 (w64 (k_2 - 1))) rfl ?_
        refine TL.done ?_
        exact TC.next1 (((w64 (k_2 - 1)), (w64 (out1 * n_1)))) (()) ⟨rfl, rfl, rfl, trivial⟩ [] rfl
      · exact TC.brk1 ((k_2, out1)) (()) ⟨rfl, rfl, rfl, trivial⟩ [] rfl
  · rintro ⟨k_2, out1⟩ _
    refine TC.seq ?_
    refine TC.region ?_
    refine TL.move rfl rfl (v := .int .i64 out1) rfl ?_
    refine TL.assign rfl rfl (v := .int .i64 out1) rfl ?_
    refine TL.done ?_
    exact TC.retF (Fin.body (fin1 (.inr rfl) rfl (.tmp rfl) [] rfl ⟨rfl, rfl⟩))

end Go.Proofs.Ytjjfoofjipafiaa.G

/- spec.l03Empty, as a pure function. -/
set_option linter.unusedVariables false
namespace Go.Proofs.Ytjjfoofjipafiaa.G
open Go Go.Sx Go.Proofs

def spec_l03Empty.f (p1 : Int) (n_1 : Int) (in_1 : Int) (out1 : Int) : Option (Int × Int × Int × Int × (List Int)) := (G.spec_l03Power.f n_1 (w64 (in_1 + out1))).bind (fun r_1 => grd (decide (0 ≤ r_1)) (small r_1.toNat (some (p1, n_1, in_1, out1, (List.replicate r_1.toNat (0 : Int))))))

def spec_l03Empty.R (r : Int × Int × Int × Int × (List Int)) (v : Value) (L : List Asn) : Prop := ∃ (s0 : SV), v = sval [.one (.int .i64 r.1), .one (.int .i64 r.2.1), .one (.int .i64 r.2.2.1), .one (.int .i64 r.2.2.2.1), .one (SV.v s0)] ∧ L = [row Ei 2 s0 r.2.2.2.2]

set_option maxRecDepth 100000 in
set_option maxHeartbeats 4000000 in
theorem spec_l03Empty.calls (w : World) (p1 : Int) (n_1 : Int) (in_1 : Int) (out1 : Int) :
    ∀ r, spec_l03Empty.f p1 n_1 in_1 out1 = some r → Calls Try.prog 45 #[.int .i64 p1, .int .i64 n_1, .int .i64 in_1, .int .i64 out1] w (Ret w (spec_l03Empty.R r)) := by

  refine calls_T (n := 20) (Γ := [(0, .int .i64 p1), (1, .int .i64 n_1), (2, .int .i64 in_1), (3, .int .i64 out1)]) (R := spec_l03Empty.R) Try.func45 rfl rfl (Nat.le_of_ble_eq_true rfl) ⟨rfl, rfl, rfl, rfl, trivial⟩ ?_
  unfold spec_l03Empty.f
  refine TC.seq ?_
  refine TC.region ?_
  refine TL.alloc [.one (.int .i64 0), .one (.int .i64 0), .one (.int .i64 0), .one (.int .i64 0), .one (SV.v ⟨none, 0, 0⟩)] rfl rfl Try.zeroValue24 rfl fun b_1 => ?_
  refine TL.done ?_
  refine TC.seq ?_
  refine TC.region ?_
  refine TL.move rfl rfl (v := .int .i64 p1) rfl ?_
  refine TL.move rfl rfl (v := .int .i64 n_1) rfl ?_
  refine TL.move rfl rfl (v := .int .i64 in_1) rfl ?_
  refine TL.move rfl rfl (v := .int .i64 out1) rfl ?_
  refine TL.move rfl rfl (v := .int .i64 n_1) rfl ?_
  refine TL.move rfl rfl (v := .int .i64 in_1) rfl ?_
  refine TL.move rfl rfl (v := .int .i64 out1) rfl ?_
  refine TL.bin .i64 in_1 out1 rfl rfl rfl rfl (v := .int .i64 (w64 (in_1 + out1))) rfl ?_
  refine TL.call (R := G.spec_l03Power.R) Try.call56 rfl rfl rfl (fun w hS => G.spec_l03Power.calls w n_1 (w64 (in_1 + out1))) ?_
  rintro r_1 _ _ ⟨rfl, rfl⟩
  refine TL.grd fun h2 => ?_
  refine TL.small fun h1 => ?_
  refine TL.mkslice Ei (0 : Int) r_1 Try.underlying22 (info_of Try.type2) (zv := (Try.t2.zero.getD (.bool false))) rfl rfl rfl (by simp [Ei, flat, Seg.cells]) (by decide) (by simpa using h2) (by omega) rfl rfl rfl rfl fun s1 => ?_
  refine TL.buildS (segs0 := [.one (.int .i64 0), .one (.int .i64 0), .one (.int .i64 0), .one (.int .i64 0), .one (SV.v ⟨none, 0, 0⟩)]) (segs := [.one (.int .i64 p1), .one (.int .i64 n_1), .one (.int .i64 in_1), .one (.int .i64 out1), .one (SV.v s1)]) [1, 1, 1, 1, 1] Try.underlying24 ⟨Try.sizeOf2, Try.sizeOf2, Try.sizeOf2, Try.sizeOf2, Try.sizeOf22, trivial⟩ Try.zeroValue24 rfl [(0, .int .i64 p1), (1, .int .i64 n_1), (2, .int .i64 in_1), (3, .int .i64 out1), (4, SV.v s1)] rfl (fun pl hpl => by subst hpl; exact fill_one 0 rfl rfl rfl rfl (fill_one 1 rfl rfl rfl rfl (fill_one 2 rfl rfl rfl rfl (fill_one 3 rfl rfl rfl rfl (fill_one 4 rfl rfl rfl rfl (rfl)))))) rfl rfl ?_
  refine TL.stM (news := [.one (.int .i64 p1), .one (.int .i64 n_1), .one (.int .i64 in_1), .one (.int .i64 out1), .one (SV.v s1)]) 1 0 5 rfl Try.sizeOf24 (ones_one rfl (ones_one rfl (ones_one rfl (ones_one rfl (ones_one rfl ones_nil))))) rfl rfl rfl rfl rfl rfl ?_
  refine TL.done ?_
  exact TC.retF (Fin.body (fin1 (.inr rfl) rfl (.cellN rfl (Src.box 1 rfl) Try.isAgg24 Try.sizeOf24 rfl) [0] rfl ⟨s1, rfl, rfl⟩))

end Go.Proofs.Ytjjfoofjipafiaa.G

/- spec.l01In, as a pure function. -/
set_option linter.unusedVariables false
namespace Go.Proofs.Ytjjfoofjipafiaa.G
open Go Go.Sx Go.Proofs

def spec_l01In.f (n_1 : Int) (low1 : Int) (high1 : Int) : Option Bool := some ((decide (n_1 ≥ low1)) && (decide (n_1 ≤ high1)))

def spec_l01In.R (r : Bool) (v : Value) (L : List Asn) : Prop := v = .bool r ∧ L = []

set_option maxRecDepth 100000 in
set_option maxHeartbeats 4000000 in
theorem spec_l01In.calls (w : World) (n_1 : Int) (low1 : Int) (high1 : Int) :
    ∀ r, spec_l01In.f n_1 low1 high1 = some r → Calls Try.prog 49 #[.int .i64 n_1, .int .i64 low1, .int .i64 high1] w (Ret w (spec_l01In.R r)) := by

  refine calls_T (n := 15) (Γ := [(0, .int .i64 n_1), (1, .int .i64 low1), (2, .int .i64 high1)]) (R := spec_l01In.R) Try.func49 rfl rfl (Nat.le_of_ble_eq_true rfl) ⟨rfl, rfl, rfl, trivial⟩ ?_
  unfold spec_l01In.f
  refine TC.seq ?_
  refine TC.region ?_
  refine TL.assign rfl rfl (v := .bool false) rfl ?_
  refine TL.done ?_
  refine TC.seq ?_
  refine TC.region ?_
  refine TL.move rfl rfl (v := .int .i64 n_1) rfl ?_
  refine TL.move rfl rfl (v := .int .i64 low1) rfl ?_
  refine TL.bin .i64 n_1 low1 rfl rfl rfl rfl (v := .bool (decide (n_1 ≥ low1))) rfl ?_
  refine TL.move rfl rfl (v := .bool (decide (n_1 ≥ low1))) rfl ?_
  refine TL.cutU 4 [(14, .bool ((decide (n_1 ≥ low1)) && (decide (n_1 ≤ high1)))), (0, .int .i64 n_1), (1, .int .i64 low1), (2, .int .i64 high1), (6, .bool false), (7, .int .i64 n_1), (8, .int .i64 low1), (9, .bool (decide (n_1 ≥ low1))), (10, .bool (decide (n_1 ≥ low1)))] [] ?_ ?_
  · refine TL.cases (t := 10) (b := (decide (n_1 ≥ low1))) rfl (fun c1 => ?_) (fun c2 => ?_)
    · refine TL.move rfl rfl (v := .int .i64 n_1) rfl ?_
      refine TL.move rfl rfl (v := .int .i64 high1) rfl ?_
      refine TL.bin .i64 n_1 high1 rfl rfl rfl rfl (v := .bool (decide (n_1 ≤ high1))) rfl ?_
      refine TL.pick rfl rfl (b := true) rfl (r := .bool (decide (n_1 ≤ high1))) rfl ?_
      refine TL.done ?_
      exact TC.nrm () () ⟨(by rw [c1]; rfl), rfl, rfl, rfl, rfl, rfl, rfl, rfl, (by rw [c1]; rfl), trivial⟩ [] (by kernel_rfl)
    · refine TL.skip rfl rfl (by decide) ?_
      refine TL.skip rfl rfl (by decide) ?_
      refine TL.skip rfl rfl (by decide) ?_
      refine TL.pick rfl rfl (b := false) rfl (r := .bool false) rfl ?_
      refine TL.done ?_
      exact TC.nrm () () ⟨(by rw [c2]; rfl), rfl, rfl, rfl, rfl, rfl, rfl, rfl, (by rw [c2]; rfl), trivial⟩ [] (by kernel_rfl)
  · refine TL.assign rfl rfl (v := .bool ((decide (n_1 ≥ low1)) && (decide (n_1 ≤ high1)))) rfl ?_
    refine TL.done ?_
    exact TC.retF (Fin.body (fin1 (.inr rfl) rfl (.tmp rfl) [] rfl ⟨rfl, rfl⟩))

end Go.Proofs.Ytjjfoofjipafiaa.G

/- spec.l01Prime, as a pure function. -/
set_option linter.unusedVariables false
namespace Go.Proofs.Ytjjfoofjipafiaa.G
open Go Go.Sx Go.Proofs

def spec_l01Prime.f (p1 : Int) : Option Bool := some ((((((p1 == 2) || (p1 == 3)) || (p1 == 5)) || (p1 == 7)) || (p1 == 11)) || (p1 == 13))

def spec_l01Prime.R (r : Bool) (v : Value) (L : List Asn) : Prop := v = .bool r ∧ L = []

set_option maxRecDepth 100000 in
set_option maxHeartbeats 4000000 in
theorem spec_l01Prime.calls (w : World) (p1 : Int) :
    ∀ r, spec_l01Prime.f p1 = some r → Calls Try.prog 82 #[.int .i64 p1] w (Ret w (spec_l01Prime.R r)) := by

  refine calls_T (n := 25) (Γ := [(0, .int .i64 p1)]) (R := spec_l01Prime.R) Try.func82 rfl rfl (Nat.le_of_ble_eq_true rfl) ⟨rfl, trivial⟩ ?_
  unfold spec_l01Prime.f
  refine TC.seq ?_
  refine TC.region ?_
  refine TL.assign rfl rfl (v := .bool false) rfl ?_
  refine TL.done ?_
  refine TC.seq ?_
  refine TC.region ?_
  refine TL.move rfl rfl (v := .int .i64 p1) rfl ?_
  refine TL.bin .i64 p1 2 rfl rfl rfl rfl (v := .bool (p1 == 2)) rfl ?_
  refine TL.move rfl rfl (v := .bool (p1 == 2)) rfl ?_
  refine TL.cutU 3 [(8, .bool ((p1 == 2) || (p1 == 3))), (0, .int .i64 p1), (2, .bool false), (3, .int .i64 p1), (4, .bool (p1 == 2)), (5, .bool (p1 == 2))] [] ?_ ?_
  · refine TL.cases (t := 5) (b := (p1 == 2)) rfl (fun c1 => ?_) (fun c2 => ?_)
    · refine TL.skip rfl rfl (by decide) ?_
      refine TL.skip rfl rfl (by decide) ?_
      refine TL.pick rfl rfl (b := true) rfl (r := .bool true) rfl ?_
      refine TL.done ?_
      exact TC.nrm () () ⟨(by rw [c1]; rfl), rfl, rfl, rfl, rfl, (by rw [c1]; rfl), trivial⟩ [] (by kernel_rfl)
    · refine TL.move rfl rfl (v := .int .i64 p1) rfl ?_
      refine TL.bin .i64 p1 3 rfl rfl rfl rfl (v := .bool (p1 == 3)) rfl ?_
      refine TL.pick rfl rfl (b := false) rfl (r := .bool (p1 == 3)) rfl ?_
      refine TL.done ?_
      exact TC.nrm () () ⟨(by rw [c2]; rfl), rfl, rfl, rfl, rfl, (by rw [c2]; rfl), trivial⟩ [] (by kernel_rfl)
  · refine TL.move rfl rfl (v := .bool ((p1 == 2) || (p1 == 3))) rfl ?_
    refine TL.cutU 3 [(12, .bool (((p1 == 2) || (p1 == 3)) || (p1 == 5))), (0, .int .i64 p1), (2, .bool false), (3, .int .i64 p1), (4, .bool (p1 == 2)), (5, .bool (p1 == 2)), (8, .bool ((p1 == 2) || (p1 == 3))), (9, .bool ((p1 == 2) || (p1 == 3)))] [] ?_ ?_
    · refine TL.cases (t := 9) (b := ((p1 == 2) || (p1 == 3))) rfl (fun c3 => ?_) (fun c4 => ?_)
      · refine TL.skip rfl rfl (by decide) ?_
        refine TL.skip rfl rfl (by decide) ?_
        refine TL.pick rfl rfl (b := true) rfl (r := .bool true) rfl ?_
        refine TL.done ?_
        exact TC.nrm () () ⟨(by rw [c3]; rfl), rfl, rfl, rfl, rfl, rfl, rfl, (by rw [c3]; rfl), trivial⟩ [] (by kernel_rfl)
      · refine TL.move rfl rfl (v := .int .i64 p1) rfl ?_
        refine TL.bin .i64 p1 5 rfl rfl rfl rfl (v := .bool (p1 == 5)) rfl ?_
        refine TL.pick rfl rfl (b := false) rfl (r := .bool (p1 == 5)) rfl ?_
        refine TL.done ?_
        exact TC.nrm () () ⟨(by rw [c4]; rfl), rfl, rfl, rfl, rfl, rfl, rfl, (by rw [c4]; rfl), trivial⟩ [] (by kernel_rfl)
    · refine TL.move rfl rfl (v := .bool (((p1 == 2) || (p1 == 3)) || (p1 == 5))) rfl ?_
      refine TL.cutU 3 [(16, .bool ((((p1 == 2) || (p1 == 3)) || (p1 == 5)) || (p1 == 7))), (0, .int .i64 p1), (2, .bool false), (3, .int .i64 p1), (4, .bool (p1 == 2)), (5, .bool (p1 == 2)), (8, .bool ((p1 == 2) || (p1 == 3))), (9, .bool ((p1 == 2) || (p1 == 3))), (12, .bool (((p1 == 2) || (p1 == 3)) || (p1 == 5))), (13, .bool (((p1 == 2) || (p1 == 3)) || (p1 == 5)))] [] ?_ ?_
      · refine TL.cases (t := 13) (b := (((p1 == 2) || (p1 == 3)) || (p1 == 5))) rfl (fun c5 => ?_) (fun c6 => ?_)
        · refine TL.skip rfl rfl (by decide) ?_
          refine TL.skip rfl rfl (by decide) ?_
          refine TL.pick rfl rfl (b := true) rfl (r := .bool true) rfl ?_
          refine TL.done ?_
          exact TC.nrm () () ⟨(by rw [c5]; rfl), rfl, rfl, rfl, rfl, rfl, rfl, rfl, rfl, (by rw [c5]; rfl), trivial⟩ [] (by kernel_rfl)
        · refine TL.move rfl rfl (v := .int .i64 p1) rfl ?_
          refine TL.bin .i64 p1 7 rfl rfl rfl rfl (v := .bool (p1 == 7)) rfl ?_
          refine TL.pick rfl rfl (b := false) rfl (r := .bool (p1 == 7)) rfl ?_
          refine TL.done ?_
          exact TC.nrm () () ⟨(by rw [c6]; rfl), rfl, rfl, rfl, rfl, rfl, rfl, rfl, rfl, (by rw [c6]; rfl), trivial⟩ [] (by kernel_rfl)
      · refine TL.move rfl rfl (v := .bool ((((p1 == 2) || (p1 == 3)) || (p1 == 5)) || (p1 == 7))) rfl ?_
        refine TL.cutU 3 [(20, .bool (((((p1 == 2) || (p1 == 3)) || (p1 == 5)) || (p1 == 7)) || (p1 == 11))), (0, .int .i64 p1), (2, .bool false), (3, .int .i64 p1), (4, .bool (p1 == 2)), (5, .bool (p1 == 2)), (8, .bool ((p1 == 2) || (p1 == 3))), (9, .bool ((p1 == 2) || (p1 == 3))), (12, .bool (((p1 == 2) || (p1 == 3)) || (p1 == 5))), (13, .bool (((p1 == 2) || (p1 == 3)) || (p1 == 5))), (16, .bool ((((p1 == 2) || (p1 == 3)) || (p1 == 5)) || (p1 == 7))), (17, .bool ((((p1 == 2) || (p1 == 3)) || (p1 == 5)) || (p1 == 7)))] [] ?_ ?_
        · refine TL.cases (t := 17) (b := ((((p1 == 2) || (p1 == 3)) || (p1 == 5)) || (p1 == 7))) rfl (fun c7 => ?_) (fun c8 => ?_)
          · refine TL.skip rfl rfl (by decide) ?_
            refine TL.skip rfl rfl (by decide) ?_
            refine TL.pick rfl rfl (b := true) rfl (r := .bool true) rfl ?_
            refine TL.done ?_
            exact TC.nrm () () ⟨(by rw [c7]; rfl), rfl, rfl, rfl, rfl, rfl, rfl, rfl, rfl, rfl, rfl, (by rw [c7]; rfl), trivial⟩ [] (by kernel_rfl)
          · refine TL.move rfl rfl (v := .int .i64 p1) rfl ?_
            refine TL.bin .i64 p1 11 rfl rfl rfl rfl (v := .bool (p1 == 11)) rfl ?_
            refine TL.pick rfl rfl (b := false) rfl (r := .bool (p1 == 11)) rfl ?_
            refine TL.done ?_
            exact TC.nrm () () ⟨(by rw [c8]; rfl), rfl, rfl, rfl, rfl, rfl, rfl, rfl, rfl, rfl, rfl, (by rw [c8]; rfl), trivial⟩ [] (by kernel_rfl)
        · refine TL.move rfl rfl (v := .bool (((((p1 == 2) || (p1 == 3)) || (p1 == 5)) || (p1 == 7)) || (p1 == 11))) rfl ?_
          refine TL.cutU 3 [(24, .bool ((((((p1 == 2) || (p1 == 3)) || (p1 == 5)) || (p1 == 7)) || (p1 == 11)) || (p1 == 13))), (0, .int .i64 p1), (2, .bool false), (3, .int .i64 p1), (4, .bool (p1 == 2)), (5, .bool (p1 == 2)), (8, .bool ((p1 == 2) || (p1 == 3))), (9, .bool ((p1 == 2) || (p1 == 3))), (12, .bool (((p1 == 2) || (p1 == 3)) || (p1 == 5))), (13, .bool (((p1 == 2) || (p1 == 3)) || (p1 == 5))), (16, .bool ((((p1 == 2) || (p1 == 3)) || (p1 == 5)) || (p1 == 7))), (17, .bool ((((p1 == 2) || (p1 == 3)) || (p1 == 5)) || (p1 == 7))), (20, .bool (((((p1 == 2) || (p1 == 3)) || (p1 == 5)) || (p1 == 7)) || (p1 == 11))), (21, .bool (((((p1 == 2) || (p1 == 3)) || (p1 == 5)) || (p1 == 7)) || (p1 == 11)))] [] ?_ ?_
          · refine TL.cases (t := 21) (b := (((((p1 == 2) || (p1 == 3)) || (p1 == 5)) || (p1 == 7)) || (p1 == 11))) rfl (fun c9 => ?_) (fun c10 => ?_)
            · refine TL.skip rfl rfl (by decide) ?_
              refine TL.skip rfl rfl (by decide) ?_
              refine TL.pick rfl rfl (b := true) rfl (r := .bool true) rfl ?_
              refine TL.done ?_
              exact TC.nrm () () ⟨(by rw [c9]; rfl), rfl, rfl, rfl, rfl, rfl, rfl, rfl, rfl, rfl, rfl, rfl, rfl, (by rw [c9]; rfl), trivial⟩ [] (by kernel_rfl)
            · refine TL.move rfl rfl (v := .int .i64 p1) rfl ?_
              refine TL.bin .i64 p1 13 rfl rfl rfl rfl (v := .bool (p1 == 13)) rfl ?_
              refine TL.pick rfl rfl (b := false) rfl (r := .bool (p1 == 13)) rfl ?_
              refine TL.done ?_
              exact TC.nrm () () ⟨(by rw [c10]; rfl), rfl, rfl, rfl, rfl, rfl, rfl, rfl, rfl, rfl, rfl, rfl, rfl, (by rw [c10]; rfl), trivial⟩ [] (by kernel_rfl)
          · refine TL.assign rfl rfl (v := .bool ((((((p1 == 2) || (p1 == 3)) || (p1 == 5)) || (p1 == 7)) || (p1 == 11)) || (p1 == 13))) rfl ?_
            refine TL.done ?_
            exact TC.retF (Fin.body (fin1 (.inr rfl) rfl (.tmp rfl) [] rfl ⟨rfl, rfl⟩))

end Go.Proofs.Ytjjfoofjipafiaa.G
