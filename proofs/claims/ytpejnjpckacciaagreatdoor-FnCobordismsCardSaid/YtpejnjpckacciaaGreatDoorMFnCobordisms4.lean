/- Functions of the program, as pure functions. -/
import Derived.Test.YtpejnjpckacciaaGreatDoorMFnCobordisms3
import Derived.Test.YtpejnjpckacciaaGreatDoorProg
import Derived.WalkKit
import Derived.Deep.QuietTactic
import Derived.Sort.Grow
import Derived.Deep.Draws
set_option linter.unusedVariables false
set_option maxRecDepth 100000
set_option maxHeartbeats 4000000
namespace Go.Proofs.YtpejnjpckacciaaGreatDoor.G
open Go Go.Sx Go.Proofs
def impl_Part_rank.f (p1 : Int) (p2 : List Int) (p3 : List Int) : Option (Int × Int) := (bif (decide ((p2.length : Int) > 0)) then chk 0 p2.length (some (0, (gt p2 0))) else (bif (decide ((p3.length : Int) > 0)) then chk 0 p3.length (some (1, (gt p3 0))) else some (2, p1)))
def impl_Part_rank.R (r : Int × Int) (v : Value) (L : List Asn) : Prop := v = .tuple #[.int .i64 r.1, .int .i64 r.2] ∧ L = []
theorem impl_Part_rank.calls (w : World) (p1 : Int) (s1 : SV) (p2 : List Int) (s2 : SV) (p3 : List Int) (h1 : Reads Ei (hp w) s1 p2) (h2 : Reads Ei (hp w) s2 p3) :
  ∀ r, impl_Part_rank.f p1 p2 p3 = some r → Calls Tryz.prog 80 #[sval [.one (.int .i64 p1), .one (SV.v s1), .one (SV.v s2)]] w (Ret w (impl_Part_rank.R r)) := by
 refine calls_T (n := 24) (Γ := [(0, sval [.one (.int .i64 p1), .one (SV.v s1), .one (SV.v s2)])]) (R := impl_Part_rank.R) Tryz.func80 rfl rfl (Nat.le_of_ble_eq_true rfl) ⟨rfl, trivial⟩ ?_
 unfold impl_Part_rank.f
 refine TC.seq <| TC.region ?_
 refine TL.box [.one (.int .i64 p1), .one (SV.v s1), .one (SV.v s2)] rfl rfl rfl rfl fun b_1 => ?_
 refine TL.as (.int .i64 0) <| TL.as (.int .i64 0) <| TL.done <| TC.seq <| TC.block NoEx.body <| TC.seq ?_
 refine TC.region <| TL.fa Tryz.underlying44 rfl Tryz.sizeOf36 rfl 1 rfl rfl rfl rfl <| TL.load1 1 (Src.box 0 rfl) Tryz.isAgg36 rfl rfl rfl rfl rfl <| TL.len (Rd.old h1) Tryz.underlying36 rfl rfl rfl <| TL.bn .i64 (p2.length : Int) 0 (.bool (decide ((p2.length : Int) > 0))) <| TL.as (.bool (decide ((p2.length : Int) > 0))) ?_
 refine TL.done ?_
 refine TC.cond (b := (decide ((p2.length : Int) > 0))) rfl (fun c1 => ?_) (fun c2 => ?_)
 ·refine TC.seq ?_
  refine TC.wk (Γ' := [(0, sval [.one (.int .i64 p1), .one (SV.v s1), .one (SV.v s2)]), (1, bp b_1 0), (5, bp b_1 1), (6, SV.v s1), (7, .int .i64 (p2.length : Int)), (8, .bool (decide ((p2.length : Int) > 0))), (4, .bool (decide ((p2.length : Int) > 0)))]) ⟨rfl, rfl, rfl, rfl, rfl, rfl, rfl, trivial⟩ ?_
  refine TC.chk fun h3 => ?_
  refine TC.draw [bp b_1 1, SV.v s1, ep s1 0, .int .i64 (gt p2 0), .int .i64 0, .int .i64 (gt p2 0)] 6 [box b_1 44 [.one (.int .i64 p1), .one (SV.v s1), .one (SV.v s2)]] (by kernel_rfl) rfl rfl rfl rfl ?_ ?_
  ·refine ⟨?_, ?_, ?_, ?_, ?_, ?_, trivial⟩
   ·exact TL.fa Tryz.underlying44 rfl Tryz.sizeOf36 rfl 1 rfl rfl rfl rfl <| TL.done <| TC.n0 [0]
   ·exact TL.load1 1 (Src.box 0 rfl) Tryz.isAgg36 rfl rfl rfl rfl rfl <| TL.done <| TC.n0 [0]
   ·exact TL.ixs 0 0 (Rd.old h1) h3 Tryz.underlying36 Tryz.sizeOf2 rfl rfl rfl rfl rfl <| TL.done <| TC.n0 [0]
   ·exact TL.loadE (Rd.old h1) Tryz.isAgg2 0 0 (gt_spec h3) (v := .int .i64 (gt p2 0)) rfl rfl rfl rfl rfl <| TL.done <| TC.n0 [0]
   ·exact TL.as (.int .i64 0) <| TL.done <| TC.n0 [0]
   exact TL.as (.int .i64 (gt p2 0)) <| TL.done <| TC.n0 [0]
  exact TC.retF (Fin.body (fin2 (.inr rfl) rfl (.tmp rfl) (.tmp rfl) [] rfl ⟨rfl, rfl⟩))
 refine TC.seq <| TC.region <| TL.fa Tryz.underlying44 rfl Tryz.sizeOf36 rfl 2 rfl rfl rfl rfl <| TL.load1 2 (Src.box 0 rfl) Tryz.isAgg36 rfl rfl rfl rfl rfl <| TL.len (Rd.old h2) Tryz.underlying36 rfl rfl rfl <| TL.bn .i64 (p3.length : Int) 0 (.bool (decide ((p3.length : Int) > 0))) ?_
 refine TL.as (.bool (decide ((p3.length : Int) > 0))) <| TL.done ?_
 refine TC.cond (b := (decide ((p3.length : Int) > 0))) rfl (fun c3 => ?_) (fun c4 => ?_)
 ·refine TC.seq ?_
  refine TC.wk (Γ' := [(0, sval [.one (.int .i64 p1), .one (SV.v s1), .one (SV.v s2)]), (1, bp b_1 0), (5, bp b_1 1), (6, SV.v s1), (7, .int .i64 (p2.length : Int)), (8, .bool (decide ((p2.length : Int) > 0))), (4, .bool (decide ((p2.length : Int) > 0))), (14, bp b_1 2), (15, SV.v s2), (16, .int .i64 (p3.length : Int)), (17, .bool (decide ((p3.length : Int) > 0))), (13, .bool (decide ((p3.length : Int) > 0)))]) ⟨rfl, rfl, rfl, rfl, rfl, rfl, rfl, rfl, rfl, rfl, rfl, rfl, trivial⟩ ?_
  refine TC.chk fun h4 => ?_
  refine TC.draw [bp b_1 2, SV.v s2, ep s2 0, .int .i64 (gt p3 0), .int .i64 1, .int .i64 (gt p3 0)] 6 [box b_1 44 [.one (.int .i64 p1), .one (SV.v s1), .one (SV.v s2)]] (by kernel_rfl) rfl rfl rfl rfl ?_ ?_
  ·refine ⟨?_, ?_, ?_, ?_, ?_, ?_, trivial⟩
   ·exact TL.fa Tryz.underlying44 rfl Tryz.sizeOf36 rfl 2 rfl rfl rfl rfl <| TL.done <| TC.n0 [0]
   ·exact TL.load1 2 (Src.box 0 rfl) Tryz.isAgg36 rfl rfl rfl rfl rfl <| TL.done <| TC.n0 [0]
   ·exact TL.ixs 0 0 (Rd.old h2) h4 Tryz.underlying36 Tryz.sizeOf2 rfl rfl rfl rfl rfl <| TL.done <| TC.n0 [0]
   ·exact TL.loadE (Rd.old h2) Tryz.isAgg2 0 0 (gt_spec h4) (v := .int .i64 (gt p3 0)) rfl rfl rfl rfl rfl <| TL.done <| TC.n0 [0]
   ·exact TL.as (.int .i64 1) <| TL.done <| TC.n0 [0]
   exact TL.as (.int .i64 (gt p3 0)) <| TL.done <| TC.n0 [0]
  exact TC.retF (Fin.body (fin2 (.inr rfl) rfl (.tmp rfl) (.tmp rfl) [] rfl ⟨rfl, rfl⟩))
 refine TC.skip <| TC.seq ?_
 refine TC.wk (Γ' := [(0, sval [.one (.int .i64 p1), .one (SV.v s1), .one (SV.v s2)]), (1, bp b_1 0), (5, bp b_1 1), (6, SV.v s1), (7, .int .i64 (p2.length : Int)), (8, .bool (decide ((p2.length : Int) > 0))), (4, .bool (decide ((p2.length : Int) > 0))), (14, bp b_1 2), (15, SV.v s2), (16, .int .i64 (p3.length : Int)), (17, .bool (decide ((p3.length : Int) > 0))), (13, .bool (decide ((p3.length : Int) > 0)))]) ⟨rfl, rfl, rfl, rfl, rfl, rfl, rfl, rfl, rfl, rfl, rfl, rfl, trivial⟩ ?_
 refine TC.draw [bp b_1 0, .int .i64 p1, .int .i64 2, .int .i64 p1] 4 [box b_1 44 [.one (.int .i64 p1), .one (SV.v s1), .one (SV.v s2)]] (by kernel_rfl) rfl rfl rfl rfl ?_ ?_
 ·refine ⟨?_, ?_, ?_, ?_, trivial⟩
  ·exact TL.fa Tryz.underlying44 rfl Tryz.sizeOf2 rfl 0 rfl rfl rfl rfl <| TL.done <| TC.n0 [0]
  ·exact TL.load1 0 (Src.box 0 rfl) Tryz.isAgg2 rfl rfl rfl rfl rfl <| TL.done <| TC.n0 [0]
  ·exact TL.as (.int .i64 2) <| TL.done <| TC.n0 [0]
  exact TL.as (.int .i64 p1) <| TL.done <| TC.n0 [0]
 exact TC.retF (Fin.body (fin2 (.inr rfl) rfl (.tmp rfl) (.tmp rfl) [] rfl ⟨rfl, rfl⟩))
def cmp_Or_int.b0 (vals1 : List Int) : Int → Option (LR Int Int) := fun x1 => (bif (decide (x1 < (vals1.length : Int))) then chk x1 vals1.length ((bif ((gt vals1 x1) != 0) then some (.ret ((gt vals1 x1))) else some (.next (w64 (x1 + 1))))) else some (.brk x1))
def cmp_Or_int.f (vals1 : List Int) : Option Int := (loop (cmp_Or_int.b0 vals1) 0).bind (ln (fun x1 => some 0))
def cmp_Or_int.R (r : Int) (v : Value) (L : List Asn) : Prop := v = .int .i64 r ∧ L = []
theorem cmp_Or_int.calls (w : World) (s1 : SV) (vals1 : List Int) (h1 : Reads Ei (hp w) s1 vals1) :
  ∀ r, cmp_Or_int.f vals1 = some r → Calls Tryz.prog 81 #[SV.v s1] w (Ret w (cmp_Or_int.R r)) := by
 refine calls_T (n := 18) (Γ := [(0, SV.v s1)]) (R := cmp_Or_int.R) Tryz.func81 rfl rfl (Nat.le_of_ble_eq_true rfl) ⟨rfl, trivial⟩ ?_
 unfold cmp_Or_int.f
 refine TC.seq <| TC.region <| TL.as (.int .i64 0) <| TL.done <| TC.seq <| TC.region ?_
 refine TL.as (.int .i64 0) <| TL.done <| TC.seq <| TC.seq <| TC.region <| TL.mv (SV.v s1) ?_
 refine TL.len (Rd.old h1) Tryz.underlying74 rfl rfl rfl <| TL.mv (.int .i64 0) <| TL.done ?_
 refine TC.loopK (σ := Int) (γ := Unit) (Γ' := (fun x1 _ => [(3, .int .i64 0), (6, SV.v s1), (7, .int .i64 (vals1.length : Int)), (8, .int .i64 x1)])) (L' := (fun x1 _ => [])) (Γb := (fun x1 _ => [(3, .int .i64 0), (6, SV.v s1), (7, .int .i64 (vals1.length : Int)), (8, .int .i64 x1)])) (Lb := (fun x1 _ => [])) (0) (()) ⟨rfl, rfl, rfl, rfl, trivial⟩ [] rfl ?_ ?_
 ·rintro x1 _
  refine TC.seq <| TC.region <| TL.bn .i64 x1 (vals1.length : Int) (.bool (decide (x1 < (vals1.length : Int)))) <| TL.done <| TC.seq ?_
  refine TC.cond (b := (decide (x1 < (vals1.length : Int)))) rfl (fun c1 => ?_) (fun c2 => ?_)
  ·refine TC.skip <| TC.seq <| TC.block (NoEx.loop rfl NoEx.body) <| TC.seq <| TC.region ?_
   refine TL.chk fun h2 => ?_
   refine TL.ixs x1 x1.toNat (Rd.old h1) h2 Tryz.underlying74 Tryz.sizeOf3 rfl rfl rfl rfl (by omega) ?_
   refine TL.loadE (Rd.old h1) Tryz.isAgg3 x1.toNat 0 (gt_spec h2) (v := .int .i64 (gt vals1 x1)) rfl (by simp only [show Ei.sz = 1 from rfl] <;> omega) rfl rfl rfl ?_
   refine TL.as (.int .i64 (gt vals1 x1)) <| TL.done <| TC.seq <| TC.region <| TL.mv (.int .i64 (gt vals1 x1)) <| TL.mv (.int .i64 0) ?_
   refine TL.bn .i64 (gt vals1 x1) 0 (.bool ((gt vals1 x1) != 0)) <| TL.done ?_
   refine TC.cond (b := ((gt vals1 x1) != 0)) rfl (fun c3 => ?_) (fun c4 => ?_)
   ·exact TC.seq <| TC.region <| TL.mv (.int .i64 (gt vals1 x1)) <| TL.as (.int .i64 (gt vals1 x1)) <| TL.done <| TC.retF (Fin.loop Far.ret (Fin.body (fin1 (.inr rfl) rfl (.tmp rfl) [] rfl ⟨rfl, rfl⟩)))
   refine TC.skip <| TC.region <| TL.bn .i64 x1 1 (.int .i64 (w64 (x1 + 1))) <| TL.mv (.int .i64 (w64 (x1 + 1))) <| TL.done ?_
   exact TC.next ((w64 (x1 + 1))) (()) ⟨rfl, rfl, rfl, rfl, trivial⟩ [] rfl
  exact TC.brk (x1) (()) ⟨rfl, rfl, rfl, rfl, trivial⟩ [] rfl
 rintro x1 _
 exact TC.seq <| TC.region <| TL.mv (.int .i64 0) <| TL.as (.int .i64 0) <| TL.done <| TC.retF (Fin.body (fin1 (.inr rfl) rfl (.tmp rfl) [] rfl ⟨rfl, rfl⟩))
def cmp_isNaN_int.f (x1 : Int) : Option Bool := some (x1 != x1)
def cmp_isNaN_int.R (r : Bool) (v : Value) (L : List Asn) : Prop := v = .bool r ∧ L = []
theorem cmp_isNaN_int.calls (w : World) (x1 : Int) :
  ∀ r, cmp_isNaN_int.f x1 = some r → Calls Tryz.prog 108 #[.int .i64 x1] w (Ret w (cmp_isNaN_int.R r)) := by
 refine calls_T (n := 6) (Γ := [(0, .int .i64 x1)]) (R := cmp_isNaN_int.R) Tryz.func108 rfl rfl (Nat.le_of_ble_eq_true rfl) ⟨rfl, trivial⟩ ?_
 unfold cmp_isNaN_int.f
 refine TC.seq <| TC.region <| TL.as (.bool false) <| TL.done <| TC.seq <| TC.region ?_
 exact TL.mv (.int .i64 x1) <| TL.mv (.int .i64 x1) <| TL.bn .i64 x1 x1 (.bool (x1 != x1)) <| TL.as (.bool (x1 != x1)) <| TL.done <| TC.retF (Fin.body (fin1 (.inr rfl) rfl (.tmp rfl) [] rfl ⟨rfl, rfl⟩))
def cmp_Compare_int.f (x1 : Int) (y1 : Int) : Option Int := (G.cmp_isNaN_int.f x1).bind (fun r_1 => (G.cmp_isNaN_int.f y1).bind (fun r_2 => (bif r_1 then (bif r_2 then some 0 else some (-1)) else (bif r_2 then some 1 else (bif (decide (x1 < y1)) then some (-1) else (bif (decide (x1 > y1)) then some 1 else some 0))))))
def cmp_Compare_int.R (r : Int) (v : Value) (L : List Asn) : Prop := v = .int .i64 r ∧ L = []
theorem cmp_Compare_int.calls (w : World) (x1 : Int) (y1 : Int) :
  ∀ r, cmp_Compare_int.f x1 y1 = some r → Calls Tryz.prog 82 #[.int .i64 x1, .int .i64 y1] w (Ret w (cmp_Compare_int.R r)) := by
 refine calls_T (n := 20) (Γ := [(0, .int .i64 x1), (1, .int .i64 y1)]) (R := cmp_Compare_int.R) Tryz.func82 rfl rfl (Nat.le_of_ble_eq_true rfl) ⟨rfl, rfl, trivial⟩ ?_
 unfold cmp_Compare_int.f
 refine TC.seq <| TC.region <| TL.as (.int .i64 0) <| TL.done <| TC.seq <| TC.region ?_
 refine TL.mv (.int .i64 x1) ?_
 refine TL.call (R := G.cmp_isNaN_int.R) Tryz.call108 rfl rfl rfl (fun w hS => G.cmp_isNaN_int.calls w x1) ?_
 rintro r_1 _ _ ⟨rfl, rfl⟩
 refine TL.as (.bool r_1) <| TL.done <| TC.seq <| TC.region <| TL.mv (.int .i64 y1) ?_
 refine TL.call (R := G.cmp_isNaN_int.R) Tryz.call108 rfl rfl rfl (fun w hS => G.cmp_isNaN_int.calls w y1) ?_
 rintro r_2 _ _ ⟨rfl, rfl⟩
 refine TL.as (.bool r_2) <| TL.done <| TC.seq <| TC.seq <| TC.region <| TL.mv (.bool r_1) ?_
 refine TL.done ?_
 refine TC.cond (b := r_1) rfl (fun c1 => ?_) (fun c2 => ?_)
 ·refine TC.seq <| TC.seq <| TC.region <| TL.mv (.bool r_2) <| TL.done ?_
  refine TC.cond (b := r_2) rfl (fun c3 => ?_) (fun c4 => ?_)
  ·exact TC.seq <| TC.region <| TL.as (.int .i64 0) <| TL.done <| TC.retF (Fin.body (fin1 (.inr rfl) rfl (.tmp rfl) [] rfl ⟨rfl, rfl⟩))
  exact TC.skip <| TC.seq <| TC.region <| TL.as (.int .i64 (-1)) <| TL.done <| TC.retF (Fin.body (fin1 (.inr rfl) rfl (.tmp rfl) [] rfl ⟨rfl, rfl⟩))
 refine TC.skip <| TC.seq <| TC.seq <| TC.region <| TL.mv (.bool r_2) <| TL.done ?_
 refine TC.cond (b := r_2) rfl (fun c5 => ?_) (fun c6 => ?_)
 ·exact TC.seq <| TC.region <| TL.as (.int .i64 1) <| TL.done <| TC.retF (Fin.body (fin1 (.inr rfl) rfl (.tmp rfl) [] rfl ⟨rfl, rfl⟩))
 refine TC.skip <| TC.seq <| TC.seq <| TC.region <| TL.mv (.int .i64 x1) <| TL.mv (.int .i64 y1) ?_
 refine TL.bn .i64 x1 y1 (.bool (decide (x1 < y1))) <| TL.done ?_
 refine TC.cond (b := (decide (x1 < y1))) rfl (fun c7 => ?_) (fun c8 => ?_)
 ·exact TC.seq <| TC.region <| TL.as (.int .i64 (-1)) <| TL.done <| TC.retF (Fin.body (fin1 (.inr rfl) rfl (.tmp rfl) [] rfl ⟨rfl, rfl⟩))
 refine TC.skip <| TC.seq <| TC.seq <| TC.region <| TL.mv (.int .i64 x1) <| TL.mv (.int .i64 y1) ?_
 refine TL.bn .i64 x1 y1 (.bool (decide (x1 > y1))) <| TL.done ?_
 refine TC.cond (b := (decide (x1 > y1))) rfl (fun c9 => ?_) (fun c10 => ?_)
 ·exact TC.seq <| TC.region <| TL.as (.int .i64 1) <| TL.done <| TC.retF (Fin.body (fin1 (.inr rfl) rfl (.tmp rfl) [] rfl ⟨rfl, rfl⟩))
 exact TC.skip <| TC.seq <| TC.region <| TL.as (.int .i64 0) <| TL.done <| TC.retF (Fin.body (fin1 (.inr rfl) rfl (.tmp rfl) [] rfl ⟨rfl, rfl⟩))
def cmp_isNaN_int64.f (x1 : Int) : Option Bool := some (x1 != x1)
def cmp_isNaN_int64.R (r : Bool) (v : Value) (L : List Asn) : Prop := v = .bool r ∧ L = []
theorem cmp_isNaN_int64.calls (w : World) (x1 : Int) :
  ∀ r, cmp_isNaN_int64.f x1 = some r → Calls Tryz.prog 109 #[.int .i64 x1] w (Ret w (cmp_isNaN_int64.R r)) := by
 refine calls_T (n := 6) (Γ := [(0, .int .i64 x1)]) (R := cmp_isNaN_int64.R) Tryz.func109 rfl rfl (Nat.le_of_ble_eq_true rfl) ⟨rfl, trivial⟩ ?_
 unfold cmp_isNaN_int64.f
 refine TC.seq <| TC.region <| TL.as (.bool false) <| TL.done <| TC.seq <| TC.region ?_
 exact TL.mv (.int .i64 x1) <| TL.mv (.int .i64 x1) <| TL.bn .i64 x1 x1 (.bool (x1 != x1)) <| TL.as (.bool (x1 != x1)) <| TL.done <| TC.retF (Fin.body (fin1 (.inr rfl) rfl (.tmp rfl) [] rfl ⟨rfl, rfl⟩))
def cmp_Compare_int64.f (x1 : Int) (y1 : Int) : Option Int := (G.cmp_isNaN_int64.f x1).bind (fun r_1 => (G.cmp_isNaN_int64.f y1).bind (fun r_2 => (bif r_1 then (bif r_2 then some 0 else some (-1)) else (bif r_2 then some 1 else (bif (decide (x1 < y1)) then some (-1) else (bif (decide (x1 > y1)) then some 1 else some 0))))))
def cmp_Compare_int64.R (r : Int) (v : Value) (L : List Asn) : Prop := v = .int .i64 r ∧ L = []
theorem cmp_Compare_int64.calls (w : World) (x1 : Int) (y1 : Int) :
  ∀ r, cmp_Compare_int64.f x1 y1 = some r → Calls Tryz.prog 83 #[.int .i64 x1, .int .i64 y1] w (Ret w (cmp_Compare_int64.R r)) := by
 refine calls_T (n := 20) (Γ := [(0, .int .i64 x1), (1, .int .i64 y1)]) (R := cmp_Compare_int64.R) Tryz.func83 rfl rfl (Nat.le_of_ble_eq_true rfl) ⟨rfl, rfl, trivial⟩ ?_
 unfold cmp_Compare_int64.f
 refine TC.seq <| TC.region <| TL.as (.int .i64 0) <| TL.done <| TC.seq <| TC.region ?_
 refine TL.mv (.int .i64 x1) ?_
 refine TL.call (R := G.cmp_isNaN_int64.R) Tryz.call109 rfl rfl rfl (fun w hS => G.cmp_isNaN_int64.calls w x1) ?_
 rintro r_1 _ _ ⟨rfl, rfl⟩
 refine TL.as (.bool r_1) <| TL.done <| TC.seq <| TC.region <| TL.mv (.int .i64 y1) ?_
 refine TL.call (R := G.cmp_isNaN_int64.R) Tryz.call109 rfl rfl rfl (fun w hS => G.cmp_isNaN_int64.calls w y1) ?_
 rintro r_2 _ _ ⟨rfl, rfl⟩
 refine TL.as (.bool r_2) <| TL.done <| TC.seq <| TC.seq <| TC.region <| TL.mv (.bool r_1) ?_
 refine TL.done ?_
 refine TC.cond (b := r_1) rfl (fun c1 => ?_) (fun c2 => ?_)
 ·refine TC.seq <| TC.seq <| TC.region <| TL.mv (.bool r_2) <| TL.done ?_
  refine TC.cond (b := r_2) rfl (fun c3 => ?_) (fun c4 => ?_)
  ·exact TC.seq <| TC.region <| TL.as (.int .i64 0) <| TL.done <| TC.retF (Fin.body (fin1 (.inr rfl) rfl (.tmp rfl) [] rfl ⟨rfl, rfl⟩))
  exact TC.skip <| TC.seq <| TC.region <| TL.as (.int .i64 (-1)) <| TL.done <| TC.retF (Fin.body (fin1 (.inr rfl) rfl (.tmp rfl) [] rfl ⟨rfl, rfl⟩))
 refine TC.skip <| TC.seq <| TC.seq <| TC.region <| TL.mv (.bool r_2) <| TL.done ?_
 refine TC.cond (b := r_2) rfl (fun c5 => ?_) (fun c6 => ?_)
 ·exact TC.seq <| TC.region <| TL.as (.int .i64 1) <| TL.done <| TC.retF (Fin.body (fin1 (.inr rfl) rfl (.tmp rfl) [] rfl ⟨rfl, rfl⟩))
 refine TC.skip <| TC.seq <| TC.seq <| TC.region <| TL.mv (.int .i64 x1) <| TL.mv (.int .i64 y1) ?_
 refine TL.bn .i64 x1 y1 (.bool (decide (x1 < y1))) <| TL.done ?_
 refine TC.cond (b := (decide (x1 < y1))) rfl (fun c7 => ?_) (fun c8 => ?_)
 ·exact TC.seq <| TC.region <| TL.as (.int .i64 (-1)) <| TL.done <| TC.retF (Fin.body (fin1 (.inr rfl) rfl (.tmp rfl) [] rfl ⟨rfl, rfl⟩))
 refine TC.skip <| TC.seq <| TC.seq <| TC.region <| TL.mv (.int .i64 x1) <| TL.mv (.int .i64 y1) ?_
 refine TL.bn .i64 x1 y1 (.bool (decide (x1 > y1))) <| TL.done ?_
 refine TC.cond (b := (decide (x1 > y1))) rfl (fun c9 => ?_) (fun c10 => ?_)
 ·exact TC.seq <| TC.region <| TL.as (.int .i64 1) <| TL.done <| TC.retF (Fin.body (fin1 (.inr rfl) rfl (.tmp rfl) [] rfl ⟨rfl, rfl⟩))
 exact TC.skip <| TC.seq <| TC.region <| TL.as (.int .i64 0) <| TL.done <| TC.retF (Fin.body (fin1 (.inr rfl) rfl (.tmp rfl) [] rfl ⟨rfl, rfl⟩))
def impl_partOrder.f (a_1 : Int) (a_2 : List Int) (a_3 : List Int) (b_1 : Int) (b_2 : List Int) (b_3 : List Int) : Option Int := (G.impl_Part_rank.f a_1 a_2 a_3).bind (fun p => match p with | (r_1, r_2) => (G.impl_Part_rank.f b_1 b_2 b_3).bind (fun p => match p with | (r_3, r_4) => (G.cmp_Compare_int.f r_1 r_3).bind (fun r_5 => (G.cmp_Compare_int64.f r_2 r_4).bind (fun r_6 => (G.cmp_Or_int.f ([r_5, r_6] : List Int)).bind (fun r_7 => some r_7)))))
def impl_partOrder.R (r : Int) (v : Value) (L : List Asn) : Prop := v = .int .i64 r ∧ L = []
theorem impl_partOrder.calls (w : World) (a_1 : Int) (s1 : SV) (a_2 : List Int) (s2 : SV) (a_3 : List Int) (b_1 : Int) (s3 : SV) (b_2 : List Int) (s4 : SV) (b_3 : List Int) (h1 : Reads Ei (hp w) s1 a_2) (h2 : Reads Ei (hp w) s2 a_3) (h3 : Reads Ei (hp w) s3 b_2) (h4 : Reads Ei (hp w) s4 b_3) :
  ∀ r, impl_partOrder.f a_1 a_2 a_3 b_1 b_2 b_3 = some r → Calls Tryz.prog 60 #[sval [.one (.int .i64 a_1), .one (SV.v s1), .one (SV.v s2)], sval [.one (.int .i64 b_1), .one (SV.v s3), .one (SV.v s4)]] w (Ret w (impl_partOrder.R r)) := by
 refine calls_T (n := 27) (Γ := [(0, sval [.one (.int .i64 a_1), .one (SV.v s1), .one (SV.v s2)]), (1, sval [.one (.int .i64 b_1), .one (SV.v s3), .one (SV.v s4)])]) (R := impl_partOrder.R) Tryz.func60 rfl rfl (Nat.le_of_ble_eq_true rfl) ⟨rfl, rfl, trivial⟩ ?_
 unfold impl_partOrder.f
 refine TC.seq <| TC.region ?_
 refine TL.box [.one (.int .i64 a_1), .one (SV.v s1), .one (SV.v s2)] rfl rfl rfl rfl fun b_4 => ?_
 refine TL.box [.one (.int .i64 b_1), .one (SV.v s3), .one (SV.v s4)] rfl rfl rfl rfl fun b_5 => ?_
 refine TL.as (.int .i64 0) <| TL.done <| TC.seq <| TC.region <| TL.loadM 0 3 (Src.box 1 rfl) Tryz.isAgg44 Tryz.sizeOf44 (mid := [.one (.int .i64 a_1), .one (SV.v s1), .one (SV.v s2)]) rfl rfl rfl rfl rfl rfl ?_
 refine TL.call (R := G.impl_Part_rank.R) Tryz.call80 rfl rfl rfl (fun w hS => G.impl_Part_rank.calls w a_1 s1 a_2 s2 a_3 ((Rd.old h1) w hS) ((Rd.old h2) w hS)) ?_
 rintro ⟨r_1, r_2⟩ _ _ ⟨rfl, rfl⟩
 refine TL.mv (.tuple #[.int .i64 r_1, .int .i64 r_2]) <| TL.extract rfl rfl rfl (v := .int .i64 r_1) rfl <| TL.extract rfl rfl rfl (v := .int .i64 r_2) rfl <| TL.as (.int .i64 r_1) <| TL.as (.int .i64 r_2) <| TL.done ?_
 refine TC.seq <| TC.region <| TL.loadM 0 3 (Src.box 0 rfl) Tryz.isAgg44 Tryz.sizeOf44 (mid := [.one (.int .i64 b_1), .one (SV.v s3), .one (SV.v s4)]) rfl rfl rfl rfl rfl rfl ?_
 refine TL.call (R := G.impl_Part_rank.R) Tryz.call80 rfl rfl rfl (fun w hS => G.impl_Part_rank.calls w b_1 s3 b_2 s4 b_3 ((Rd.old h3) w hS) ((Rd.old h4) w hS)) ?_
 rintro ⟨r_3, r_4⟩ _ _ ⟨rfl, rfl⟩
 refine TL.mv (.tuple #[.int .i64 r_3, .int .i64 r_4]) <| TL.extract rfl rfl rfl (v := .int .i64 r_3) rfl <| TL.extract rfl rfl rfl (v := .int .i64 r_4) rfl <| TL.as (.int .i64 r_3) <| TL.as (.int .i64 r_4) <| TL.done ?_
 refine TC.seq <| TC.region <| TL.mv (.int .i64 r_1) <| TL.mv (.int .i64 r_3) ?_
 refine TL.call (R := G.cmp_Compare_int.R) Tryz.call82 rfl rfl rfl (fun w hS => G.cmp_Compare_int.calls w r_1 r_3) ?_
 rintro r_5 _ _ ⟨rfl, rfl⟩
 refine TL.mv (.int .i64 r_2) <| TL.mv (.int .i64 r_4) ?_
 refine TL.call (R := G.cmp_Compare_int64.R) Tryz.call83 rfl rfl rfl (fun w hS => G.cmp_Compare_int64.calls w r_2 r_4) ?_
 rintro r_6 _ _ ⟨rfl, rfl⟩
 refine TL.blit Ei ([r_5, r_6] : List Int) Tryz.underlying74 Tryz.sizeOf3 Tryz.zeroValue3 rfl rfl rfl [(0, .int .i64 r_5), (1, .int .i64 r_6)] rfl ⟨rfl, rfl, rfl, rfl, trivial⟩ rfl rfl fun s5 => ?_
 refine TL.call (R := G.cmp_Or_int.R) Tryz.call81 rfl rfl rfl (fun w hS => G.cmp_Or_int.calls w s5 ([r_5, r_6] : List Int) ((Rd.row 0 rfl) w hS)) ?_
 rintro r_7 _ _ ⟨rfl, rfl⟩
 exact TL.as (.int .i64 r_7) <| TL.done <| TC.retF (Fin.body (fin1 (.inr rfl) rfl (.tmp rfl) [] rfl ⟨rfl, rfl⟩))
def kfind : List Int → Int → Option Nat
  | [], _ => none
  | a :: r, k => if a = k then some 0 else (kfind r k).map (· + 1)
def kIP (keys : List Int) (bs : List Nat) : List (Value × Value) := (keys.zip bs).map fun p => (.int .i64 p.1, bp p.2 0)
theorem look_keys : ∀ {keys : List Int} {bs : List Nat} (k : Int), keys.length = bs.length → Sx.look ((keys.zip bs).map fun p => (p.1, bp p.2 0)) k = (kfind keys k).bind fun j => (bs[j]?).map fun b => (j, bp b 0)
 | [], _, _, _ => rfl
 | a :: r, [], _, h => by simp at h
 | a :: r, b :: bs, k, h => by
  simp only [List.zip_cons_cons, List.map_cons, Sx.look, kfind]
  by_cases he : a = k
  ·simp [he]
  rw [if_neg he, if_neg he, look_keys k (by simpa using h)]
  cases kfind r k with
  | none => rfl
  | some j =>
   simp only [Option.bind_some, Option.map_some, List.getElem?_cons_succ]
   cases bs[j]? <;> rfl
theorem kfind_lt : ∀ {keys : List Int} {k : Int} {j : Nat}, kfind keys k = some j → j < keys.length
 | [], _, _, h => by cases h
 | a :: r, k, j, h => by
  unfold kfind at h
  split at h
  ·injection h with h; subst h; simp
  cases hr : kfind r k with
  | none => rw [hr] at h; cases h
  | some q =>
   rw [hr] at h
   injection h with h
   subst h
   have := kfind_lt hr
   simp; omega
theorem kfind_new : ∀ {keys : List Int} {k : Int}, kfind keys k = none → kfind (keys ++ [k]) k = some keys.length
 | [], k, _ => by simp [kfind]
 | a :: r, k, h => by
  unfold kfind at h
  split at h
  ·cases h
  rename_i he
  cases hr : kfind r k with
  | none =>
   simp only [List.cons_append, kfind, if_neg he, kfind_new hr, Option.map_some, List.length_cons]
  | some q => rw [hr] at h; cases h
section
variable {P : Program} {w0 : World} {n : Nat} {I : Hp} {Γ : Gm} {L : List Asn} {cs : List Code} {β : Type} {m : Option β} {D : β → Post} {ops : Array Oper} {os : List Oper}
variable {d : Nat} {ty : TypeId} {pos : String} {af : Array Edge} {g : Option (Nat × Bool)}
theorem TL.ptrNil {T T2 e : TypeId} {x y : Operand} (p : Option Addr) (hT : P.underlying T = some (.pointer e)) (hg : gd ops Γ ⟨some d, .binOp .eql T x y T2, ty, pos, af, g⟩ = some true) (hn : Nat.blt d n = true)
  (hx : ev Γ x = some (.pointer p)) (hy : ev Γ y = some (.pointer none))
  (kk : TL P w0 n I ((d, .bool p.isNone) :: Γ) L ops os cs m D) : TL P w0 n I Γ L ops (⟨some d, .binOp .eql T x y T2, ty, pos, af, g⟩ :: os) cs m D := by
 refine .val hg rfl (by simpa using hn) (fun a' w hF _ => run_v ?_) kk
 rw [hF.eval hx, hF.eval hy]
 have he : (Op.equal T (.pointer p) (.pointer none)).run P w = .ok p.isNone w := by
  unfold Op.equal Op.maxDepth
  rw [Op.equalIn]
  simp only [Sem.run_bind, run_underlying hT, Result.andThen_ok]
  cases p <;> rfl
 simp [eqGuard, binOp, he]
theorem TL.mkI {T eT kT : TypeId} {q : IntKind} {x ix : Operand} {b : Nat} {keys : List Int} {bs : List Nat} {key : Int} {v : Value} (i : Nat) (hi : L[i]? = some (mp b (kIP keys bs))) (hl : keys.length = bs.length) (hT : P.underlying T = some (.map kT eT)) (hq : P.underlying kT = some (.int q)) (hz : ∀ w, (zeroValue eT).run P w = .ok (.pointer none) w)
  (hv : ((kfind keys key).bind fun j => (bs[j]?).map fun b => bp b 0).getD (.pointer none) = v)
  (hg : gd ops Γ ⟨some d, .lookup T x ix false, ty, pos, af, g⟩ = some true) (hn : Nat.blt d n = true) (hx : ev Γ x = some (.map (some b))) (hk : ev Γ ix = some (.int .i64 key))
  (k : TL P w0 n I ((d, v) :: Γ) L ops os cs m D) : TL P w0 n I Γ L ops (⟨some d, .lookup T x ix false, ty, pos, af, g⟩ :: os) cs m D := by
 have hf : ∀ w, (Instr.findKey kT (.int .i64 key) (entsL (kIP keys bs) 0)).run P w = .ok ((kfind keys key).bind fun j => (bs[j]?).map fun b => (j, bp b 0)) w := by
  intro w
  have h := run_find_int hq ((keys.zip bs).map fun p => (p.1, bp p.2 0)) key w
  rw [List.map_map, look_keys key hl] at h
  exact h
 refine TL.mget i hi hT (fun e w => run_check_int hq key e w) (fun w _ => hf w) hz ?_ hg hn hx hk k
 rw [← hv]
 cases kfind keys key with
 | none => rfl
 | some j =>
  simp only [Option.bind_some]
  cases bs[j]? <;> rfl
end
def impl_part.f (pool1 keys1 : List Int) (i1 : Int) : Option (Nat × Option Int) := (G.impl_pool_find.f pool1 i1).bind fun k => match kfind keys1 k with
  | some j => some (j, none)
  | none => some (keys1.length, some k)
def onK (keys1 : List Int) : Option Int → List Int
  | none => keys1
  | some k => keys1 ++ [k]
def onC (c1 : List PC) : Option Int → List PC
  | none => c1
  | some _ => c1 ++ [(0, [], [])]
def onB (bs : List Nat) (b : Nat) : Option Int → List Nat
  | none => bs
  | some _ => bs ++ [b]
def onS (ss : List PV) : Option Int → List PV
  | none => ss
  | some _ => ss ++ [(0, ⟨none, 0, 0⟩, ⟨none, 0, 0⟩)]
def partL (b1 tb b2 fm : Nat) (sp : SV) (u v : Value) (pool1 : List Int) (keys1 : List Int) (bs : List Nat) (ss : List PV) (c1 : List PC) : List Asn :=
  [box b1 72 [.one (bp tb 0)], box tb 77 [.one sp.v, .one u, .one v], row Ei 3 sp pool1, box b2 80 [.one (.map (some fm))], mp fm (kIP keys1 bs), pbxs 2 44 bs ss c1]
def impl_part.R (b1 tb b2 fm : Nat) (sp : SV) (u v : Value) (pool1 keys1 : List Int) (bs : List Nat) (ss : List PV) (c1 : List PC) (r : Nat × Option Int) (val : Value) (L : List Asn) : Prop :=
  ∃ (b : Nat), (onB bs b r.2)[r.1]? = some b ∧ val = bp b 0 ∧ L = partL b1 tb b2 fm sp u v pool1 (onK keys1 r.2) (onB bs b r.2) (onS ss r.2) (onC c1 r.2)
theorem impl_part.calls (w0 : World) (I : Hp) (w : World) (b1 tb b2 fm : Nat) (sp : SV) (u v : Value) (pool1 keys1 : List Int) (bs : List Nat) (ss : List PV) (c1 : List PC) (i1 : Int) (hk : keys1.length = bs.length)
  (hS : St w0 I (partL b1 tb b2 fm sp u v pool1 keys1 bs ss c1) w) :
  ∀ r, impl_part.f pool1 keys1 i1 = some r → Calls Tryz.prog 57 #[.int .i64 i1, bp b1 0, bp b2 0] w (RetM w0 I (impl_part.R b1 tb b2 fm sp u v pool1 keys1 bs ss c1 r)) := by
 refine calls_TM (w0 := w0) (I := I) (L := partL b1 tb b2 fm sp u v pool1 keys1 bs ss c1) (n := 23) (Γ := [(0, .int .i64 i1), (1, bp b1 0), (2, bp b2 0)]) (R := impl_part.R b1 tb b2 fm sp u v pool1 keys1 bs ss c1) Tryz.func57 rfl rfl (Nat.le_of_ble_eq_true rfl) ⟨rfl, rfl, rfl, trivial⟩ ?_ w hS
 unfold impl_part.f partL
 refine TC.seq <| TC.region <| TL.as (.pointer none) <| TL.done <| TC.seq <| TC.region ?_
 refine TL.load1 0 (Src.box 0 rfl) Tryz.isAgg72 rfl rfl rfl rfl rfl ?_
 refine TL.nilCheck rfl rfl rfl ?_
 refine TL.fa Tryz.underlying77 rfl Tryz.sizeOf75 rfl 0 rfl rfl rfl rfl <| TL.load1 0 (Src.box 1 rfl) Tryz.isAgg75 rfl rfl rfl rfl rfl <| TL.mv (.int .i64 i1) ?_
 refine TL.call (R := G.impl_pool_find.R) Tryz.call58 rfl rfl rfl (fun w hS => G.impl_pool_find.calls w sp pool1 i1 ((Rd.row 2 rfl) w hS)) ?_
 rintro k _ _ ⟨rfl, rfl⟩
 refine TL.as (.int .i64 k) <| TL.done <| TC.seq <| TC.seq <| TC.region <| TL.load1 0 (Src.box 3 rfl) Tryz.isAgg80 rfl rfl rfl rfl rfl ?_
 refine TL.mv (.int .i64 k) ?_
 cases hkf : kfind keys1 k with
 | some j =>
  have hj := kfind_lt hkf
  have hb : bs[j]? = some bs[j] := List.getElem?_eq_getElem (by omega)
  refine TL.mkI (v := bp bs[j] 0) 4 rfl hk Tryz.underlying80 Tryz.underlying3 Tryz.zeroValue81 (by rw [hkf, Option.bind_some, hb]; rfl) rfl rfl rfl rfl ?_
  refine TL.ptrNil (some ⟨bs[j], 0, none⟩) Tryz.underlying81 rfl rfl rfl rfl ?_
  refine TL.done ?_
  refine TC.cond_false rfl ?_
  refine TC.skip <| TC.seq <| TC.region <| TL.load1 0 (Src.box 3 rfl) Tryz.isAgg80 rfl rfl rfl rfl rfl <| TL.mv (.int .i64 k) ?_
  refine TL.mkI (v := bp bs[j] 0) 4 rfl hk Tryz.underlying80 Tryz.underlying3 Tryz.zeroValue81 (by rw [hkf, Option.bind_some, hb]; rfl) rfl rfl rfl rfl ?_
  exact TL.as (bp bs[j] 0) <| TL.done <| TC.retF (Fin.body (fin1 (.inr rfl) rfl (.tmp rfl) [0, 0, 0, 0, 0, 0] rfl ⟨bs[j], hb, rfl, rfl⟩))
 | none =>
  refine TL.mkI (v := .pointer none) 4 rfl hk Tryz.underlying80 Tryz.underlying3 Tryz.zeroValue81 (by rw [hkf]; rfl) rfl rfl rfl rfl ?_
  refine TL.ptrNil none Tryz.underlying81 rfl rfl rfl rfl ?_
  refine TL.done ?_
  refine TC.cond_true rfl ?_
  refine TC.region ?_
  refine TL.nilrow Ei 2 ?_
  refine TL.nilrow Ei 2 ?_
  refine TL.load1 0 (Src.box 5 rfl) Tryz.isAgg80 rfl rfl rfl rfl rfl <| TL.mv (.int .i64 k) ?_
  refine TL.buildS (segs0 := [.one (.int .i64 0), .one (SV.v ⟨none, 0, 0⟩), .one (SV.v ⟨none, 0, 0⟩)]) (segs := [.one (.int .i64 0), .one (SV.v ⟨none, 0, 0⟩), .one (SV.v ⟨none, 0, 0⟩)]) [1, 1, 1] Tryz.underlying44 ⟨Tryz.sizeOf2, Tryz.sizeOf36, Tryz.sizeOf36, trivial⟩ Tryz.zeroValue44 rfl [] rfl (fun pl hpl => by subst hpl; exact rfl) rfl rfl ?_
  refine TL.box [.one (.int .i64 0), .one (SV.v ⟨none, 0, 0⟩), .one (SV.v ⟨none, 0, 0⟩)] rfl rfl rfl rfl fun b => ?_
  refine TL.mputNew (key := .int .i64 k) (v := bp b 0) 7 rfl Tryz.underlying80 (fun e w => run_check_int Tryz.underlying3 k e w) (fun w _ => ?_) rfl rfl rfl rfl ?_
  ·have h := run_find_int Tryz.underlying3 ((keys1.zip bs).map fun p => (p.1, bp p.2 0)) k w
   rw [List.map_map, look_keys k hk, hkf] at h
   exact h
  have ek : kIP keys1 bs ++ [(.int .i64 k, bp b 0)] = kIP (keys1 ++ [k]) (bs ++ [b]) := by
   unfold kIP
   rw [List.zip_append hk, List.map_append]; rfl
  rw [ek]
  refine TL.pbPush (bs := bs) (ss := ss) (c := c1) 5 rfl ?_
  refine TL.done <| TC.seq <| TC.region <| TL.load1 0 (Src.box 3 rfl) Tryz.isAgg80 rfl rfl rfl rfl rfl <| TL.mv (.int .i64 k) ?_
  have hb : (bs ++ [b])[keys1.length]? = some b := by rw [hk]; simp
  refine TL.mkI (keys := keys1 ++ [k]) (bs := bs ++ [b]) (v := bp b 0) 4 rfl (by simp [hk]) Tryz.underlying80 Tryz.underlying3 Tryz.zeroValue81 (by rw [kfind_new hkf, Option.bind_some, hb]; rfl) rfl rfl rfl rfl ?_
  exact TL.as (bp b 0) <| TL.done <| TC.retF (Fin.body (fin1 (.inr rfl) rfl (.tmp rfl) [0, 0, 0, 0, 0, 0] rfl ⟨b, hb, rfl, rfl⟩))
end Go.Proofs.YtpejnjpckacciaaGreatDoor.G
namespace Go.Sx
section
variable {P : Program} {w0 : World} {n : Nat} {I : Hp} {Γ : Gm} {L : List Asn} {cs : List Code} {α : Type} {m : Option α} {D : α → Post} {ops : Array Oper} {os : List Oper}
variable {d : Nat} {ty : TypeId} {pos : String} {af : Array Edge} {g : Option (Nat × Bool)}
theorem TL.callvX {β : Type} {f : FuncId} {fst cap : List Value} {t : Nat} {args : Array Operand} {ts : Array TypeId} {vs : List Value} {mf : Option β} {r1 : β} (hr1 : mf = some r1) {R : β → Value → List Asn → Prop} (perm : List Nat) (LA LB : List Asn) (hp : ext perm L = some (LA ++ LB))
  (hcall : ∀ (args : Array Value) (w : World), (callFunc f args).run P w = .ok (.enter f args) w) (hf : lk Γ t = some (.func (.func f) fst.toArray cap.toArray))
  (hg : gd ops Γ ⟨some d, .call { callee := .value (.tmp t), args := args, argTypes := ts }, ty, pos, af, g⟩ = some true) (hn : Nat.blt d n = true) (hx : evs Γ args.toList = some vs)
  (hc : ∀ w I', Hle I I' → Held LB I' → St w0 I' LA w → ∀ r, mf = some r → Calls P f (fst ++ vs ++ cap).toArray w (RetM w0 I' (R r)))
  (k : ∀ v L', R r1 v L' → TL P w0 n I ((d, v) :: Γ) (L' ++ LB) ops os cs m D) :
  TL P w0 n I Γ L ops (⟨some d, .call { callee := .value (.tmp t), args := args, argTypes := ts }, ty, pos, af, g⟩ :: os) cs m D := by
 intro a w hF hS r hr
 refine TL.core (m := some r) (D := D) hg (fun a w hF hS r' hr' => ?_) a w hF hS r rfl
 obtain rfl := Option.some.inj hr'
 unfold Oper.wp
 rw [run_callv hcall hF hf hx, Oper.upon_enter]
 obtain ⟨I', h1, h2, h3, h4⟩ := (hS.ext perm hp).split
 refine (hc w I' h1 h2 h3 r1 hr1).mono ?_
 rintro e w' ⟨v, L', rfl, hR, hS'⟩
 exact k v L' hR _ _ (hF.put (by simpa using hn)) (h4 L' w' hS') _ hr
end
end Go.Sx
namespace Go.Proofs.YtpejnjpckacciaaGreatDoor.G
open Go Go.Sx Go.Proofs
theorem gt_nat {α : Type} [Inhabited α] {l : List α} {j : Nat} {y : α} (h : l[j]? = some y) : gt l (j : Int) = y := by
 have e : ((j : Int)).toNat = j := by omega
 simp [gt, h]
def kPI (bs : List Nat) (sums : List Int) : List (Value × Value) := (bs.zip sums).map fun p => (bp p.1 0, .int .i64 p.2)
def found (fm sm : Nat) (keys sums : List Int) (bs : List Nat) (ss : List PV) (c : List PC) : Asn := fun ρ => (keys.length = bs.length ∧ sums.length ≤ bs.length) ∧
  ∃ ρ1 ρ2 ρ3, ρ = ρ1 ++ (ρ2 ++ ρ3) ∧ mp fm (kIP keys bs) ρ1 ∧ mp sm (kPI bs sums) ρ2 ∧ pbxs 2 44 bs ss c ρ3
def sget (sums : List Int) (j : Nat) : Int := if j < sums.length then gt sums j else 0
def sput (sums : List Int) (j : Nat) (v : Int) : List Int := if j < sums.length then sums.set j v else sums ++ [v]
theorem look_nodup : ∀ {bs : List Nat} {sums : List Int} {j b : Nat}, bs.Nodup → bs[j]? = some b → Sx.look ((bs.zip sums).map fun p => (p.1, Value.int .i64 p.2)) b = if j < sums.length then some (j, .int .i64 (gt sums j)) else none
 | [], _, _, _, _, h => by simp at h
 | a :: bs, [], j, b, _, _ => by simp [Sx.look]
 | a :: bs, x :: sums, 0, b, _, h => by
  simp at h; subst h
  simp [Sx.look, gt]
 | a :: bs, x :: sums, j + 1, b, hn, h => by
  have hb : bs[j]? = some b := by simpa using h
  have hne : a ≠ b := by
   rintro rfl
   exact (List.nodup_cons.1 hn).1 (List.mem_of_getElem? hb)
  simp only [List.zip_cons_cons, List.map_cons, Sx.look, if_neg hne, look_nodup (List.nodup_cons.1 hn).2 hb]
  by_cases hj : j < sums.length
  ·rw [if_pos hj, if_pos (by simp; omega)]
   have e : ((j + 1 : Nat) : Int).toNat = j + 1 := by omega
   simp [gt]
  rw [if_neg hj, if_neg (by simp; omega)]; rfl
theorem kPI_set : ∀ {bs : List Nat} {sums : List Int} {j b : Nat} {v : Int}, bs[j]? = some b → j < sums.length → (kPI bs sums).set j (bp b 0, .int .i64 v) = kPI bs (sums.set j v)
 | [], _, _, _, _, h, _ => by simp at h
 | a :: bs, [], j, b, _, _, hj => by simp at hj
 | a :: bs, x :: sums, 0, b, v, h, _ => by
  simp at h; subst h
  simp [kPI]
 | a :: bs, x :: sums, j + 1, b, v, h, hj => by
  have ih := kPI_set (v := v) (show bs[j]? = some b by simpa using h) (show j < sums.length by simpa using hj)
  unfold kPI at ih ⊢
  simp only [List.zip_cons_cons, List.map_cons, List.set_cons_succ, ih]
theorem kPI_push : ∀ {bs : List Nat} {sums : List Int} {b : Nat} {v : Int}, bs[sums.length]? = some b → kPI bs sums ++ [(bp b 0, .int .i64 v)] = kPI bs (sums ++ [v])
 | [], _, _, _, h => by simp at h
 | a :: bs, [], b, _, h => by
  simp at h; subst h
  simp [kPI]
 | a :: bs, x :: sums, b, v, h => by
  have ih := kPI_push (v := v) (show bs[sums.length]? = some b by simpa using h)
  unfold kPI at ih ⊢
  simp only [List.zip_cons_cons, List.map_cons, List.cons_append, ih]
theorem kPI_more : ∀ {bs : List Nat} {sums : List Int} (b : Nat), sums.length ≤ bs.length → kPI (bs ++ [b]) sums = kPI bs sums
 | [], [], _, _ => rfl
 | [], _ :: _, _, h => by simp at h
 | _ :: _, [], _, _ => rfl
 | a :: bs, x :: sums, b, h => by
  have ih := kPI_more (bs := bs) (sums := sums) b (by simpa using h)
  unfold kPI at ih ⊢
  simp only [List.cons_append, List.zip_cons_cons, List.map_cons, ih]
section
variable {P : Program} {w0 : World} {n : Nat} {I : Hp} {Γ : Gm} {L : List Asn} {cs : List Code} {β : Type} {m : Option β} {D : β → Post} {ops : Array Oper} {os : List Oper}
theorem St.foundCut {w : World} {fm sm : Nat} {keys sums : List Int} {bs : List Nat} {ss : List PV} {c : List PC} (i : Nat) (hi : L[i]? = some (found fm sm keys sums bs ss c)) (hS : St w0 I L w) :
  (keys.length = bs.length ∧ sums.length ≤ bs.length) ∧ St w0 I (mp fm (kIP keys bs) :: mp sm (kPI bs sums) :: pbxs 2 44 bs ss c :: L.set i emp) w := by
 obtain ⟨ρ, hs, ho⟩ := hS.own
 obtain ⟨ρ1, ρA, ρ2, rfl, ⟨hl, σ1, σ2, σ3, rfl, h1, h2, h3⟩, hset, _⟩ := hs.focus hi
 refine ⟨hl, hS.perm ho (ρ' := σ1 ++ (σ2 ++ (σ3 ++ (ρ1 ++ [] ++ ρ2)))) ?_ ⟨σ1, _, rfl, h1, σ2, _, rfl, h2, σ3, _, rfl, h3, hset emp [] rfl⟩⟩
 have e : σ1 ++ (σ2 ++ (σ3 ++ (ρ1 ++ [] ++ ρ2))) = (σ1 ++ (σ2 ++ σ3)) ++ ρ1 ++ ρ2 := by simp
 rw [e]
 exact List.perm_append_comm.append_right ρ2
theorem St.foundJoin {w : World} {fm sm : Nat} {keys sums : List Int} {bs : List Nat} {ss : List PV} {c : List PC} (i : Nat) (hi : L[i]? = some emp) (hl : keys.length = bs.length ∧ sums.length ≤ bs.length)
  (hS : St w0 I (mp fm (kIP keys bs) :: mp sm (kPI bs sums) :: pbxs 2 44 bs ss c :: L) w) : St w0 I (L.set i (found fm sm keys sums bs ss c)) w := by
 obtain ⟨ρ, hs, ho⟩ := hS.own
 obtain ⟨σ1, _, rfl, h1, σ2, _, rfl, h2, σ3, ρr, rfl, h3, hr⟩ := hs
 obtain ⟨ρ1, ρA, ρ2, rfl, hA, hset, _⟩ := hr.focus hi
 have hA' : ρA = [] := hA
 subst hA'
 refine hS.perm ho (ρ' := ρ1 ++ (σ1 ++ (σ2 ++ σ3)) ++ ρ2) ?_ (hset _ _ ⟨hl, σ1, σ2, σ3, rfl, h1, h2, h3⟩)
 have e : σ1 ++ (σ2 ++ (σ3 ++ (ρ1 ++ [] ++ ρ2))) = (σ1 ++ (σ2 ++ σ3)) ++ ρ1 ++ ρ2 := by simp
 rw [e]
 exact List.perm_append_comm.append_right ρ2
theorem TL.foundCut {fm sm : Nat} {keys sums : List Int} {bs : List Nat} {ss : List PV} {c : List PC} (i : Nat) (hi : L[i]? = some (found fm sm keys sums bs ss c))
  (k : (keys.length = bs.length ∧ sums.length ≤ bs.length) → TL P w0 n I Γ (mp fm (kIP keys bs) :: mp sm (kPI bs sums) :: pbxs 2 44 bs ss c :: L.set i emp) ops os cs m D) : TL P w0 n I Γ L ops os cs m D :=
 fun a w hF hS o ho => k (St.foundCut i hi hS).1 a w hF (St.foundCut i hi hS).2 o ho
theorem TL.foundJoin {fm sm : Nat} {keys sums : List Int} {bs : List Nat} {ss : List PV} {c : List PC} (i : Nat) (hi : L[i]? = some emp) (hl : keys.length = bs.length ∧ sums.length ≤ bs.length)
  (k : TL P w0 n I Γ (L.set i (found fm sm keys sums bs ss c)) ops os cs m D) : TL P w0 n I Γ (mp fm (kIP keys bs) :: mp sm (kPI bs sums) :: pbxs 2 44 bs ss c :: L) ops os cs m D :=
 fun a w hF hS o ho => k a w hF (St.foundJoin i hi hl hS) o ho
variable {d : Nat} {ty : TypeId} {pos : String} {af : Array Edge} {g : Option (Nat × Bool)}
theorem run_findP {kT T : TypeId} {sz : Nat} (hk : P.underlying kT = some (.pointer T)) (hz : ∀ w, (sizeOf T).run P w = .ok sz w) (hs : sz ≠ 0) {bs : List Nat} {sums : List Int} {ss : List PV} {c : List PC} {j b q : Nat} (hq : L[q]? = some (pbxs 2 44 bs ss c)) (hb : bs[j]? = some b) (w : World) (hS : St w0 I L w) :
  (Instr.findKey kT (bp b 0) (entsL (kPI bs sums) 0)).run P w = .ok (if j < sums.length then some (j, .int .i64 (gt sums j)) else none) w := by
 obtain ⟨_, _, hn, hc⟩ := hS.pbInfo q hq
 have h := run_find_ptr hk hz hs w b (hc b (List.mem_of_getElem? hb)) ((bs.zip sums).map fun p => (p.1, Value.int .i64 p.2)) (by
  intro p hp
  obtain ⟨x, hx, rfl⟩ := List.mem_map.1 hp
  exact hc _ (List.of_mem_zip hx).1)
 rw [List.map_map, look_nodup hn hb] at h
 exact h
theorem TL.sget {T kT eT S : TypeId} {sz : Nat} {x ix : Operand} {fm sm j b : Nat} {keys sums : List Int} {bs : List Nat} {ss : List PV} {c : List PC} (i : Nat) (hi : L[i]? = some (found fm sm keys sums bs ss c)) (hb : bs[j]? = some b) (hT : P.underlying T = some (.map kT eT)) (hk : P.underlying kT = some (.pointer S)) (hz : ∀ w, (sizeOf S).run P w = .ok sz w) (hs : sz ≠ 0) (hz0 : ∀ w, (zeroValue eT).run P w = .ok (.int .i64 0) w)
  (hg : gd ops Γ ⟨some d, .lookup T x ix false, ty, pos, af, g⟩ = some true) (hn : Nat.blt d n = true) (hx : ev Γ x = some (.map (some sm))) (hkx : ev Γ ix = some (bp b 0))
  (k : TL P w0 n I ((d, .int .i64 (sget sums j)) :: Γ) L ops os cs m D) : TL P w0 n I Γ L ops (⟨some d, .lookup T x ix false, ty, pos, af, g⟩ :: os) cs m D := by
 refine TL.foundCut i hi fun hl => ?_
 have hil : i < L.length := (List.getElem?_eq_some_iff.1 hi).1
 refine TL.mget (key := bp b 0) 1 rfl hT (fun e w => run_check_ptr hk b e w) (fun w hS => run_findP hk hz hs (j := j) (q := 2) rfl hb w hS) hz0 (v := .int .i64 (G.sget sums j)) ?_ hg hn hx hkx ?_
 ·unfold G.sget
  by_cases hj : j < sums.length
  ·rw [if_pos hj, if_pos hj]; rfl
  rw [if_neg hj, if_neg hj, Option.elim_none]
 refine TL.foundJoin i (by simp [hil]) hl ?_
 rw [List.set_set]
 have e : L.set i (found fm sm keys sums bs ss c) = L := by
  apply List.ext_getElem?
  intro q
  rw [List.getElem?_set]
  split
  ·rename_i h; subst h; rw [hi]; first | done | simp [hil]
  rfl
 rw [e]
 exact k
theorem TL.sput {T kT eT S : TypeId} {sz : Nat} {x ix y : Operand} {fm sm j b : Nat} {keys sums : List Int} {bs : List Nat} {ss : List PV} {c : List PC} {v : Int} (i : Nat) (hi : L[i]? = some (found fm sm keys sums bs ss c)) (hb : bs[j]? = some b) (hjs : j ≤ sums.length) (hT : P.underlying T = some (.map kT eT)) (hk : P.underlying kT = some (.pointer S)) (hz : ∀ w, (sizeOf S).run P w = .ok sz w) (hs : sz ≠ 0)
  (hg : gd ops Γ ⟨none, .mapUpdate T x ix y, ty, pos, af, g⟩ = some true) (hx : ev Γ x = some (.map (some sm))) (hkx : ev Γ ix = some (bp b 0)) (hy : ev Γ y = some (.int .i64 v))
  (k : TL P w0 n I Γ (L.set i (found fm sm keys (sput sums j v) bs ss c)) ops os cs m D) : TL P w0 n I Γ L ops (⟨none, .mapUpdate T x ix y, ty, pos, af, g⟩ :: os) cs m D := by
 refine TL.foundCut i hi fun hl => ?_
 have hil : i < L.length := (List.getElem?_eq_some_iff.1 hi).1
 have hjl := (List.getElem?_eq_some_iff.1 hb).1
 unfold G.sput at k
 by_cases hj : j < sums.length
 ·rw [if_pos hj] at k
  refine TL.mputOld (key := bp b 0) (j := j) (u := .int .i64 (gt sums j)) (v := .int .i64 v) 1 rfl hT (fun e w => run_check_ptr hk b e w) (fun w hS => by have := run_findP hk hz hs (sums := sums) (j := j) (q := 2) rfl hb w hS; rw [if_pos hj] at this; exact this) ?_ (by unfold bp; simp only [Instr.sameBits]; simp) hg hx hkx hy ?_
  ·unfold kPI
   rw [List.getElem?_map, (List.getElem?_zip_eq_some (z := (b, sums[j]))).2 ⟨hb, List.getElem?_eq_getElem hj⟩]
   simp [gt, hj]
  have e : (kPI bs sums).set j (bp b 0, .int .i64 v) = kPI bs (sums.set j v) := kPI_set hb hj
  refine (?_ : TL P w0 n I Γ (mp fm (kIP keys bs) :: mp sm ((kPI bs sums).set j (bp b 0, .int .i64 v)) :: pbxs 2 44 bs ss c :: L.set i emp) ops os cs m D)
  rw [e]
  refine TL.foundJoin i (by simp [hil]) ⟨hl.1, by simpa using hl.2⟩ ?_
  rw [List.set_set]
  exact k
 rw [if_neg hj] at k
 have hje : j = sums.length := by omega
 refine TL.mputNew (key := bp b 0) (v := .int .i64 v) 1 rfl hT (fun e w => run_check_ptr hk b e w) (fun w hS => by have := run_findP hk hz hs (sums := sums) (j := j) (q := 2) rfl hb w hS; rw [if_neg hj] at this; exact this) hg hx hkx hy ?_
 have e : kPI bs sums ++ [(bp b 0, .int .i64 v)] = kPI bs (sums ++ [v]) := kPI_push (hje ▸ hb)
 refine (?_ : TL P w0 n I Γ (mp fm (kIP keys bs) :: mp sm (kPI bs sums ++ [(bp b 0, .int .i64 v)]) :: pbxs 2 44 bs ss c :: L.set i emp) ops os cs m D)
 rw [e]
 refine TL.foundJoin i (by simp [hil]) ⟨hl.1, by simp; omega⟩ ?_
 rw [List.set_set]
 exact k
def foundX (fm sm : Nat) (keys sums : List Int) (j b : Nat) (bs : List Nat) (ss : List PV) (c : List PC) : Asn := fun ρ => (keys.length = bs.length ∧ sums.length ≤ bs.length) ∧
  ∃ ρ1 ρ2 ρ3, ρ = ρ1 ++ (ρ2 ++ ρ3) ∧ mp fm (kIP keys bs) ρ1 ∧ mp sm (kPI bs sums) ρ2 ∧ pbxsX 2 44 j b bs ss c ρ3
theorem St.foundOpen {w : World} {fm sm : Nat} {keys sums : List Int} {bs : List Nat} {ss : List PV} {c : List PC} (i j : Nat) (hi : L[i]? = some (found fm sm keys sums bs ss c)) (hj : j < c.length) (hS : St w0 I L w) :
  ∃ b s y, bs[j]? = some b ∧ ss[j]? = some s ∧ c[j]? = some y ∧ s.1 = y.1 ∧ St w0 I (Sx.box b 44 [.one (.int .i64 s.1), .one s.2.1.v, .one s.2.2.v] :: row Ei 2 s.2.1 y.2.1 :: row Ei 2 s.2.2 y.2.2 :: L.set i (foundX fm sm keys sums j b bs ss c)) w := by
 obtain ⟨ρ, hs, ho⟩ := hS.own
 obtain ⟨ρ1, ρA, ρ2, rfl, ⟨hl, σ1, σ2, σ3, rfl, h1, h2, h3⟩, hset, _⟩ := hs.focus hi
 obtain ⟨b, s, y, υ1, υA, υ2, e1, e2, e3, rfl, ⟨e4, τ0, τ1, τ2, rfl, t0, t1, t2⟩, hput⟩ := pbxs_focus h3 hj
 refine ⟨b, s, y, e1, e2, e3, e4, hS.perm ho (ρ' := τ0 ++ (τ1 ++ (τ2 ++ (ρ1 ++ (σ1 ++ (σ2 ++ (υ1 ++ υ2))) ++ ρ2)))) ?_ ⟨τ0, _, rfl, t0, τ1, _, rfl, t1, τ2, _, rfl, t2, hset _ _ ⟨hl, σ1, σ2, υ1 ++ υ2, rfl, h1, h2, υ1, υ2, rfl, hput⟩⟩⟩
 have x1 : ρ1 ++ (σ1 ++ (σ2 ++ (υ1 ++ (τ0 ++ (τ1 ++ τ2)) ++ υ2))) ++ ρ2 = (ρ1 ++ σ1 ++ σ2 ++ υ1) ++ (τ0 ++ (τ1 ++ τ2)) ++ (υ2 ++ ρ2) := by simp
 have x2 : τ0 ++ (τ1 ++ (τ2 ++ (ρ1 ++ (σ1 ++ (σ2 ++ (υ1 ++ υ2))) ++ ρ2))) = (τ0 ++ (τ1 ++ τ2)) ++ (ρ1 ++ σ1 ++ σ2 ++ υ1) ++ (υ2 ++ ρ2) := by simp
 rw [x1, x2]
 exact List.perm_append_comm.append_right _
theorem TC.foundOpen {fm sm : Nat} {keys sums : List Int} {bs : List Nat} {ss : List PV} {c : List PC} (i j : Nat) (hi : L[i]? = some (found fm sm keys sums bs ss c)) (hj : j < c.length)
  (k : ∀ b s y, bs[j]? = some b → ss[j]? = some s → c[j]? = some y → s.1 = y.1 → TC P w0 n I Γ (Sx.box b 44 [.one (.int .i64 s.1), .one s.2.1.v, .one s.2.2.v] :: row Ei 2 s.2.1 y.2.1 :: row Ei 2 s.2.2 y.2.2 :: L.set i (foundX fm sm keys sums j b bs ss c)) cs m D) : TC P w0 n I Γ L cs m D := by
 intro a w hF hS o ho
 obtain ⟨b, s, y, e1, e2, e3, e4, hS'⟩ := St.foundOpen i j hi hj hS
 exact k b s y e1 e2 e3 e4 a w hF hS' o ho
theorem St.foundShut {w : World} {fm sm : Nat} {keys sums : List Int} {bs : List Nat} {ss : List PV} {c : List PC} {j b : Nat} {gg : Int} {s1 s2 : SV} {y1 y2 : List Int} (i : Nat) (hi : L[i]? = some (foundX fm sm keys sums j b bs ss c))
  (hS : St w0 I (Sx.box b 44 [.one (.int .i64 gg), .one s1.v, .one s2.v] :: row Ei 2 s1 y1 :: row Ei 2 s2 y2 :: L) w) : St w0 I (L.set i (found fm sm keys sums bs (ss.set j (gg, s1, s2)) (c.set j (gg, y1, y2)))) w := by
 have h1 := hS.pbPack
 have h2 := St.joinpp (A := found fm sm keys sums bs (ss.set j (gg, s1, s2)) (c.set j (gg, y1, y2))) 0 (i + 1) rfl (B := pbx 2 44 b (gg, s1, s2) (gg, y1, y2)) (C := foundX fm sm keys sums j b bs ss c) (by simpa using hi) (by
  rintro ρ1 ρ2 hb ⟨hl, σ1, σ2, σ3, rfl, g1, g2, υ1, υ2, rfl, hput⟩
  refine ⟨σ1 ++ (σ2 ++ (υ1 ++ ρ1 ++ υ2)), ?_, hl, σ1, σ2, _, rfl, g1, g2, hput _ _ _ hb⟩
  have x1 : ρ1 ++ (σ1 ++ (σ2 ++ (υ1 ++ υ2))) = ρ1 ++ (σ1 ++ σ2 ++ υ1) ++ υ2 := by simp
  have x2 : σ1 ++ (σ2 ++ (υ1 ++ ρ1 ++ υ2)) = (σ1 ++ σ2 ++ υ1) ++ ρ1 ++ υ2 := by simp
  rw [x1, x2]
  exact List.perm_append_comm.append_right υ2) h1
 exact h2.drop (i := 0) rfl
theorem TC.foundShut {fm sm : Nat} {keys sums : List Int} {bs : List Nat} {ss : List PV} {c : List PC} {j b : Nat} {gg : Int} {s1 s2 : SV} {y1 y2 : List Int} (i : Nat) (hi : L[i]? = some (foundX fm sm keys sums j b bs ss c))
  (k : TC P w0 n I Γ (L.set i (found fm sm keys sums bs (ss.set j (gg, s1, s2)) (c.set j (gg, y1, y2)))) cs m D) : TC P w0 n I Γ (Sx.box b 44 [.one (.int .i64 gg), .one s1.v, .one s2.v] :: row Ei 2 s1 y1 :: row Ei 2 s2 y2 :: L) cs m D :=
 fun a w hF hS o ho => k a w hF (St.foundShut i hi hS) o ho
theorem St.group {w : World} {L1 L0 : List Asn} (h : St w0 I (L1 ++ L0) w) : St w0 I (L1 ++ [fun ρ => Sat L0 ρ]) w := by
 obtain ⟨ρ, hs, ho⟩ := h.own
 obtain ⟨ρA, ρB, rfl, hA, hB⟩ := Sat.parts hs
 exact ⟨h.below, h.i0, h.iw, _, hA.append ⟨ρB, [], by simp, hB, rfl⟩, ho⟩
theorem St.ungroup {w : World} {L1 L0 : List Asn} (h : St w0 I (L1 ++ [fun ρ => Sat L0 ρ]) w) : St w0 I (L1 ++ L0) w := by
 obtain ⟨ρ, hs, ho⟩ := h.own
 obtain ⟨ρA, ρB, rfl, hA, ρC, _, rfl, hC, rfl⟩ := Sat.parts hs
 rw [List.append_nil] at ho
 exact ⟨h.below, h.i0, h.iw, _, hA.append hC, ho⟩
end
section
variable {w0 : World} {n : Nat} {I : Hp} {Γ : Gm} {cs : List Code} {β : Type} {m : Option β} {D : β → Post} {ops : Array Oper} {os : List Oper}
variable {d : Nat} {ty : TypeId} {pos : String} {af : Array Edge} {g : Option (Nat × Bool)}
theorem TL.partCall {b1 tb b2 fm sm t : Nat} {sp : SV} {u v : Value} {pool keys sums : List Int} {bs : List Nat} {ss : List PV} {c : List PC} {L0 : List Asn} {i1 : Int} {r : Nat × Option Int} {args : Array Operand} {ts : Array TypeId} (hr : impl_part.f pool keys i1 = some r)
  (hf : lk Γ t = some (.func (.func 57) #[] #[bp b1 0, bp b2 0]))
  (hg : gd ops Γ ⟨some d, .call { callee := .value (.tmp t), args := args, argTypes := ts }, ty, pos, af, g⟩ = some true) (hn : Nat.blt d n = true) (hx : evs Γ args.toList = some [.int .i64 i1])
  (k : ∀ b, (onB bs b r.2)[r.1]? = some b → TL Tryz.prog w0 n I ((d, bp b 0) :: Γ) (Sx.box b1 72 [.one (bp tb 0)] :: Sx.box tb 77 [.one sp.v, .one u, .one v] :: row Ei 3 sp pool :: Sx.box b2 80 [.one (.map (some fm))] :: found fm sm (onK keys r.2) sums (onB bs b r.2) (onS ss r.2) (onC c r.2) :: L0) ops os cs m D) :
  TL Tryz.prog w0 n I Γ (Sx.box b1 72 [.one (bp tb 0)] :: Sx.box tb 77 [.one sp.v, .one u, .one v] :: row Ei 3 sp pool :: Sx.box b2 80 [.one (.map (some fm))] :: found fm sm keys sums bs ss c :: L0) ops (⟨some d, .call { callee := .value (.tmp t), args := args, argTypes := ts }, ty, pos, af, g⟩ :: os) cs m D := by
 refine TL.foundCut 4 rfl fun hl => ?_
 intro a w hF hS o ho
 have hS2 : St w0 I ([mp fm (kIP keys bs), mp sm (kPI bs sums), pbxs 2 44 bs ss c, Sx.box b1 72 [.one (bp tb 0)], Sx.box tb 77 [.one sp.v, .one u, .one v], row Ei 3 sp pool, Sx.box b2 80 [.one (.map (some fm))], emp] ++ [fun ρ => Sat L0 ρ]) w := St.group hS
 refine TL.callvX (fst := []) (cap := [bp b1 0, bp b2 0]) (vs := [.int .i64 i1]) (mf := impl_part.f pool keys i1) hr (R := impl_part.R b1 tb b2 fm sp u v pool keys bs ss c) [3, 3, 3, 3, 0, 1, 0, 0, 0] (partL b1 tb b2 fm sp u v pool keys bs ss c) [mp sm (kPI bs sums), emp, fun ρ => Sat L0 ρ] rfl Tryz.call57 hf hg hn hx (fun w I' _ _ hS r hr => impl_part.calls w0 I' w b1 tb b2 fm sp u v pool keys bs ss c i1 hl.1 hS r hr) ?_ a w hF hS2 o ho
 rintro val L' ⟨b, hb, rfl, rfl⟩
 intro a w hF hS o ho
 have hS3 : St w0 I ([mp fm (kIP (onK keys r.2) (onB bs b r.2)), mp sm (kPI bs sums), pbxs 2 44 (onB bs b r.2) (onS ss r.2) (onC c r.2), Sx.box b1 72 [.one (bp tb 0)], Sx.box tb 77 [.one sp.v, .one u, .one v], row Ei 3 sp pool, Sx.box b2 80 [.one (.map (some fm))], emp] ++ [fun ρ => Sat L0 ρ]) w := St.ext [4, 5, 4, 0, 0, 0, 0, 0, 0] rfl hS
 have hS4 := St.ungroup hS3
 have hk : (onK keys r.2).length = (onB bs b r.2).length ∧ sums.length ≤ (onB bs b r.2).length := by
  cases r.2 <;> simp [onK, onB, hl.1] <;> omega
 have hp : kPI bs sums = kPI (onB bs b r.2) sums := by
  cases r.2 with
  | none => rfl
  | some k => exact (kPI_more b hl.2).symm
 rw [hp] at hS4
 have hS5 := St.foundJoin 4 rfl hk hS4
 exact k b hb a w hF hS5 o ho
theorem TL.mkfound {P : Program} {L : List Asn} {T : TypeId} {fm : Nat} (i : Nat) (hi : L[i]? = some (mp fm [])) (hg : gd ops Γ ⟨some d, .makeMap T none, ty, pos, af, g⟩ = some true) (hn : Nat.blt d n = true)
  (k : ∀ sm, TL P w0 n I ((d, .map (some sm)) :: Γ) (L.set i (found fm sm [] [] [] [] [])) ops os cs m D) : TL P w0 n I Γ L ops (⟨some d, .makeMap T none, ty, pos, af, g⟩ :: os) cs m D := by
 refine TL.mkmap hg hn fun sm => ?_
 intro a w hF hS o ho
 have h2 := St.joinpp (A := found fm sm [] [] [] [] []) 0 (i + 1) rfl (B := mp sm []) (C := mp fm []) (by simpa using hi) (by
  intro ρ1 ρ2 h1 h2
  exact ⟨ρ2 ++ (ρ1 ++ []), by rw [List.append_nil]; exact List.perm_append_comm, ⟨rfl, Nat.le_refl _⟩, ρ2, ρ1, [], rfl, h2, h1, rfl⟩) hS
 exact k sm a w hF (h2.drop (i := 0) rfl) o ho
end
end Go.Proofs.YtpejnjpckacciaaGreatDoor.G
namespace Go.Proofs.YtpejnjpckacciaaGreatDoor.G
open Go Go.Sx Go.Proofs Go.RowKit Go.Sort
theorem rank_a (g : Int) (b o n c : Nat) (s2 : SV) (x : Int) (W : World) (hc : W.cell? ⟨b, o, none⟩ = some (.int .i64 x)) (hb : b < W.heap.size) :
  Calls Tryz.prog 80 #[.agg #[.int .i64 g, .slice (some ⟨b, o, none⟩) (n + 1) c, s2.v]] W fun e w' => e = .returned (.tuple #[.int .i64 0, .int .i64 x]) ∧ ∃ q os, w' = grow (W.drewN q) os := by
 have hlt : ¬ ((n : Int) + 1 ≤ 0) := by omega
 unfold SV.v
 go_enter Tryz.func80, Tryz.ntmps80
 go_wp2
 go_quiet (fail)
 all_goals go_wp2
 all_goals go_ret2
 all_goals exact ⟨rfl, _, _, by rw [alloc_eq_grow]; rfl⟩
theorem rank_b (g : Int) (a1 : Option Addr) (c1 b o n c : Nat) (x : Int) (W : World) (hc : W.cell? ⟨b, o, none⟩ = some (.int .i64 x)) (hb : b < W.heap.size) :
  Calls Tryz.prog 80 #[.agg #[.int .i64 g, .slice a1 0 c1, .slice (some ⟨b, o, none⟩) (n + 1) c]] W fun e w' => e = .returned (.tuple #[.int .i64 1, .int .i64 x]) ∧ ∃ q os, w' = grow (W.drewN q) os := by
 have hlt : ¬ ((n : Int) + 1 ≤ 0) := by omega
 go_enter Tryz.func80, Tryz.ntmps80
 go_wp2
 go_quiet (fail)
 all_goals go_wp2
 all_goals go_ret2
 all_goals exact ⟨rfl, _, _, by rw [alloc_eq_grow]; rfl⟩
theorem rank_c (g : Int) (a1 a2 : Option Addr) (c1 c2 : Nat) (W : World) :
  Calls Tryz.prog 80 #[.agg #[.int .i64 g, .slice a1 0 c1, .slice a2 0 c2]] W fun e w' => e = .returned (.tuple #[.int .i64 2, .int .i64 g]) ∧ ∃ q os, w' = grow (W.drewN q) os := by
 go_enter Tryz.func80, Tryz.ntmps80
 go_wp2
 go_quiet (fail)
 all_goals go_wp2
 all_goals go_ret2
 all_goals exact ⟨rfl, _, _, by rw [alloc_eq_grow]; rfl⟩
theorem isNaN_a (x : Int) (W : World) : Calls Tryz.prog 108 #[.int .i64 x] W fun e w' => e = .returned (.bool false) ∧ w' = W := by
 go_enter Tryz.func108, Tryz.ntmps108
 go_wp2
 go_ret
 exact ⟨by simp, rfl⟩
theorem isNaN_b (x : Int) (W : World) : Calls Tryz.prog 109 #[.int .i64 x] W fun e w' => e = .returned (.bool false) ∧ w' = W := by
 go_enter Tryz.func109, Tryz.ntmps109
 go_wp2
 go_ret
 exact ⟨by simp, rfl⟩
def cmpI (x y : Int) : Int := if x < y then -1 else if y < x then 1 else 0
theorem cmp_a (x y : Int) (W : World) : Calls Tryz.prog 82 #[.int .i64 x, .int .i64 y] W fun e w' => e = .returned (.int .i64 (cmpI x y)) ∧ w' = W := by
 go_enter Tryz.func82, Tryz.ntmps82
 go_wp2_with (go_at_call 108; refine (isNaN_a _ _).mono ?_; rintro e w' ⟨rfl, hw⟩; rw [hw])
 all_goals (go_ret; refine ⟨?_, rfl⟩; unfold cmpI; (repeat' split) <;> first | rfl | (exfalso; omega))
theorem cmp_b (x y : Int) (W : World) : Calls Tryz.prog 83 #[.int .i64 x, .int .i64 y] W fun e w' => e = .returned (.int .i64 (cmpI x y)) ∧ w' = W := by
 go_enter Tryz.func83, Tryz.ntmps83
 go_wp2_with (go_at_call 109; refine (isNaN_b _ _).mono ?_; rintro e w' ⟨rfl, hw⟩; rw [hw])
 all_goals (go_ret; refine ⟨?_, rfl⟩; unfold cmpI; (repeat' split) <;> first | rfl | (exfalso; omega))
theorem or_a (b c : Nat) (x y : Int) (W : World) (h0 : W.cell? ⟨b, 0, none⟩ = some (.int .i64 x)) (h1 : W.cell? ⟨b, 1, none⟩ = some (.int .i64 y)) : Calls Tryz.prog 81 #[.slice (some ⟨b, 0, none⟩) 2 c] W fun e w' => e = .returned (.int .i64 (if x = 0 then y else x)) ∧ w' = W := by
 by_cases hx : x = 0
 ·subst hx
  rw [if_pos rfl]
  by_cases hy : y = 0
  ·subst hy
   go_enter Tryz.func81, Tryz.ntmps81
   go_wp2
   refine wp_loop_rounds 3 ?_
   rw [rounds_succ]
   go_wp2
   rw [rounds_succ]
   go_wp2
   rw [rounds_succ]
   go_wp2
   go_ret
   exact ⟨rfl, rfl⟩
  have hy' : (y != 0) = true := by simpa using hy
  go_enter Tryz.func81, Tryz.ntmps81
  go_wp2
  refine wp_loop_rounds 3 ?_
  rw [rounds_succ]
  go_wp2
  rw [rounds_succ]
  go_wp2
  go_ret
  exact ⟨rfl, rfl⟩
 have hx' : (x != 0) = true := by simpa using hx
 rw [if_neg hx]
 go_enter Tryz.func81, Tryz.ntmps81
 go_wp2
 refine wp_loop_rounds 3 ?_
 rw [rounds_succ]
 go_wp2
 go_ret
 exact ⟨rfl, rfl⟩
def rkP (g : Int) (y1 y2 : List Int) : Int × Int := match y1, y2 with
  | x :: _, _ => (0, x)
  | [], x :: _ => (1, x)
  | [], [] => (2, g)
theorem reads_cell {H : Hp} {s : SV} {x : Int} {ys : List Int} (h : Reads Ei H s (x :: ys)) : ∃ b o, s = ⟨some ⟨b, o, none⟩, ys.length + 1, s.c⟩ ∧ ∃ cs T fr, H b = some (.cells cs T fr) ∧ cs[o]? = some (.int .i64 x) := by
 obtain ⟨h0, h1, h2, h3⟩ := h
 rcases h3 with h3 | ⟨b, o, cs, T, fr, ha, hb, hc⟩
 ·cases h3
 refine ⟨b, o, ?_, cs, T, fr, hb, by simpa using hc 0 _ rfl⟩
 obtain ⟨a, n, c⟩ := s
 simp only at ha h0 ⊢
 subst ha h0
 rfl
theorem reads_none {H : Hp} {s : SV} (h : Reads Ei H s []) : s = ⟨s.a, 0, s.c⟩ := by
 obtain ⟨h0, _⟩ := h
 obtain ⟨a, n, c⟩ := s
 simp only [List.length_nil] at h0
 subst h0
 rfl
theorem hp_cell {W : World} {b o : Nat} {x : Int} {cs : Array Value} {T : TypeId} {fr : Nat × Nat} (hb : hp W b = some (.cells cs T fr)) (hc : cs[o]? = some (.int .i64 x)) : W.cell? ⟨b, o, none⟩ = some (.int .i64 x) ∧ b < W.heap.size := by
 have h : W.heap[b]? = some (.cells cs T fr) := hb
 refine ⟨?_, (Array.getElem?_eq_some_iff.1 h).1⟩
 unfold World.cell?
 rw [h]
 simpa using hc
theorem rank_all (g : Int) (s1 s2 : SV) (y1 y2 : List Int) (W : World) (h1 : Reads Ei (hp W) s1 y1) (h2 : Reads Ei (hp W) s2 y2) :
  Calls Tryz.prog 80 #[.agg #[.int .i64 g, s1.v, s2.v]] W fun e w' => e = .returned (.tuple #[.int .i64 (rkP g y1 y2).1, .int .i64 (rkP g y1 y2).2]) ∧ ∃ q os, w' = grow (W.drewN q) os := by
 cases y1 with
 | cons x ys =>
  obtain ⟨b, o, hs, cs, T, fr, hb, hc⟩ := reads_cell h1
  obtain ⟨e1, e2⟩ := hp_cell hb hc
  rw [hs]
  exact rank_a g b o _ _ s2 x W e1 e2
 | nil =>
  have hs1 := reads_none h1
  cases y2 with
  | cons x ys =>
   obtain ⟨b, o, hs, cs, T, fr, hb, hc⟩ := reads_cell h2
   obtain ⟨e1, e2⟩ := hp_cell hb hc
   rw [hs1, hs]
   exact rank_b g _ _ b o _ _ x W e1 e2
  | nil =>
   have hs2 := reads_none h2
   rw [hs1, hs2]
   exact rank_c g _ _ _ _ W
def ordP (a b : PC) : Int := bif cmpI (rkP a.1 a.2.1 a.2.2).1 (rkP b.1 b.2.1 b.2.2).1 == 0 then cmpI (rkP a.1 a.2.1 a.2.2).2 (rkP b.1 b.2.1 b.2.2).2 else cmpI (rkP a.1 a.2.1 a.2.2).1 (rkP b.1 b.2.1 b.2.2).1
theorem order_all (p p' : PV) (c c' : PC) (W : World) (h0 : p.1 = c.1) (h1 : Reads Ei (hp W) p.2.1 c.2.1) (h2 : Reads Ei (hp W) p.2.2 c.2.2) (h0' : p'.1 = c'.1) (h1' : Reads Ei (hp W) p'.2.1 c'.2.1) (h2' : Reads Ei (hp W) p'.2.2 c'.2.2) :
    Calls Tryz.prog 60 #[.agg #[.int .i64 p.1, p.2.1.v, p.2.2.v], .agg #[.int .i64 p'.1, p'.2.1.v, p'.2.2.v]] W fun e w' => e = .returned (.int .i64 (ordP c c')) ∧ ∃ q os, w' = grow (W.drewN q) os := by
  obtain ⟨g, s1, s2⟩ := p
  obtain ⟨g', s1', s2'⟩ := p'
  obtain ⟨_, y1, y2⟩ := c
  obtain ⟨_, y1', y2'⟩ := c'
  simp only at h0 h1 h2 h0' h1' h2'
  subst h0 h0'
  have k1 : ∀ W', Hle (hp W) (hp W') → _ := fun W' hW => rank_all g s1 s2 y1 y2 W' (h1.mono hW) (h2.mono hW)
  have k2 : ∀ W', Hle (hp W) (hp W') → _ := fun W' hW => rank_all g' s1' s2' y1' y2' W' (h1'.mono hW) (h2'.mono hW)
  unfold ordP
  simp only
  generalize (rkP g y1 y2) = r1 at k1 ⊢
  generalize (rkP g' y1' y2') = r2 at k2 ⊢
  obtain ⟨i, x⟩ := r1
  obtain ⟨k, y⟩ := r2
  simp only at k1 k2 ⊢
  have e0 : (bif cmpI i k == 0 then cmpI x y else cmpI i k) = if cmpI i k = 0 then cmpI x y else cmpI i k := by
    by_cases hh : cmpI i k = 0
    · rw [if_pos hh, hh]; rfl
    rw [if_neg hh, beq_eq_false_iff_ne.2 hh]; rfl
  rw [e0]
  have k3 : ∀ (b c : Nat) (W : World), W.cell? ⟨b, 0, none⟩ = some (.int .i64 (cmpI i k)) → W.cell? ⟨b, 1, none⟩ = some (.int .i64 (cmpI x y)) → _ := fun b c W h1 h2 => or_a b c (cmpI i k) (cmpI x y) W h1 h2
  generalize (if cmpI i k = 0 then cmpI x y else cmpI i k) = r at k3 ⊢
  clear h1 h2 h1' h2' e0
  unfold SV.v at *
  go_enter Tryz.func60, Tryz.ntmps60
  have hg : ∀ (W1 : World) (os : Array Obj) (q : Nat), Hle (hp W) (hp W1) → Hle (hp W) (hp (grow (W1.drewN q) os)) := by
    intro W1 os q h b ob hb
    have := h b ob hb
    show (W1.heap ++ os)[b]? = some ob
    have hl := (Array.getElem?_eq_some_iff.1 this).1
    rw [Array.getElem?_append_left hl]
    exact this
  have hal : ∀ (W1 : World) (o : Obj), Hle (hp W) (hp W1) → Hle (hp W) (hp (W1.alloc o)) := fun W1 o h => h.trans (hp_alloc W1 o)
  have hcell : ∀ (W1 : World) (os : Array Obj) (q : Nat) (a : Addr) (v : Value), W1.cell? a = some v → (grow (W1.drewN q) os).cell? a = some v := by
    intro W1 os q a v h
    unfold World.cell? at h ⊢
    show (match (W1.heap ++ os)[a.block]? with | some (.cells c _ _) => _ | _ => none) = some v
    cases hb : W1.heap[a.block]? with
    | none => rw [hb] at h; cases h
    | some ob =>
      have hl := (Array.getElem?_eq_some_iff.1 hb).1
      rw [Array.getElem?_append_left hl, hb]
      rw [hb] at h
      exact h
  have hH1 := hal _ (.cells #[.int .i64 g', .slice s1'.a s1'.n s1'.c, .slice s2'.a s2'.n s2'.c] 44) (hal W (.cells #[.int .i64 g, .slice s1.a s1.n s1.c, .slice s2.a s2.n s2.c] 44) (.refl _))
  go_wp2_with (first
    | (go_at_call 80; refine (k1 _ hH1).mono ?_; rintro e w' ⟨rfl, q, os, hw⟩
       have hc0 : w'.cell? ⟨W.heap.size + 1, 0, none⟩ = some (.int .i64 g') := by rw [hw]; exact hcell _ _ _ _ _ (by simp)
       have hc1 : w'.cell? ⟨W.heap.size + 1, 1, none⟩ = some (.slice s1'.a s1'.n s1'.c) := by rw [hw]; exact hcell _ _ _ _ _ (by simp)
       have hc2 : w'.cell? ⟨W.heap.size + 1, 2, none⟩ = some (.slice s2'.a s2'.n s2'.c) := by rw [hw]; exact hcell _ _ _ _ _ (by simp)
       have hH2 : Hle (hp W) (hp w') := by rw [hw]; exact hg _ _ _ hH1
       replace hw : Hid (w' = _) := hw
       clear hH1)
    | (go_at_call 80; (refine (k2 _ hH2).mono ?_; rintro e w'' ⟨rfl, q2, os2, hw2⟩; replace hw2 : Hid (w'' = _) := hw2))
    | (go_at_call 82; refine (cmp_a _ _ _).mono ?_; rintro e w3 ⟨rfl, hw3⟩; rw [hw3])
    | (go_at_call 83; refine (cmp_b _ _ _).mono ?_; rintro e w3 ⟨rfl, hw3⟩; rw [hw3])
    | (go_at_call 81; (refine (k3 w''.heap.size 2 (w''.alloc (.cells #[.int .i64 (cmpI i k), .int .i64 (cmpI x y)] 3)) (by simp) (by simp)).mono ?_; rintro e w3 ⟨rfl, hw3⟩; rw [hw3])))
  all_goals
    go_ret
    refine ⟨rfl, q + q2, #[.cells #[.int .i64 g, .slice s1.a s1.n s1.c, .slice s2.a s2.n s2.c] 44] ++ #[.cells #[.int .i64 g', .slice s1'.a s1'.n s1'.c, .slice s2'.a s2'.n s2'.c] 44] ++ os ++ os2 ++ #[.cells #[.int .i64 (cmpI i k), .int .i64 (cmpI x y)] 3], ?_⟩
    replace hw := hw.out
    replace hw2 := hw2.out
    subst hw2
    subst hw
    simp only [alloc_eq_grow, grow_grow]
    simp only [grow, World.drewN, Nat.add_assoc, Array.append_assoc]
open Go Go.Sx Go.Proofs
def genP (s : Int) (y : PC) : Int := w64 (Int.tdiv (w64 (w64 (2 - w64 ((y.2.1.length : Int) + (y.2.2.length : Int))) - s)) 2)
def cF (sums : List Int) (c : List PC) (j : Nat) : PC := (genP (gt sums (j : Int)) (gt c (j : Int)), (gt c (j : Int)).2.1, (gt c (j : Int)).2.2)
def sF (sums : List Int) (c : List PC) (ss : List PV) (j : Nat) : PV := (genP (gt sums (j : Int)) (gt c (j : Int)), (gt ss (j : Int)).2.1, (gt ss (j : Int)).2.2)
def mrg {α : Type} (vis : List Nat) (f g : Nat → α) (n : Nat) : List α := (List.range n).map fun j => if j ∈ vis then f j else g j
theorem mrg_length {α : Type} (vis : List Nat) (f g : Nat → α) (n : Nat) : (mrg vis f g n).length = n := by simp [mrg]
theorem mrg_get {α : Type} {vis : List Nat} {f g : Nat → α} {n q : Nat} (hq : q < n) (hv : q ∉ vis) : (mrg vis f g n)[q]? = some (g q) := by
 simp [mrg, hq, hv]
theorem mrg_nil {α : Type} [Inhabited α] (f : Nat → α) (l : List α) : mrg [] f (fun j => gt l (j : Int)) l.length = l := by
 apply List.ext_getElem?
 intro i
 unfold mrg
 rw [List.getElem?_map]
 by_cases h : i < l.length
 ·simp [h, gt]
 simp [h]
theorem mrg_set {α : Type} {vis : List Nat} {f g : Nat → α} {n q : Nat} : (mrg vis f g n).set q (f q) = mrg (vis ++ [q]) f g n := by
 apply List.ext_getElem?
 intro i
 unfold mrg
 rw [List.getElem?_set, List.getElem?_map, List.getElem?_map]
 by_cases h : q = i
 ·subst h
  by_cases hn : q < n <;> simp [hn]
 have h' : ¬ i = q := fun e => h e.symm
 by_cases hn : i < n <;> simp [h, hn, h']
theorem mrg_all {α : Type} {vis : List Nat} {f g : Nat → α} {n : Nat} (h : ∀ q, q < n → q ∈ vis) : mrg vis f g n = (List.range n).map f := by
 unfold mrg
 apply List.map_congr_left
 intro j hj
 rw [if_pos (h j (List.mem_range.1 hj))]
theorem kPI_get {bs : List Nat} {sums : List Int} {q : Nat} {p : Value × Value} (h : (kPI bs sums)[q]? = some p) : ∃ b, bs[q]? = some b ∧ p = (bp b 0, .int .i64 (gt sums (q : Int))) ∧ q < sums.length := by
 unfold kPI at h
 rw [List.getElem?_map] at h
 obtain ⟨⟨b, v⟩, h1, rfl⟩ := Option.map_eq_some_iff.1 h
 rw [List.getElem?_zip_eq_some] at h1
 obtain ⟨hb, hv⟩ := h1
 have hl := (List.getElem?_eq_some_iff.1 hv).1
 exact ⟨b, hb, by rw [gt_nat hv], hl⟩
theorem kPI_length {bs : List Nat} {sums : List Int} (h : sums.length ≤ bs.length) : (kPI bs sums).length = sums.length := by simp [kPI]; omega
theorem perm_range : ∀ {n : Nat} {vis : List Nat}, vis.Nodup → (∀ j ∈ vis, j < n) → (∀ j, j < n → j ∈ vis) → vis.Perm (List.range n) := by
 intro n vis hn h1 h2
 refine (List.perm_ext_iff_of_nodup hn List.nodup_range).2 fun a => ⟨fun h => List.mem_range.2 (h1 a h), fun h => h2 a (List.mem_range.1 h)⟩
theorem nodup_lt {n : Nat} {vis : List Nat} (hn : vis.Nodup) (h1 : ∀ j ∈ vis, j < n) : vis.length ≤ n := by
 have h : vis ⊆ List.range n := fun j hj => List.mem_range.2 (h1 j hj)
 have := hn.length_le_of_subset h
 simpa using this
def finC (sums : List Int) (c : List PC) : List PC := (List.range c.length).map (cF sums c)
def finS (sums : List Int) (c : List PC) (ss : List PV) : List PV := (List.range c.length).map (sF sums c ss)
def tiesP (l : List PC) : Bool := l.all fun a => l.all fun b => ordP a b != 0 || decide (a = b)
def leQ (a b : PC) : Bool := decide (ordP a b ≤ 0)
def srtP (l : List PC) : List PC := l.mergeSort leQ
def cntB (n : Nat) : Nat → Option (LB Nat) := fun k => bif decide (k < n) then some (.next (k + 1)) else some (.brk k)
theorem cntB_end {n k : Nat} {vis : List Nat} (hvn : vis.Nodup) (hvk : vis.length = k) (hvl : ∀ j ∈ vis, j < n) (hva : ∀ j, j < n → j ∈ vis) : cntB n k = some (.brk k) := by
 have h : n ≤ vis.length := by
  have := List.nodup_range.length_le_of_subset (l₁ := List.range n) (l₂ := vis) (fun j hj => hva j (List.mem_range.1 hj))
  simpa using this
 unfold cntB
 rw [decide_eq_false (by omega)]; rfl
theorem cntB_next {n k q : Nat} {vis : List Nat} (hvn : vis.Nodup) (hvk : vis.length = k) (hvl : ∀ j ∈ vis, j < n) (hqn : q < n) (hq : q ∉ vis) : cntB n k = some (.next (k + 1)) := by
 have h := nodup_lt (n := n) (vis := q :: vis) (List.nodup_cons.2 ⟨hq, hvn⟩) (fun j hj => by
  rcases List.mem_cons.1 hj with rfl | hj
  ·exact hqn
  exact hvl j hj)
 rw [List.length_cons] at h
 unfold cntB
 rw [decide_eq_true (by omega)]; rfl
theorem visit {n k q : Nat} {vis : List Nat} (hvn : vis.Nodup) (hvk : vis.length = k) (hvl : ∀ j ∈ vis, j < n) (hqn : q < n) (hq : q ∉ vis) : (vis ++ [q]).Nodup ∧ (vis ++ [q]).length = k + 1 ∧ ∀ j ∈ vis ++ [q], j < n := by
 refine ⟨?_, by simp [hvk], fun j hj => ?_⟩
 ·rw [List.nodup_append]
  refine ⟨hvn, by simp, fun a ha b hb e => ?_⟩
  obtain rfl := List.mem_singleton.1 hb
  exact hq (e ▸ ha)
 rcases List.mem_append.1 hj with h | h
 ·exact hvl j h
 obtain rfl := List.mem_singleton.1 h
 exact hqn
theorem cmpJ (x y : Int) : (cmpI x y < 0 ↔ x < y) ∧ (cmpI x y = 0 ↔ x = y) := by
 unfold cmpI
 split
 ·omega
 split <;> omega
theorem ordQ_all (a b : PC) : (ordP a b < 0 ↔ (rkP a.1 a.2.1 a.2.2).1 < (rkP b.1 b.2.1 b.2.2).1 ∨ (rkP a.1 a.2.1 a.2.2).1 = (rkP b.1 b.2.1 b.2.2).1 ∧ (rkP a.1 a.2.1 a.2.2).2 < (rkP b.1 b.2.1 b.2.2).2) ∧
  (ordP a b = 0 ↔ (rkP a.1 a.2.1 a.2.2).1 = (rkP b.1 b.2.1 b.2.2).1 ∧ (rkP a.1 a.2.1 a.2.2).2 = (rkP b.1 b.2.1 b.2.2).2) := by
 unfold ordP
 have h0 := cmpJ (rkP a.1 a.2.1 a.2.2).1 (rkP b.1 b.2.1 b.2.2).1
 have h1 := cmpJ (rkP a.1 a.2.1 a.2.2).2 (rkP b.1 b.2.1 b.2.2).2
 by_cases h : cmpI (rkP a.1 a.2.1 a.2.2).1 (rkP b.1 b.2.1 b.2.2).1 = 0
 ·rw [h]
  simp only [beq_self_eq_true, cond_true]
  omega
 rw [beq_eq_false_iff_ne.2 h, cond_false]
 omega
theorem ordQ_neg (a b : PC) : ordP a b < 0 ↔ (rkP a.1 a.2.1 a.2.2).1 < (rkP b.1 b.2.1 b.2.2).1 ∨ (rkP a.1 a.2.1 a.2.2).1 = (rkP b.1 b.2.1 b.2.2).1 ∧ (rkP a.1 a.2.1 a.2.2).2 < (rkP b.1 b.2.1 b.2.2).2 := (ordQ_all a b).1
theorem ordQ_zero (a b : PC) : ordP a b = 0 ↔ (rkP a.1 a.2.1 a.2.2).1 = (rkP b.1 b.2.1 b.2.2).1 ∧ (rkP a.1 a.2.1 a.2.2).2 = (rkP b.1 b.2.1 b.2.2).2 := (ordQ_all a b).2
theorem ordQ_le (a b : PC) : ordP a b ≤ 0 ↔ (rkP a.1 a.2.1 a.2.2).1 < (rkP b.1 b.2.1 b.2.2).1 ∨ (rkP a.1 a.2.1 a.2.2).1 = (rkP b.1 b.2.1 b.2.2).1 ∧ (rkP a.1 a.2.1 a.2.2).2 ≤ (rkP b.1 b.2.1 b.2.2).2 := by
 have h1 := ordQ_neg a b
 have h2 := ordQ_zero a b
 omega
theorem srtP_perm (l : List PC) : (srtP l).Perm l := List.mergeSort_perm l leQ
theorem leQ_trans : ∀ a b c : PC, leQ a b = true → leQ b c = true → leQ a c = true := by
 intro a b c h1 h2
 unfold leQ at *
 rw [decide_eq_true_iff] at *
 have x1 := ordQ_le a b
 have x2 := ordQ_le b c
 have x3 := ordQ_le a c
 omega
theorem leQ_total : ∀ a b : PC, (leQ a b || leQ b a) = true := by
 intro a b
 unfold leQ
 rw [Bool.or_eq_true, decide_eq_true_iff, decide_eq_true_iff]
 have x1 := ordQ_le a b
 have x2 := ordQ_le b a
 omega
theorem sorted_fin {sums : List Int} {c : List PC} {ss : List PV} {vis : List Nat} {zs : List (PV × PC)} (hg : tiesP (finC sums c) = true) (hvn : vis.Nodup) (hvl : ∀ j ∈ vis, j < c.length) (hva : ∀ j, j < c.length → j ∈ vis)
  (hzp : zs.Perm ((vis.map (sF sums c ss)).zip (vis.map (cF sums c)))) (hzs : (zs.map (·.2)).Pairwise fun a b => ¬ ordP b a < 0) : zs.map (·.2) = srtP (finC sums c) := by
 have h1 : (zs.map (·.2)).Perm (finC sums c) := by
  refine (hzp.map (·.2)).trans ?_
  rw [List.map_snd_zip (by simp)]
  exact (perm_range hvn hvl hva).map _
 have h2 : (zs.map (·.2)).Pairwise fun a b => leQ a b = true := by
  refine hzs.imp ?_
  intro a b h
  unfold leQ
  rw [decide_eq_true_iff]
  have x1 := ordQ_le a b
  have x2 := ordQ_neg b a
  omega
 have h3 : (srtP (finC sums c)).Pairwise fun a b => leQ a b = true := List.pairwise_mergeSort leQ_trans leQ_total _
 refine List.Perm.eq_of_pairwise (le := fun a b => leQ a b = true) ?_ h2 h3 (h1.trans (srtP_perm _).symm)
 intro a b ha hb hab hba
 have ha' := h1.mem_iff.1 ha
 have hb' := (srtP_perm _).mem_iff.1 hb
 have ht := List.all_eq_true.1 (List.all_eq_true.1 hg a ha') b hb'
 rw [Bool.or_eq_true, decide_eq_true_iff] at ht
 rcases ht with h | h
 ·exfalso
  rw [bne_iff_ne] at h
  unfold leQ at hab hba
  rw [decide_eq_true_iff] at hab hba
  have x1 := ordQ_le a b
  have x2 := ordQ_le b a
  have x3 := ordQ_zero a b
  omega
 exact h
end Go.Proofs.YtpejnjpckacciaaGreatDoor.G
namespace Go.Sx
section
variable {P : Program} {w0 : World} {n : Nat} {I : Hp} {Γ : Gm} {L : List Asn} {cs : List Code} {α : Type} {m : Option α} {D : α → Post}
theorem St.prowsPerm {T : TypeId} {w : World} {ss : List PV} {c : List PC} {zs zs' : List (PV × PC)} (i : Nat) (hi : L[i]? = some (prows T ss c)) (h1 : ss = zs.map (·.1)) (h2 : c = zs.map (·.2)) (hp : zs.Perm zs')
  (hq : ∀ {ρ}, prows T (zs.map (·.1)) (zs.map (·.2)) ρ → ∃ ρ', ρ.Perm ρ' ∧ prows T (zs'.map (·.1)) (zs'.map (·.2)) ρ') (hS : St w0 I L w) : St w0 I (L.set i (prows T (zs'.map (·.1)) (zs'.map (·.2)))) w := by
 subst h1 h2
 obtain ⟨ρ, hs, ho⟩ := hS.own
 obtain ⟨ρ1, ρA, ρ2, rfl, hA, hset, _⟩ := hs.focus hi
 obtain ⟨ρ', hpp, hA'⟩ := hq hA
 exact hS.perm ho ((hpp.append_left ρ1).append_right ρ2) (hset _ _ hA')
end
end Go.Sx
namespace Go.Proofs.YtpejnjpckacciaaGreatDoor.G
open Go Go.Sx Go.Proofs Go.Shelf Go.Sort
theorem prows_perm {T : TypeId} {zs zs' : List (PV × PC)} (hp : zs.Perm zs') : ∀ {ρ}, prows T (zs.map (·.1)) (zs.map (·.2)) ρ → ∃ ρ', ρ.Perm ρ' ∧ prows T (zs'.map (·.1)) (zs'.map (·.2)) ρ' := by
 induction hp with
 | nil => exact fun h => ⟨_, .refl _, h⟩
 | cons z _ ih =>
  rintro ρ ⟨h0, ρ1, ρ2, ρ3, rfl, h1, h2, h3⟩
  obtain ⟨ρ', hp', h'⟩ := ih h3
  exact ⟨ρ1 ++ (ρ2 ++ ρ'), (hp'.append_left ρ2).append_left ρ1, h0, ρ1, ρ2, ρ', rfl, h1, h2, h'⟩
 | swap y z l =>
  rintro ρ ⟨h0, ρ1, ρ2, ρ3, rfl, h1, h2, g0, σ1, σ2, σ3, rfl, g1, g2, g3⟩
  refine ⟨σ1 ++ (σ2 ++ (ρ1 ++ (ρ2 ++ σ3))), ?_, g0, σ1, σ2, _, rfl, g1, g2, h0, ρ1, ρ2, σ3, rfl, h1, h2, g3⟩
  have e1 : ρ1 ++ (ρ2 ++ (σ1 ++ (σ2 ++ σ3))) = (ρ1 ++ ρ2) ++ (σ1 ++ σ2) ++ σ3 := by simp
  have e2 : σ1 ++ (σ2 ++ (ρ1 ++ (ρ2 ++ σ3))) = (σ1 ++ σ2) ++ (ρ1 ++ ρ2) ++ σ3 := by simp
  rw [e1, e2]
  exact List.perm_append_comm.append_right σ3
 | trans _ _ ih1 ih2 =>
  intro ρ h
  obtain ⟨ρ1, p1, h1⟩ := ih1 h
  obtain ⟨ρ2, p2, h2⟩ := ih2 h1
  exact ⟨ρ2, p1.trans p2, h2⟩
def okP (H : Hp) (z : PV × PC) : Prop := z.1.1 = z.2.1 ∧ Reads Ei H z.1.2.1 z.2.2.1 ∧ Reads Ei H z.1.2.2 z.2.2.2
theorem okP_nil (H : Hp) : okP H ((0, ⟨none, 0, 0⟩, ⟨none, 0, 0⟩), (0, [], [])) := ⟨rfl, ⟨rfl, Nat.le_refl _, by simp [maxLen], .inl rfl⟩, ⟨rfl, Nat.le_refl _, by simp [maxLen], .inl rfl⟩⟩
abbrev OkP (H : Hp) := {z : PV × PC // okP H z}
instance (H : Hp) : Inhabited (OkP H) := ⟨⟨_, okP_nil H⟩⟩
def encO (H : Hp) (z : OkP H) : List Value := Epart.enc z.1.1
theorem flat_encs (H : Hp) (d : Array (OkP H)) : (flatK (encO H) 3 d).toList = encs Epart (d.toList.map fun z => z.1.1) := by
 apply List.ext_getElem?
 intro t
 have hel : (encs Epart (d.toList.map fun z => z.1.1)).length = d.size * 3 := by rw [encs_length]; simp [Epart]
 by_cases ht : t < d.size * 3
 ·have h1 : t / 3 < d.size := by omega
  have e1 : (d.toList.map fun z => z.1.1)[t / 3]? = some (d[t / 3]!).1.1 := by
   rw [List.getElem?_map, Array.getElem?_toList, Array.getElem?_eq_getElem h1, getElem!_pos d (t / 3) h1]; rfl
  have e2 := encs_get Epart _ (t / 3) (t % 3) _ e1 (show t % 3 < 3 by omega)
  rw [show t / 3 * Epart.sz + t % 3 = t from by show t / 3 * 3 + t % 3 = t; omega] at e2
  rw [e2, Array.getElem?_toList, Array.getElem?_eq_getElem (by rw [size_flatK]; exact ht)]
  have e3 := get_flatK (encO H) 3 d t ht
  rw [getElem!_pos _ t (by rw [size_flatK]; exact ht)] at e3
  rw [e3]
  have hl : t % 3 < (Epart.enc (d[t / 3]!).1.1).length := by rw [Epart.len]; show t % 3 < 3; omega
  rw [List.getElem?_eq_getElem hl]
  have e4 : encO H d[t / 3]! = Epart.enc (d[t / 3]!).1.1 := rfl
  rw [e4, getElem!_pos (Epart.enc (d[t / 3]!).1.1) (t % 3) hl]
 rw [List.getElem?_eq_none (l := (flatK (encO H) 3 d).toList) (by simp; omega), List.getElem?_eq_none (by rw [hel]; omega)]
theorem St.grow {w0 : World} {I : Hp} {L : List Asn} {w : World} (h : St w0 I L w) (os : Array Obj) : St w0 I L (Go.Sort.grow w os) := by
 have hH : Hle (hp w) (hp (Go.Sort.grow w os)) := by
  intro b o hb
  show (w.heap ++ os)[b]? = some o
  have hl := (Array.getElem?_eq_some_iff.1 (show w.heap[b]? = some o from hb)).1
  rw [Array.getElem?_append_left hl]
  exact hb
 obtain ⟨ρ, hs, ho⟩ := h.own
 refine ⟨⟨h.below.os, h.below.tape, h.below.output, Nat.le_trans h.below.size (by show w.heap.size ≤ (w.heap ++ os).size; simp), ?_⟩, h.i0, h.iw.trans hH, ρ, hs, ho.nodup, fun p hp' => ⟨(ho.here p hp').1, hH _ _ (ho.here p hp').2⟩⟩
 intro k hk
 rw [← h.below.block k hk]
 show (w.heap ++ os)[k]? = w.heap[k]?
 rw [Array.getElem?_append_left (Nat.lt_of_lt_of_le hk h.below.size)]
def leP (a b : PC) : Bool := decide (ordP a b ≤ 0)
theorem cmpI_neg {x y : Int} : cmpI x y < 0 ↔ x < y := by
 unfold cmpI
 split
 ·omega
 split <;> omega
theorem cmpI_zero {x y : Int} : cmpI x y = 0 ↔ x = y := by
 unfold cmpI
 split
 ·omega
 split <;> omega
theorem ordP_neg (a b : PC) : ordP a b < 0 ↔ (rkP a.1 a.2.1 a.2.2).1 < (rkP b.1 b.2.1 b.2.2).1 ∨ (rkP a.1 a.2.1 a.2.2).1 = (rkP b.1 b.2.1 b.2.2).1 ∧ (rkP a.1 a.2.1 a.2.2).2 < (rkP b.1 b.2.1 b.2.2).2 := by
 unfold ordP
 by_cases h : cmpI (rkP a.1 a.2.1 a.2.2).1 (rkP b.1 b.2.1 b.2.2).1 = 0
 ·rw [h]
  simp only [beq_self_eq_true, cond_true]
  rw [cmpI_neg]
  have := cmpI_zero.1 h
  omega
 rw [beq_eq_false_iff_ne.2 h, cond_false, cmpI_neg]
 have : ¬ _ := fun e => h (cmpI_zero.2 e)
 omega
theorem swoP (H : Hp) : SWO (ltOf fun x y : OkP H => ordP x.1.2 y.1.2) where
 irrefl x := by unfold ltOf; rw [decide_eq_false]; rw [ordP_neg]; omega
 trans x y z h1 h2 := by
  unfold ltOf at *
  rw [decide_eq_true_iff, ordP_neg] at *
  omega
 ntrans x y z h1 h2 := by
  unfold ltOf at *
  rw [decide_eq_false_iff_not, ordP_neg] at *
  omega
theorem perm_of_permIn {α : Type} [Inhabited α] {d d' : Array α} (h : PermIn 0 d.size d d') : d'.toList.Perm d.toList := by
 have h2 := h.2.2
 have e1 : d.extract 0 d.size = d := by simp
 have e2 : d'.extract 0 d.size = d' := by rw [← h.1]; simp
 rwa [e1, e2] at h2
theorem sorted_of_in {α : Type} [Inhabited α] {lt : α → α → Bool} {d' : Array α} {q : Nat} (hq : d'.size = q) (h : SortedIn lt 0 q d') : d'.toList.Pairwise fun a b => lt b a = false := by
 rw [List.pairwise_iff_getElem]
 intro i j hi hj hij
 have h1 := h i j (Nat.zero_le _) hij (by rw [← hq]; simpa using hj)
 have hi' : i < d'.size := by simpa using hi
 have hj' : j < d'.size := by simpa using hj
 rw [getElem!_pos d' i hi', getElem!_pos d' j hj'] at h1
 simpa using h1
theorem sort_st {w0 : World} {I : Hp} {L : List Asn} {w : World} {s : SV} {ss : List PV} {c : List PC} (hn : ss ≠ []) (hsz : ss.length < 1099511627777) (hS : St w0 I (row Epart 44 s ss :: prows 2 ss c :: L) w) :
  Calls Tryz.prog 59 #[s.v, .func (.func 60) #[] #[]] w (RetM w0 I fun v L' => v = .tuple #[] ∧ ∃ zs : List (PV × PC), zs.Perm (ss.zip c) ∧ (zs.map (·.2)).Pairwise (fun a b => ¬ ordP b a < 0) ∧ L' = row Epart 44 s (zs.map (·.1)) :: prows 2 (zs.map (·.1)) (zs.map (·.2)) :: L) := by
 obtain ⟨ρ, hs, ho⟩ := hS.own
 obtain ⟨ρ1, ρr, rfl, h1, ρ2, ρ3, rfl, h2, h3⟩ := hs
 have hlen := prows_length h2
 rcases h1 with ⟨_, rfl, _⟩ | ⟨g, o, cap, cur, rfl, rfl, r1, r2, r3, r4⟩
 ·exact absurd rfl hn
 have hb : w.heap[g]? = some (.cells cur 44 (0, 0)) := (ho.here (g, .cells cur 44 (0, 0)) (by simp)).2
 have hg : g < w.heap.size := (Array.getElem?_eq_some_iff.1 hb).1
 -- the heap without the row's block
 let H : Hp := fun b => if b = g then none else hp w b
 have hHw : ∀ p ∈ ρ2, H p.1 = some p.2 := by
  intro p hp'
  have hne : p.1 ≠ g := by
   intro e
   have hnd := ho.nodup
   simp only [List.map_append, List.map_cons, List.cons_append, List.nil_append, List.nodup_cons] at hnd
   exact hnd.1 (List.mem_append.2 (.inl (List.mem_map.2 ⟨p, hp', e⟩)))
  show (if p.1 = g then none else hp w p.1) = some p.2
  rw [if_neg hne]
  exact (ho.here p (by simp [hp'])).2
 have hok : ∀ z ∈ ss.zip c, okP H z := by
  intro z hz
  obtain ⟨j, hj⟩ := List.mem_iff_getElem?.1 hz
  rw [List.getElem?_zip_eq_some] at hj
  exact prows_reads h2 hHw j z.1 z.2 hj.1 hj.2
 let d : Array (OkP H) := ((ss.zip c).attachWith (okP H) hok).toArray
 have hd : d.toList.map Subtype.val = ss.zip c := by
  show ((ss.zip c).attachWith (okP H) hok).toArray.toList.map Subtype.val = _
  first | exact List.attachWith_map_subtype_val _ | exact List.attachWith_map_val _ | (simp only [List.attachWith, List.map_pmap]; simp)
 have hd1 : d.toList.map (fun z => z.1.1) = ss := by
  have : d.toList.map (fun z => z.1.1) = (d.toList.map Subtype.val).map (·.1) := by rw [List.map_map]; rfl
  rw [this, hd, List.map_fst_zip (by omega)]
 have hds : d.size = ss.length := by
  have := congrArg List.length hd1
  simpa using this
 have hflat : (flatK (encO H) 3 d).toList = encs Epart ss := by rw [flat_encs, hd1]
 have hE : Epart.sz = 3 := rfl
 rw [hE] at r3 r4
 have hcell : ∀ t, t < d.size * 3 → cur[o + t]? = some ((flatK (encO H) 3 d)[t]!) := by
  intro t ht
  have e1 : (encs Epart ss)[t]? = some ((flatK (encO H) 3 d)[t]!) := by
   rw [← hflat, Array.getElem?_toList, Array.getElem?_eq_getElem (by simpa using ht), getElem!_pos _ t (by simpa using ht)]
  rw [← r4, List.getElem?_take, if_pos (by rw [← hds]; exact ht), List.getElem?_drop] at e1
  simpa using e1
 have hHolds : HoldsK (encO H) 3 w g o d := by
  intro t ht
  have ht' : t < d.size * 3 := by simpa using ht
  refine ⟨?_, ?_⟩
  ·rw [cell_at hb, hcell t ht']; rfl
  unfold World.frozen?
  simp only
  rw [hb]
  simp
 have hcmp : CmpLays Tryz.prog 60 #[] (encO H) 3 (fun x y : OkP H => ordP x.1.2 y.1.2) g o d.size w := by
  intro m os dk _ x y
  have hle : Hle H (hp (sortWorldK (encO H) 3 w g o m dk os)) := by
   intro b ob hbo
   by_cases hbg : b = g
   ·subst hbg
    have : (none : Option Obj) = some ob := by rw [← hbo]; show none = (if b = b then none else hp w b); rw [if_pos rfl]
    cases this
   have hbo' : w.heap[b]? = some ob := by rw [← hbo]; show w.heap[b]? = (if b = g then none else hp w b); rw [if_neg hbg]; rfl
   show ((putRowK (encO H) 3 (Go.Sort.ahead w m) g o dk).heap ++ os)[b]? = some ob
   have hlb : b < (putRowK (encO H) 3 (Go.Sort.ahead w m) g o dk).heap.size := by
    rw [size_putRowK]
    exact (Array.getElem?_eq_some_iff.1 hbo').1
   rw [Array.getElem?_append_left hlb]
   unfold putRowK Go.Sort.putRow Go.Sort.mapBlock
   simp only [Go.Sort.heap_ahead, Array.getElem?_modify]
   rw [if_neg (Ne.symm hbg)]
   exact hbo'
  obtain ⟨⟨p, q⟩, hpq⟩ := x
  obtain ⟨⟨p', q'⟩, hpq'⟩ := y
  exact order_all p p' q q' _ hpq.1 (hpq.2.1.mono hle) (hpq.2.2.mono hle) hpq'.1 (hpq'.2.1.mono hle) (hpq'.2.2.mono hle)
 have hcon := AnyQ.slices_SortFunc sortF 3 Tryz.isAgg44 Tryz.sizeOf44 (encO H) (fun z => Epart.len z.1.1) (fun z v hv => Epart.one z.1.1 v hv) (fun x y : OkP H => ordP x.1.2 y.1.2) (swoP H) 60 #[] g o cap d w (enters_of Tryz.func60 (by kernel_rfl) rfl) hcmp hHolds hg (by rw [hds]; omega)
 rw [hds] at hcon
 refine Calls.mono (show Calls Tryz.prog 59 _ w _ from hcon) ?_
 rintro e w' ⟨rfl, d', n', os, hperm, hsort, rfl⟩
 rw [← hds] at hperm hsort
 have hp' := perm_of_permIn hperm
 have hd's : d'.size = ss.length := by rw [hperm.1, hds]
 have hzp : (d'.toList.map Subtype.val).Perm (ss.zip c) := by rw [← hd]; exact hp'.map _
 refine ⟨_, _, rfl, ⟨rfl, d'.toList.map Subtype.val, hzp, ?_, rfl⟩, ?_⟩
 ·rw [List.map_map, List.pairwise_map]
  refine (sorted_of_in hperm.1 hsort).imp ?_
  intro a b hab
  unfold ltOf at hab
  simpa using hab
 refine St.grow ?_ os
 have hS2 : St w0 I (row Epart 44 ⟨some ⟨g, o, none⟩, ss.length, cap⟩ ((d'.toList.map Subtype.val).map (·.1)) :: prows 2 ss c :: L) (putRowK (encO H) 3 (Go.Sort.ahead w n') g o d') := by
  have hheap : ∀ b, (putRowK (encO H) 3 (Go.Sort.ahead w n') g o d').heap[b]? = if b = g then some (.cells (Go.Sort.putCells id o (flatK (encO H) 3 d') cur) 44 (0, 0)) else w.heap[b]? := by
   intro b
   unfold putRowK Go.Sort.putRow Go.Sort.mapBlock
   simp only [Go.Sort.heap_ahead, Array.getElem?_modify]
   by_cases hbg : g = b
   ·subst hbg
    rw [if_pos rfl, if_pos rfl, hb]; rfl
   rw [if_neg hbg, if_neg (Ne.symm hbg)]
  refine hS.turn (i := 0) rfl ?_ rfl rfl rfl (by rw [size_putRowK]; exact Nat.le_refl _)
  intro ρB hB hhB
  rcases hB with ⟨hB, _⟩ | ⟨b', o', cap', cur', hs', rfl, _, _, _, _⟩
  ·cases hB
  injection hs' with hs1 hs2 hs3
  injection hs1 with hs1
  injection hs1 with hs1 hs4
  subst hs1 hs3 hs4
  have hl2 : ((d'.toList.map Subtype.val).map (·.1)).length = ss.length := by simp [hd's]
  refine ⟨[(g, .cells (Go.Sort.putCells id o (flatK (encO H) 3 d') cur) 44 (0, 0))], .inr ⟨g, o, cap, _, by rw [hl2], rfl, by rw [hl2]; exact r1, r2, ?_, ?_⟩, rfl, ?_, ?_⟩
  ·rw [hE]
   simpa [Go.Sort.putCells] using r3
  ·rw [hE, hl2]
   have ef : encs Epart ((d'.toList.map Subtype.val).map (·.1)) = (flatK (encO H) 3 d').toList := by rw [flat_encs, List.map_map]; rfl
   rw [ef]
   apply List.ext_getElem?
   intro t
   rw [List.getElem?_take]
   have hfs : (flatK (encO H) 3 d').size = ss.length * 3 := by rw [size_flatK, hd's]
   by_cases ht : t < ss.length * 3
   ·rw [if_pos ht, List.getElem?_drop]
    have hle3 : ss.length * 3 ≤ cap * 3 := Nat.mul_le_mul_right _ r1
    have hsz' : o + t < cur.size := by omega
    simp only [Go.Sort.putCells, Array.getElem?_toList, Array.getElem?_mapIdx, Array.getElem?_eq_getElem hsz', Option.map_some]
    rw [if_pos ⟨by omega, by rw [hfs]; omega⟩, Array.getElem?_eq_getElem (by rw [hfs]; exact ht)]
    rw [show o + t - o = t by omega, getElem!_pos _ t (by rw [hfs]; exact ht)]
    rfl
   rw [if_neg ht, List.getElem?_eq_none (by simp; omega)]
  ·intro r hr
   obtain rfl := List.mem_singleton.1 hr
   rw [hheap]; simp
  intro b hbn
  rw [hheap, if_neg (by simpa using hbn)]
 obtain ⟨ρ', hs', ho'⟩ := hS2.own
 obtain ⟨σ1, _, rfl, k1, σ2, σ3, rfl, k2, k3⟩ := hs'
 have e1 : (ss.zip c).map (·.1) = ss := List.map_fst_zip (by omega)
 have e2 : (ss.zip c).map (·.2) = c := List.map_snd_zip (by omega)
 have k2' : prows 2 ((ss.zip c).map (·.1)) ((ss.zip c).map (·.2)) σ2 := by rw [e1, e2]; exact k2
 obtain ⟨σ2', kp, kk⟩ := prows_perm hzp.symm k2'
 exact hS2.perm ho' ((kp.append_right σ3).append_left σ1) ⟨σ1, _, rfl, k1, σ2', σ3, rfl, kk, k3⟩
open Go Go.Sx Go.Proofs Go.RowKit Go.Shelf
def unitR (r : Unit) (v : Value) (L : List Asn) : Prop := v = .tuple #[] ∧ L = []
def onlyBrk : Unit → Option (LB Unit) := fun _ => some (.brk ())
theorem loop_onlyBrk : loop1 onlyBrk () = some () := by
 unfold loop1 loop
 have : FUEL = (FUEL - 1) + 1 := rfl
 rw [this, loopN]
 rfl
theorem ins_nil (w : World) (s : SV) : ∀ r, (loop1 onlyBrk ()).bind (fun _ => some ()) = some r → Calls Tryz.prog 98 #[SV.v s, .int .i64 0, .int .i64 0, .func (.func 60) #[] #[]] w (Ret w (unitR r)) := by
 refine calls_T (n := 53) (Γ := [(0, SV.v s), (1, .int .i64 0), (2, .int .i64 0)]) (R := unitR) Tryz.func98 rfl rfl (Nat.le_of_ble_eq_true rfl) ⟨rfl, rfl, rfl, trivial⟩ ?_
 refine TC.seq <| TC.region <| TL.mv (.int .i64 0) <| TL.bn .i64 0 1 (.int .i64 1) <| TL.as (.int .i64 1) <| TL.done ?_
 refine TC.loop1 (σ := Unit) (γ := Unit) (Γ' := fun _ _ => [(2, .int .i64 0), (8, .int .i64 1)]) (L' := fun _ _ => []) (Γb := fun _ _ => []) (Lb := fun _ _ => []) () () ⟨rfl, rfl, trivial⟩ [] rfl ?_ ?_
 ·rintro ⟨⟩ ⟨⟩
  refine TC.seq <| TC.seq <| TC.region <| TL.mv (.int .i64 1) <| TL.mv (.int .i64 0) <| TL.bn .i64 1 0 (.bool false) ?_
  refine TL.done ?_
  refine TC.cond_false rfl ?_
  exact TC.brk1 () () trivial [] rfl
 rintro ⟨⟩ ⟨⟩
 exact TC.nilF (Fin.body (fin0 (.inl rfl) rfl [] rfl ⟨rfl, rfl⟩))
def insM : Option Unit := (loop1 onlyBrk ()).bind fun _ => some ()
theorem insM_eq : insM = some () := by unfold insM; rw [loop_onlyBrk]; rfl
def onlyRet : Unit → Option (LR Unit Unit) := fun _ => insM.bind fun _ => some (.ret ())
theorem loop_onlyRet : (loop onlyRet ()).bind (ln fun _ => some ()) = some () := by
 unfold loop
 have : FUEL = (FUEL - 1) + 1 := rfl
 rw [this, loopN]
 unfold onlyRet
 rw [insM_eq]
 rfl
def pdqM : Option Unit := (loop onlyRet ()).bind (ln fun _ => some ())
theorem pdq_nil (w : World) (s : SV) (k : Int) : ∀ r, pdqM = some r → Calls Tryz.prog 78 #[SV.v s, .int .i64 0, .int .i64 0, .int .i64 k, .func (.func 60) #[] #[]] w (Ret w (unitR r)) := by
 refine calls_T (n := 148) (Γ := [(0, SV.v s), (1, .int .i64 0), (2, .int .i64 0), (4, .func (.func 60) #[] #[])]) (R := unitR) Tryz.func78 rfl rfl (Nat.le_of_ble_eq_true rfl) ⟨rfl, rfl, rfl, rfl, trivial⟩ ?_
 unfold pdqM
 refine TC.seq <| TC.region <| TL.as (.bool true) <| TL.done <| TC.seq <| TC.region ?_
 refine TL.as (.bool true) <| TL.done ?_
 refine TC.loopK (σ := Unit) (γ := Unit) (Γ' := fun _ _ => [(0, SV.v s), (1, .int .i64 0), (2, .int .i64 0), (4, .func (.func 60) #[] #[])]) (L' := fun _ _ => []) (Γb := fun _ _ => []) (Lb := fun _ _ => []) () () ⟨rfl, rfl, rfl, rfl, trivial⟩ [] rfl ?_ ?_
 ·rintro ⟨⟩ ⟨⟩
  unfold onlyRet
  refine TC.block (NoEx.loop rfl NoEx.body) <| TC.seq <| TC.region <| TL.mv (.int .i64 0) <| TL.mv (.int .i64 0) <| TL.bn .i64 0 0 (.int .i64 0) ?_
  refine TL.as (.int .i64 0) <| TL.done <| TC.seq <| TC.seq <| TC.region <| TL.mv (.int .i64 0) ?_
  refine TL.bn .i64 0 12 (.bool true) <| TL.done ?_
  refine TC.cond_true rfl ?_
  refine TC.seq <| TC.region <| TL.mv (SV.v s) <| TL.mv (.int .i64 0) <| TL.mv (.int .i64 0) <| TL.mv (.func (.func 60) #[] #[]) ?_
  refine TL.call (R := unitR) Tryz.call98 rfl rfl rfl (fun w hS => ins_nil w s) ?_
  rintro _ _ _ ⟨rfl, rfl⟩
  exact TL.done <| TC.retF (Fin.loop Far.ret (Fin.body (fin0 (.inr rfl) rfl [] rfl ⟨rfl, rfl⟩)))
 rintro ⟨⟩ ⟨⟩
 exact TC.nilF (Fin.body (fin0 (.inl rfl) rfl [] rfl ⟨rfl, rfl⟩))
theorem sort_nil0 (w : World) (s : SV) (h : Reads Epart (hp w) s []) : ∀ r, ((some (0 : Int)).bind fun _ => pdqM.bind fun _ => some ()) = some r → Calls Tryz.prog 59 #[SV.v s, .func (.func 60) #[] #[]] w (Ret w (unitR r)) := by
 refine calls_T (n := 14) (Γ := [(0, SV.v s), (1, .func (.func 60) #[] #[])]) (R := unitR) Tryz.func59 rfl rfl (Nat.le_of_ble_eq_true rfl) ⟨rfl, rfl, trivial⟩ ?_
 refine TC.seq <| TC.region <| TL.mv (SV.v s) <| TL.len (Rd.old h) Tryz.underlying25 rfl rfl rfl <| TL.as (.int .i64 0) <| TL.done ?_
 refine TC.region <| TL.mv (SV.v s) <| TL.mv (.int .i64 0) <| TL.mv (.int .i64 0) <| TL.conv .i64 .u64 0 _ rfl rfl rfl Tryz.underlying3 Tryz.underlying127 (v := .int .u64 0) rfl ?_
 refine TL.call (R := fun (r : Int) (v : Value) (L : List Asn) => v = .int .i64 r ∧ L = []) Tryz.call79 rfl rfl rfl (fun w hS r hr => ?_) ?_
 ·obtain rfl := Option.some.inj hr
  refine (Any.bits_Len bitsLen2 0 w (by decide) (by decide)).mono ?_
  rintro e W' ⟨rfl, rfl⟩
  exact ret_below (Below.refl _ _) ⟨rfl, rfl⟩
 rintro k _ _ ⟨rfl, rfl⟩
 refine TL.mv (.func (.func 60) #[] #[]) ?_
 refine TL.call (R := unitR) Tryz.call78 rfl rfl rfl (fun w hS => pdq_nil w s k) ?_
 rintro _ _ _ ⟨rfl, rfl⟩
 refine TL.done ?_
 exact TC.nilF (Fin.body (fin0 (.inl rfl) rfl [] rfl ⟨rfl, rfl⟩))
theorem sort_nil (w : World) (s : SV) (h : Reads Epart (hp w) s []) : Calls Tryz.prog 59 #[SV.v s, .func (.func 60) #[] #[]] w (Ret w (unitR ())) := by
 refine sort_nil0 w s h () ?_
 have : pdqM = some () := loop_onlyRet
 rw [this]; rfl
open Go Go.Sx Go.Proofs
def sortR (so : SV) (ss : List PV) (c : List PC) (v : Value) (L : List Asn) : Prop :=
  v = .tuple #[] ∧ ∃ zs : List (PV × PC), zs.Perm (ss.zip c) ∧ (zs.map (·.2)).Pairwise (fun a b => ¬ ordP b a < 0) ∧ L = [row Epart 44 so (zs.map (·.1)), prows 2 (zs.map (·.1)) (zs.map (·.2))]
theorem sort_any {w0 : World} {I : Hp} {w : World} {so : SV} {ss : List PV} {c : List PC} (hsz : ss.length < 1099511627777) (hlen : ss.length = c.length) (hS : St w0 I [row Epart 44 so ss, prows 2 ss c] w) :
  Calls Tryz.prog 59 #[SV.v so, .func (.func 60) #[] #[]] w (RetM w0 I (sortR so ss c)) := by
 by_cases hn : ss = []
 ·subst hn
  obtain rfl : c = [] := List.length_eq_zero_iff.1 hlen.symm
  refine (sort_nil w so ((Rd.row 0 rfl) w hS)).mono ?_
  rintro e w' ⟨v, L', rfl, ⟨rfl, rfl⟩, hS'⟩
  exact ⟨_, _, rfl, ⟨rfl, [], .refl _, List.Pairwise.nil, rfl⟩, hS.call hS'⟩
 refine (sort_st hn hsz hS).mono ?_
 rintro e w' ⟨v, L', rfl, ⟨rfl, zs, h1, h2, rfl⟩, hS'⟩
 exact ⟨_, _, rfl, ⟨rfl, zs, h1, h2, rfl⟩, hS'⟩
end Go.Proofs.YtpejnjpckacciaaGreatDoor.G
namespace Go.Sx
section
variable {P : Program} {w0 : World} {n : Nat} {I : Hp} {Γ : Gm} {L : List Asn} {cs : List Code} {α : Type} {m : Option α} {D : α → Post}
theorem TC.prowsPerm {T : TypeId} {ss : List PV} {c : List PC} {zs zs' : List (PV × PC)} (i : Nat) (hi : L[i]? = some (prows T ss c)) (h1 : ss = zs.map (·.1)) (h2 : c = zs.map (·.2)) (hp : zs.Perm zs')
  (k : TC P w0 n I Γ (L.set i (prows T (zs'.map (·.1)) (zs'.map (·.2)))) cs m D) : TC P w0 n I Γ L cs m D :=
 fun a w hF hS o ho => k a w hF (St.prowsPerm i hi h1 h2 hp (Go.Proofs.YtpejnjpckacciaaGreatDoor.G.prows_perm hp) hS) o ho
end
end Go.Sx
