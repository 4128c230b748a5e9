/- Functions of the program, as pure functions. -/
import Derived.Test.YtpejnjpckacciaaGreatDoorMFnCobordisms7
import Derived.Test.YtpejnjpckacciaaGreatDoorProg
set_option linter.unusedVariables false
set_option maxRecDepth 100000
set_option maxHeartbeats 4000000
namespace Go.Proofs.YtpejnjpckacciaaGreatDoor.G
open Go Go.Sx Go.Proofs
def laws_parts9.b0 (a_1 : List (Int × (List Int) × (List Int))) (b_1 : List (Int × (List Int) × (List Int))) : Int → Option (LR Int Bool) := fun i1 => (bif (decide (i1 < (a_1.length : Int))) then chk i1 a_1.length (chk i1 b_1.length ((bif ((gt a_1 i1).1 != (gt b_1 i1).1) then some (.ret (false)) else (G.laws_likeInts.f ((gt a_1 i1).2.1) ((gt b_1 i1).2.1)).bind (fun r_1 => (bif (!r_1) then some (.ret (false)) else (G.laws_likeInts.f ((gt a_1 i1).2.2) ((gt b_1 i1).2.2)).bind (fun r_4 => (bif (!r_4) then some (.ret (false)) else some (.next (w64 (i1 + 1)))))))))) else some (.brk i1))
def laws_parts9.f (a_1 : List (Int × (List Int) × (List Int))) (b_1 : List (Int × (List Int) × (List Int))) : Option Bool := (bif ((a_1.length : Int) != (b_1.length : Int)) then some false else (loop (laws_parts9.b0 a_1 b_1) 0).bind (ln (fun i1 => some true)))
def laws_parts9.R (r : Bool) (v : Value) (L : List Asn) : Prop := v = .bool r ∧ L = []
theorem laws_parts9.calls (w : World) (s1 : SV) (ss1 : List (Int × SV × SV)) (a_1 : List (Int × (List Int) × (List Int))) (s2 : SV) (ss2 : List (Int × SV × SV)) (b_1 : List (Int × (List Int) × (List Int))) (h1 : ReadsP (hp w) s1 ss1 a_1) (h2 : ReadsP (hp w) s2 ss2 b_1) :
  ∀ r, laws_parts9.f a_1 b_1 = some r → Calls Tryz.prog 8 #[SV.v s1, SV.v s2] w (Ret w (laws_parts9.R r)) := by
 refine calls_T (n := 56) (Γ := [(0, SV.v s1), (1, SV.v s2)]) (R := laws_parts9.R) Tryz.func8 rfl rfl (Nat.le_of_ble_eq_true rfl) ⟨rfl, rfl, trivial⟩ ?_
 unfold laws_parts9.f
 refine TC.seq <| TC.region <| TL.as (.bool false) <| TL.done <| TC.seq <| TC.seq ?_
 refine TC.region <| TL.mv (SV.v s1) <| TL.lenP (RdP.old h1) Tryz.underlying25 rfl rfl rfl <| TL.mv (SV.v s2) <| TL.lenP (RdP.old h2) Tryz.underlying25 rfl rfl rfl <| TL.bn .i64 (a_1.length : Int) (b_1.length : Int) (.bool ((a_1.length : Int) != (b_1.length : Int))) ?_
 refine TL.done ?_
 refine TC.cond (b := ((a_1.length : Int) != (b_1.length : Int))) rfl (fun c1 => ?_) (fun c2 => ?_)
 ·exact TC.seq <| TC.region <| TL.as (.bool false) <| TL.done <| TC.retF (Fin.body (fin1 (.inr rfl) rfl (.tmp rfl) [] rfl ⟨rfl, rfl⟩))
 refine TC.skip <| TC.seq <| TC.seq <| TC.region <| TL.as (.int .i64 0) <| TL.done ?_
 refine TC.loopK (σ := Int) (γ := Unit) (Γ' := (fun i1 _ => [(0, SV.v s1), (1, SV.v s2), (5, .int .i64 i1)])) (L' := (fun i1 _ => [])) (Γb := (fun i1 _ => [(0, SV.v s1), (1, SV.v s2), (5, .int .i64 i1)])) (Lb := (fun i1 _ => [])) (0) (()) ⟨rfl, rfl, rfl, trivial⟩ [] rfl ?_ ?_
 ·rintro i1 _
  refine TC.seq <| TC.seq <| TC.region <| TL.mv (.int .i64 i1) <| TL.mv (SV.v s1) <| TL.lenP (RdP.old h1) Tryz.underlying25 rfl rfl rfl ?_
  refine TL.bn .i64 i1 (a_1.length : Int) (.bool (decide (i1 < (a_1.length : Int)))) <| TL.done ?_
  refine TC.cond (b := (decide (i1 < (a_1.length : Int)))) rfl (fun c3 => ?_) (fun c4 => ?_)
  ·refine TC.skip <| TC.seq <| TC.block (NoEx.loop rfl NoEx.body) <| TC.seq ?_
   refine TC.chk fun h3 => ?_
   refine TC.chk fun h4 => ?_
   refine TC.ifB ((gt a_1 i1).1 != (gt b_1 i1).1) (fun c5 => ?_) (fun c5 => ?_)
   ·refine TC.wk (Γ' := [(0, SV.v s1), (1, SV.v s2), (5, .int .i64 i1), (11, .int .i64 i1), (12, SV.v s1), (13, .int .i64 (a_1.length : Int)), (14, .bool (decide (i1 < (a_1.length : Int))))]) ⟨rfl, rfl, rfl, rfl, rfl, rfl, rfl, trivial⟩ ?_
    refine TC.drawG [(0, SV.v s1), (1, SV.v s2), (5, .int .i64 i1), (11, .int .i64 i1), (12, SV.v s1), (13, .int .i64 (a_1.length : Int)), (14, .bool (decide (i1 < (a_1.length : Int))))] [] ⟨rfl, rfl, rfl, rfl, rfl, rfl, rfl, trivial⟩ trivial (fun l_ g2 => []) (fun g2 => [SV.v s1, .int .i64 i1, ep s1 (i1.toNat * 3), ep s1 (i1.toNat * 3), .int .i64 ((gt a_1 i1).1), SV.v s2, .int .i64 i1, ep s2 (i1.toNat * 3), ep s2 (i1.toNat * 3), .int .i64 ((gt b_1 i1).1), .bool true, .bool true, undef, undef, undef, undef, undef, undef, undef, undef, undef, undef, undef, undef, .bool true, .bool true, undef, undef, undef, undef, undef, undef, undef, undef, undef, undef, undef, undef, .bool true]) [[], [], [0, 1], [0, 1, 2], [0, 1, 2, 3], [], [], [5, 6], [5, 6, 7], [5, 6, 7, 8], [0, 1, 2, 3, 4, 5, 6, 7, 8, 9], [0, 1, 2, 3, 4, 5, 6, 7, 8, 9, 10], [0, 1, 2, 3, 4, 5, 6, 7, 8, 9, 10, 11], [0, 1, 2, 3, 4, 5, 6, 7, 8, 9, 10, 11], [0, 1, 2, 3, 4, 5, 6, 7, 8, 9, 10, 11, 12, 13], [0, 1, 2, 3, 4, 5, 6, 7, 8, 9, 10, 11, 12, 13, 14], [0, 1, 2, 3, 4, 5, 6, 7, 8, 9, 10, 11, 12, 13, 14, 15], [0, 1, 2, 3, 4, 5, 6, 7, 8, 9, 10, 11], [0, 1, 2, 3, 4, 5, 6, 7, 8, 9, 10, 11], [0, 1, 2, 3, 4, 5, 6, 7, 8, 9, 10, 11, 17, 18], [0, 1, 2, 3, 4, 5, 6, 7, 8, 9, 10, 11, 17, 18, 19], [0, 1, 2, 3, 4, 5, 6, 7, 8, 9, 10, 11, 17, 18, 19, 20], [0, 1, 2, 3, 4, 5, 6, 7, 8, 9, 10, 11, 12, 13, 14, 15, 16, 17, 18, 19, 20, 21], [0, 1, 2, 3, 4, 5, 6, 7, 8, 9, 10, 11, 12, 13, 14, 15, 16, 17, 18, 19, 20, 21, 22], [0, 1, 2, 3, 4, 5, 6, 7, 8, 9, 10, 11, 12, 13, 14, 15, 16, 17, 18, 19, 20, 21, 22, 23], [0, 1, 2, 3, 4, 5, 6, 7, 8, 9, 10, 11, 12, 13, 14, 15, 16, 17, 18, 19, 20, 21, 22, 23, 24], [0, 1, 2, 3, 4, 5, 6, 7, 8, 9, 10, 11, 12, 13, 14, 15, 16, 17, 18, 19, 20, 21, 22, 23, 24, 25], [0, 1, 2, 3, 4, 5, 6, 7, 8, 9, 10, 11, 12, 13, 14, 15, 16, 17, 18, 19, 20, 21, 22, 23, 24, 25], [0, 1, 2, 3, 4, 5, 6, 7, 8, 9, 10, 11, 12, 13, 14, 15, 16, 17, 18, 19, 20, 21, 22, 23, 24, 25, 26, 27], [0, 1, 2, 3, 4, 5, 6, 7, 8, 9, 10, 11, 12, 13, 14, 15, 16, 17, 18, 19, 20, 21, 22, 23, 24, 25, 26, 27, 28], [0, 1, 2, 3, 4, 5, 6, 7, 8, 9, 10, 11, 12, 13, 14, 15, 16, 17, 18, 19, 20, 21, 22, 23, 24, 25, 26, 27, 28, 29], [0, 1, 2, 3, 4, 5, 6, 7, 8, 9, 10, 11, 12, 13, 14, 15, 16, 17, 18, 19, 20, 21, 22, 23, 24, 25], [0, 1, 2, 3, 4, 5, 6, 7, 8, 9, 10, 11, 12, 13, 14, 15, 16, 17, 18, 19, 20, 21, 22, 23, 24, 25], [0, 1, 2, 3, 4, 5, 6, 7, 8, 9, 10, 11, 12, 13, 14, 15, 16, 17, 18, 19, 20, 21, 22, 23, 24, 25, 31, 32], [0, 1, 2, 3, 4, 5, 6, 7, 8, 9, 10, 11, 12, 13, 14, 15, 16, 17, 18, 19, 20, 21, 22, 23, 24, 25, 31, 32, 33], [0, 1, 2, 3, 4, 5, 6, 7, 8, 9, 10, 11, 12, 13, 14, 15, 16, 17, 18, 19, 20, 21, 22, 23, 24, 25, 31, 32, 33, 34], [0, 1, 2, 3, 4, 5, 6, 7, 8, 9, 10, 11, 12, 13, 14, 15, 16, 17, 18, 19, 20, 21, 22, 23, 24, 25, 26, 27, 28, 29, 30, 31, 32, 33, 34, 35], [0, 1, 2, 3, 4, 5, 6, 7, 8, 9, 10, 11, 12, 13, 14, 15, 16, 17, 18, 19, 20, 21, 22, 23, 24, 25, 26, 27, 28, 29, 30, 31, 32, 33, 34, 35, 36], [0, 1, 2, 3, 4, 5, 6, 7, 8, 9, 10, 11, 12, 13, 14, 15, 16, 17, 18, 19, 20, 21, 22, 23, 24, 25, 26, 27, 28, 29, 30, 31, 32, 33, 34, 35, 36, 37]] [[oF, none, oF, oF, oF, none, none, none, none, none, oF, oF, oF, oF, oF, oF, oF, oF, oF, oF, oF, oF, oF, oF, oF, oF, oF, oF, oF, oF, oF, oF, oF, oF, oF, oF, oF, oF, oF], [none, oF, oF, oF, oF, none, none, none, none, none, oF, oF, oF, oF, oF, oF, oF, oF, oF, oF, oF, oF, oF, oF, oF, oF, oF, oF, oF, oF, oF, oF, oF, oF, oF, oF, oF, oF, oF], [oT, oT, oF, oF, oF, none, none, none, none, none, oF, oF, oF, oF, oF, oF, oF, oF, oF, oF, oF, oF, oF, oF, oF, oF, oF, oF, oF, oF, oF, oF, oF, oF, oF, oF, oF, oF, oF], [oT, oT, oT, oF, oF, none, none, none, none, none, oF, oF, oF, oF, oF, oF, oF, oF, oF, oF, oF, oF, oF, oF, oF, oF, oF, oF, oF, oF, oF, oF, oF, oF, oF, oF, oF, oF, oF], [oT, oT, oT, oT, oF, none, none, none, none, none, oF, oF, oF, oF, oF, oF, oF, oF, oF, oF, oF, oF, oF, oF, oF, oF, oF, oF, oF, oF, oF, oF, oF, oF, oF, oF, oF, oF, oF], [none, none, none, none, none, oF, none, oF, oF, oF, oF, oF, oF, oF, oF, oF, oF, oF, oF, oF, oF, oF, oF, oF, oF, oF, oF, oF, oF, oF, oF, oF, oF, oF, oF, oF, oF, oF, oF], [none, none, none, none, none, none, oF, oF, oF, oF, oF, oF, oF, oF, oF, oF, oF, oF, oF, oF, oF, oF, oF, oF, oF, oF, oF, oF, oF, oF, oF, oF, oF, oF, oF, oF, oF, oF, oF], [none, none, none, none, none, oT, oT, oF, oF, oF, oF, oF, oF, oF, oF, oF, oF, oF, oF, oF, oF, oF, oF, oF, oF, oF, oF, oF, oF, oF, oF, oF, oF, oF, oF, oF, oF, oF, oF], [none, none, none, none, none, oT, oT, oT, oF, oF, oF, oF, oF, oF, oF, oF, oF, oF, oF, oF, oF, oF, oF, oF, oF, oF, oF, oF, oF, oF, oF, oF, oF, oF, oF, oF, oF, oF, oF], [none, none, none, none, none, oT, oT, oT, oT, oF, oF, oF, oF, oF, oF, oF, oF, oF, oF, oF, oF, oF, oF, oF, oF, oF, oF, oF, oF, oF, oF, oF, oF, oF, oF, oF, oF, oF, oF], [oT, oT, oT, oT, oT, oT, oT, oT, oT, oT, oF, oF, oF, oF, oF, oF, oF, oF, oF, oF, oF, oF, oF, oF, oF, oF, oF, oF, oF, oF, oF, oF, oF, oF, oF, oF, oF, oF, oF], [oT, oT, oT, oT, oT, oT, oT, oT, oT, oT, oT, oF, oF, oF, oF, oF, oF, oF, oF, oF, oF, oF, oF, oF, oF, oF, oF, oF, oF, oF, oF, oF, oF, oF, oF, oF, oF, oF, oF], [oT, oT, oT, oT, oT, oT, oT, oT, oT, oT, oT, oT, oF, none, oF, oF, oF, none, none, none, none, none, oF, oF, oF, oF, oF, oF, oF, oF, oF, oF, oF, oF, oF, oF, oF, oF, oF], [oT, oT, oT, oT, oT, oT, oT, oT, oT, oT, oT, oT, none, oF, oF, oF, oF, none, none, none, none, none, oF, oF, oF, oF, oF, oF, oF, oF, oF, oF, oF, oF, oF, oF, oF, oF, oF], [oT, oT, oT, oT, oT, oT, oT, oT, oT, oT, oT, oT, oT, oT, oF, oF, oF, none, none, none, none, none, oF, oF, oF, oF, oF, oF, oF, oF, oF, oF, oF, oF, oF, oF, oF, oF, oF], [oT, oT, oT, oT, oT, oT, oT, oT, oT, oT, oT, oT, oT, oT, oT, oF, oF, none, none, none, none, none, oF, oF, oF, oF, oF, oF, oF, oF, oF, oF, oF, oF, oF, oF, oF, oF, oF], [oT, oT, oT, oT, oT, oT, oT, oT, oT, oT, oT, oT, oT, oT, oT, oT, oF, none, none, none, none, none, oF, oF, oF, oF, oF, oF, oF, oF, oF, oF, oF, oF, oF, oF, oF, oF, oF], [oT, oT, oT, oT, oT, oT, oT, oT, oT, oT, oT, oT, none, none, none, none, none, oF, none, oF, oF, oF, oF, oF, oF, oF, oF, oF, oF, oF, oF, oF, oF, oF, oF, oF, oF, oF, oF], [oT, oT, oT, oT, oT, oT, oT, oT, oT, oT, oT, oT, none, none, none, none, none, none, oF, oF, oF, oF, oF, oF, oF, oF, oF, oF, oF, oF, oF, oF, oF, oF, oF, oF, oF, oF, oF], [oT, oT, oT, oT, oT, oT, oT, oT, oT, oT, oT, oT, none, none, none, none, none, oT, oT, oF, oF, oF, oF, oF, oF, oF, oF, oF, oF, oF, oF, oF, oF, oF, oF, oF, oF, oF, oF], [oT, oT, oT, oT, oT, oT, oT, oT, oT, oT, oT, oT, none, none, none, none, none, oT, oT, oT, oF, oF, oF, oF, oF, oF, oF, oF, oF, oF, oF, oF, oF, oF, oF, oF, oF, oF, oF], [oT, oT, oT, oT, oT, oT, oT, oT, oT, oT, oT, oT, none, none, none, none, none, oT, oT, oT, oT, oF, oF, oF, oF, oF, oF, oF, oF, oF, oF, oF, oF, oF, oF, oF, oF, oF, oF], [oT, oT, oT, oT, oT, oT, oT, oT, oT, oT, oT, oT, oT, oT, oT, oT, oT, oT, oT, oT, oT, oT, oF, oF, oF, oF, oF, oF, oF, oF, oF, oF, oF, oF, oF, oF, oF, oF, oF], [oT, oT, oT, oT, oT, oT, oT, oT, oT, oT, oT, oT, oT, oT, oT, oT, oT, oT, oT, oT, oT, oT, oT, oF, oF, oF, oF, oF, oF, oF, oF, oF, oF, oF, oF, oF, oF, oF, oF], [oT, oT, oT, oT, oT, oT, oT, oT, oT, oT, oT, oT, oT, oT, oT, oT, oT, oT, oT, oT, oT, oT, oT, oT, oF, oF, oF, oF, oF, oF, oF, oF, oF, oF, oF, oF, oF, oF, oF], [oT, oT, oT, oT, oT, oT, oT, oT, oT, oT, oT, oT, oT, oT, oT, oT, oT, oT, oT, oT, oT, oT, oT, oT, oT, oF, oF, oF, oF, oF, oF, oF, oF, oF, oF, oF, oF, oF, oF], [oT, oT, oT, oT, oT, oT, oT, oT, oT, oT, oT, oT, oT, oT, oT, oT, oT, oT, oT, oT, oT, oT, oT, oT, oT, oT, oF, none, oF, oF, oF, none, none, none, none, none, oF, oF, oF], [oT, oT, oT, oT, oT, oT, oT, oT, oT, oT, oT, oT, oT, oT, oT, oT, oT, oT, oT, oT, oT, oT, oT, oT, oT, oT, none, oF, oF, oF, oF, none, none, none, none, none, oF, oF, oF], [oT, oT, oT, oT, oT, oT, oT, oT, oT, oT, oT, oT, oT, oT, oT, oT, oT, oT, oT, oT, oT, oT, oT, oT, oT, oT, oT, oT, oF, oF, oF, none, none, none, none, none, oF, oF, oF], [oT, oT, oT, oT, oT, oT, oT, oT, oT, oT, oT, oT, oT, oT, oT, oT, oT, oT, oT, oT, oT, oT, oT, oT, oT, oT, oT, oT, oT, oF, oF, none, none, none, none, none, oF, oF, oF], [oT, oT, oT, oT, oT, oT, oT, oT, oT, oT, oT, oT, oT, oT, oT, oT, oT, oT, oT, oT, oT, oT, oT, oT, oT, oT, oT, oT, oT, oT, oF, none, none, none, none, none, oF, oF, oF], [oT, oT, oT, oT, oT, oT, oT, oT, oT, oT, oT, oT, oT, oT, oT, oT, oT, oT, oT, oT, oT, oT, oT, oT, oT, oT, none, none, none, none, none, oF, none, oF, oF, oF, oF, oF, oF], [oT, oT, oT, oT, oT, oT, oT, oT, oT, oT, oT, oT, oT, oT, oT, oT, oT, oT, oT, oT, oT, oT, oT, oT, oT, oT, none, none, none, none, none, none, oF, oF, oF, oF, oF, oF, oF], [oT, oT, oT, oT, oT, oT, oT, oT, oT, oT, oT, oT, oT, oT, oT, oT, oT, oT, oT, oT, oT, oT, oT, oT, oT, oT, none, none, none, none, none, oT, oT, oF, oF, oF, oF, oF, oF], [oT, oT, oT, oT, oT, oT, oT, oT, oT, oT, oT, oT, oT, oT, oT, oT, oT, oT, oT, oT, oT, oT, oT, oT, oT, oT, none, none, none, none, none, oT, oT, oT, oF, oF, oF, oF, oF], [oT, oT, oT, oT, oT, oT, oT, oT, oT, oT, oT, oT, oT, oT, oT, oT, oT, oT, oT, oT, oT, oT, oT, oT, oT, oT, none, none, none, none, none, oT, oT, oT, oT, oF, oF, oF, oF], [oT, oT, oT, oT, oT, oT, oT, oT, oT, oT, oT, oT, oT, oT, oT, oT, oT, oT, oT, oT, oT, oT, oT, oT, oT, oT, oT, oT, oT, oT, oT, oT, oT, oT, oT, oT, oF, oF, oF], [oT, oT, oT, oT, oT, oT, oT, oT, oT, oT, oT, oT, oT, oT, oT, oT, oT, oT, oT, oT, oT, oT, oT, oT, oT, oT, oT, oT, oT, oT, oT, oT, oT, oT, oT, oT, oT, oF, oF], [oT, oT, oT, oT, oT, oT, oT, oT, oT, oT, oT, oT, oT, oT, oT, oT, oT, oT, oT, oT, oT, oT, oT, oT, oT, oT, oT, oT, oT, oT, oT, oT, oT, oT, oT, oT, oT, oT, oF]] (by kernel_rfl) (fun _ => rfl) rfl rfl rfl rfl rfl (fun _ _ => ⟨⟨⟨⟨⟨⟨⟨⟨⟨⟨⟨⟨⟨⟨⟨⟨⟨⟨⟨⟨⟨⟨⟨⟨⟨⟨⟨⟨⟨⟨⟨⟨⟨⟨⟨⟨⟨⟨⟨trivial, rfl⟩, rfl⟩, rfl⟩, rfl⟩, rfl⟩, rfl⟩, rfl⟩, rfl⟩, rfl⟩, rfl⟩, rfl⟩, rfl⟩, rfl⟩, rfl⟩, rfl⟩, rfl⟩, rfl⟩, rfl⟩, rfl⟩, rfl⟩, rfl⟩, rfl⟩, rfl⟩, rfl⟩, rfl⟩, rfl⟩, rfl⟩, rfl⟩, rfl⟩, rfl⟩, rfl⟩, rfl⟩, rfl⟩, rfl⟩, rfl⟩, rfl⟩, rfl⟩, rfl⟩, rfl⟩) 0 [] (fun _ => by kernel_rfl) ?_ ?_
    ·refine ⟨rfl, ?_, rfl, ?_, rfl, ?_, rfl, ?_, rfl, ?_, rfl, ?_, rfl, ?_, rfl, ?_, rfl, ?_, rfl, ?_, rfl, ?_, rfl, ?_, rfl, ?_, rfl, ?_, rfl, ?_, rfl, ?_, rfl, ?_, rfl, ?_, rfl, ?_, rfl, ?_, rfl, ?_, rfl, ?_, rfl, ?_, rfl, ?_, rfl, ?_, rfl, ?_, rfl, ?_, rfl, ?_, rfl, ?_, rfl, ?_, rfl, ?_, rfl, ?_, rfl, ?_, rfl, ?_, rfl, ?_, rfl, ?_, rfl, ?_, rfl, ?_, rfl, ?_, trivial⟩
     ·intro b1_ b5_ b6_ b7_ b8_ b9_ g2
      exact TL.mv (SV.v s1) <| TL.done <| TC.n1 []
     ·intro b0_ b5_ b6_ b7_ b8_ b9_ g2
      exact TL.mv (.int .i64 i1) <| TL.done <| TC.n1 []
     ·intro b5_ b6_ b7_ b8_ b9_ g2
      exact TL.ll [] <| TL.ixsP i1 (i1.toNat * 3) (RdP.old h1) h3 Tryz.underlying25 Tryz.sizeOf44 rfl rfl rfl rfl (by omega) <| TL.done <| TC.n1 []
     ·intro b5_ b6_ b7_ b8_ b9_ g2
      exact TL.ll [] <| TL.faeP (RdP.old h1) (by have := h3; omega) Tryz.underlying44 rfl Tryz.sizeOf2 rfl (i1.toNat * 3) (by first | rfl | omega | exact Nat.add_comm _ 0) rfl rfl rfl <| TL.done <| TC.n1 []
     ·intro b5_ b6_ b7_ b8_ b9_ g2
      exact TL.ll [] <| TL.loadP0 (RdP.old h1) Tryz.isAgg2 i1 h3 (by omega) rfl rfl rfl <| TL.done <| TC.n1 []
     ·intro b0_ b1_ b2_ b3_ b4_ b6_ g2
      exact TL.mv (SV.v s2) <| TL.done <| TC.n1 []
     ·intro b0_ b1_ b2_ b3_ b4_ b5_ g2
      exact TL.mv (.int .i64 i1) <| TL.done <| TC.n1 []
     ·intro b0_ b1_ b2_ b3_ b4_ g2
      exact TL.ll [] <| TL.ixsP i1 (i1.toNat * 3) (RdP.old h2) h4 Tryz.underlying25 Tryz.sizeOf44 rfl rfl rfl rfl (by omega) <| TL.done <| TC.n1 []
     ·intro b0_ b1_ b2_ b3_ b4_ g2
      exact TL.ll [] <| TL.faeP (RdP.old h2) (by have := h4; omega) Tryz.underlying44 rfl Tryz.sizeOf2 rfl (i1.toNat * 3) (by first | rfl | omega | exact Nat.add_comm _ 0) rfl rfl rfl <| TL.done <| TC.n1 []
     ·intro b0_ b1_ b2_ b3_ b4_ g2
      exact TL.ll [] <| TL.loadP0 (RdP.old h2) Tryz.isAgg2 i1 h4 (by omega) rfl rfl rfl <| TL.done <| TC.n1 []
     ·intro g2
      exact TL.bn .i64 ((gt a_1 i1).1) ((gt b_1 i1).1) (.bool ((gt a_1 i1).1 != (gt b_1 i1).1)) <| TL.done <| TC.nrm () [] ⟨(by rw [c5]; rfl), trivial⟩ [] (by kernel_rfl)
     ·intro g2
      exact TL.mv (.bool true) <| TL.done <| TC.n1 []
     ·intro b13_ b17_ b18_ b19_ b20_ b21_ g2
      exact TL.sk <| TL.done <| TC.n1 []
     ·intro b12_ b17_ b18_ b19_ b20_ b21_ g2
      exact TL.sk <| TL.done <| TC.n1 []
     ·intro b17_ b18_ b19_ b20_ b21_ g2
      exact TL.ll [] <| TL.sk <| TL.done <| TC.n1 []
     ·intro b17_ b18_ b19_ b20_ b21_ g2
      exact TL.ll [] <| TL.sk <| TL.done <| TC.n1 []
     ·intro b17_ b18_ b19_ b20_ b21_ g2
      exact TL.ll [] <| TL.sk <| TL.done <| TC.n1 []
     ·intro b12_ b13_ b14_ b15_ b16_ b18_ g2
      exact TL.sk <| TL.done <| TC.n1 []
     ·intro b12_ b13_ b14_ b15_ b16_ b17_ g2
      exact TL.sk <| TL.done <| TC.n1 []
     ·intro b12_ b13_ b14_ b15_ b16_ g2
      exact TL.ll [] <| TL.sk <| TL.done <| TC.n1 []
     ·intro b12_ b13_ b14_ b15_ b16_ g2
      exact TL.ll [] <| TL.sk <| TL.done <| TC.n1 []
     ·intro b12_ b13_ b14_ b15_ b16_ g2
      exact TL.ll [] <| TL.sk <| TL.done <| TC.n1 []
     ·intro g2
      exact TL.ll [] <| TL.sk <| TL.done <| TC.n1 []
     ·intro g2
      exact TL.sk <| TL.done <| TC.n1 []
     ·intro g2
      exact TL.pk true (.bool true) <| TL.done <| TC.n1 []
     ·intro g2
      exact TL.mv (.bool true) <| TL.done <| TC.n1 []
     ·intro b27_ b31_ b32_ b33_ b34_ b35_ g2
      exact TL.sk <| TL.done <| TC.n1 []
     ·intro b26_ b31_ b32_ b33_ b34_ b35_ g2
      exact TL.sk <| TL.done <| TC.n1 []
     ·intro b31_ b32_ b33_ b34_ b35_ g2
      exact TL.ll [] <| TL.sk <| TL.done <| TC.n1 []
     ·intro b31_ b32_ b33_ b34_ b35_ g2
      exact TL.ll [] <| TL.sk <| TL.done <| TC.n1 []
     ·intro b31_ b32_ b33_ b34_ b35_ g2
      exact TL.ll [] <| TL.sk <| TL.done <| TC.n1 []
     ·intro b26_ b27_ b28_ b29_ b30_ b32_ g2
      exact TL.sk <| TL.done <| TC.n1 []
     ·intro b26_ b27_ b28_ b29_ b30_ b31_ g2
      exact TL.sk <| TL.done <| TC.n1 []
     ·intro b26_ b27_ b28_ b29_ b30_ g2
      exact TL.ll [] <| TL.sk <| TL.done <| TC.n1 []
     ·intro b26_ b27_ b28_ b29_ b30_ g2
      exact TL.ll [] <| TL.sk <| TL.done <| TC.n1 []
     ·intro b26_ b27_ b28_ b29_ b30_ g2
      exact TL.ll [] <| TL.sk <| TL.done <| TC.n1 []
     ·intro g2
      exact TL.ll [] <| TL.sk <| TL.done <| TC.n1 []
     ·intro g2
      exact TL.sk <| TL.done <| TC.n1 []
     intro g2
     exact TL.pk true (.bool true) <| TL.done <| TC.n1 []
    intro g2
    refine TC.ll [] ?_
    refine TC.cond_true rfl ?_
    exact TC.seq <| TC.region <| TL.as (.bool false) <| TL.done <| TC.retF (Fin.loop Far.ret (Fin.body (fin1 (.inr rfl) rfl (.tmp rfl) [] rfl ⟨rfl, rfl⟩)))
   refine TC.bindE ?_
   rintro r_1 hr1
   refine TC.ifB (!r_1) (fun c6 => ?_) (fun c6 => ?_)
   ·refine TC.wk (Γ' := [(0, SV.v s1), (1, SV.v s2), (5, .int .i64 i1), (11, .int .i64 i1), (12, SV.v s1), (13, .int .i64 (a_1.length : Int)), (14, .bool (decide (i1 < (a_1.length : Int))))]) ⟨rfl, rfl, rfl, rfl, rfl, rfl, rfl, trivial⟩ ?_
    refine TC.drawG [(0, SV.v s1), (1, SV.v s2), (5, .int .i64 i1), (11, .int .i64 i1), (12, SV.v s1), (13, .int .i64 (a_1.length : Int)), (14, .bool (decide (i1 < (a_1.length : Int))))] [] ⟨rfl, rfl, rfl, rfl, rfl, rfl, rfl, trivial⟩ trivial (fun l_ g4 => []) (fun g4 => [SV.v s1, .int .i64 i1, ep s1 (i1.toNat * 3), ep s1 (i1.toNat * 3), .int .i64 ((gt a_1 i1).1), SV.v s2, .int .i64 i1, ep s2 (i1.toNat * 3), ep s2 (i1.toNat * 3), .int .i64 ((gt b_1 i1).1), .bool false, .bool false, SV.v s1, .int .i64 i1, ep s1 (i1.toNat * 3), ep s1 (1 + i1.toNat * 3), SV.v ((gt ss1 i1).2.1), SV.v s2, .int .i64 i1, ep s2 (i1.toNat * 3), ep s2 (1 + i1.toNat * 3), SV.v ((gt ss2 i1).2.1), .bool r_1, .bool true, .bool true, .bool true, undef, undef, undef, undef, undef, undef, undef, undef, undef, undef, undef, undef, .bool true]) [[], [], [0, 1], [0, 1, 2], [0, 1, 2, 3], [], [], [5, 6], [5, 6, 7], [5, 6, 7, 8], [0, 1, 2, 3, 4, 5, 6, 7, 8, 9], [0, 1, 2, 3, 4, 5, 6, 7, 8, 9, 10], [0, 1, 2, 3, 4, 5, 6, 7, 8, 9, 10, 11], [0, 1, 2, 3, 4, 5, 6, 7, 8, 9, 10, 11], [0, 1, 2, 3, 4, 5, 6, 7, 8, 9, 10, 11, 12, 13], [0, 1, 2, 3, 4, 5, 6, 7, 8, 9, 10, 11, 12, 13, 14], [0, 1, 2, 3, 4, 5, 6, 7, 8, 9, 10, 11, 12, 13, 14, 15], [0, 1, 2, 3, 4, 5, 6, 7, 8, 9, 10, 11], [0, 1, 2, 3, 4, 5, 6, 7, 8, 9, 10, 11], [0, 1, 2, 3, 4, 5, 6, 7, 8, 9, 10, 11, 17, 18], [0, 1, 2, 3, 4, 5, 6, 7, 8, 9, 10, 11, 17, 18, 19], [0, 1, 2, 3, 4, 5, 6, 7, 8, 9, 10, 11, 17, 18, 19, 20], [0, 1, 2, 3, 4, 5, 6, 7, 8, 9, 10, 11, 12, 13, 14, 15, 16, 17, 18, 19, 20, 21], [0, 1, 2, 3, 4, 5, 6, 7, 8, 9, 10, 11, 12, 13, 14, 15, 16, 17, 18, 19, 20, 21, 22], [0, 1, 2, 3, 4, 5, 6, 7, 8, 9, 10, 11, 12, 13, 14, 15, 16, 17, 18, 19, 20, 21, 22, 23], [0, 1, 2, 3, 4, 5, 6, 7, 8, 9, 10, 11, 12, 13, 14, 15, 16, 17, 18, 19, 20, 21, 22, 23, 24], [0, 1, 2, 3, 4, 5, 6, 7, 8, 9, 10, 11, 12, 13, 14, 15, 16, 17, 18, 19, 20, 21, 22, 23, 24, 25], [0, 1, 2, 3, 4, 5, 6, 7, 8, 9, 10, 11, 12, 13, 14, 15, 16, 17, 18, 19, 20, 21, 22, 23, 24, 25], [0, 1, 2, 3, 4, 5, 6, 7, 8, 9, 10, 11, 12, 13, 14, 15, 16, 17, 18, 19, 20, 21, 22, 23, 24, 25, 26, 27], [0, 1, 2, 3, 4, 5, 6, 7, 8, 9, 10, 11, 12, 13, 14, 15, 16, 17, 18, 19, 20, 21, 22, 23, 24, 25, 26, 27, 28], [0, 1, 2, 3, 4, 5, 6, 7, 8, 9, 10, 11, 12, 13, 14, 15, 16, 17, 18, 19, 20, 21, 22, 23, 24, 25, 26, 27, 28, 29], [0, 1, 2, 3, 4, 5, 6, 7, 8, 9, 10, 11, 12, 13, 14, 15, 16, 17, 18, 19, 20, 21, 22, 23, 24, 25], [0, 1, 2, 3, 4, 5, 6, 7, 8, 9, 10, 11, 12, 13, 14, 15, 16, 17, 18, 19, 20, 21, 22, 23, 24, 25], [0, 1, 2, 3, 4, 5, 6, 7, 8, 9, 10, 11, 12, 13, 14, 15, 16, 17, 18, 19, 20, 21, 22, 23, 24, 25, 31, 32], [0, 1, 2, 3, 4, 5, 6, 7, 8, 9, 10, 11, 12, 13, 14, 15, 16, 17, 18, 19, 20, 21, 22, 23, 24, 25, 31, 32, 33], [0, 1, 2, 3, 4, 5, 6, 7, 8, 9, 10, 11, 12, 13, 14, 15, 16, 17, 18, 19, 20, 21, 22, 23, 24, 25, 31, 32, 33, 34], [0, 1, 2, 3, 4, 5, 6, 7, 8, 9, 10, 11, 12, 13, 14, 15, 16, 17, 18, 19, 20, 21, 22, 23, 24, 25, 26, 27, 28, 29, 30, 31, 32, 33, 34, 35], [0, 1, 2, 3, 4, 5, 6, 7, 8, 9, 10, 11, 12, 13, 14, 15, 16, 17, 18, 19, 20, 21, 22, 23, 24, 25, 26, 27, 28, 29, 30, 31, 32, 33, 34, 35, 36], [0, 1, 2, 3, 4, 5, 6, 7, 8, 9, 10, 11, 12, 13, 14, 15, 16, 17, 18, 19, 20, 21, 22, 23, 24, 25, 26, 27, 28, 29, 30, 31, 32, 33, 34, 35, 36, 37]] [[oF, none, oF, oF, oF, none, none, none, none, none, oF, oF, oF, oF, oF, oF, oF, oF, oF, oF, oF, oF, oF, oF, oF, oF, oF, oF, oF, oF, oF, oF, oF, oF, oF, oF, oF, oF, oF], [none, oF, oF, oF, oF, none, none, none, none, none, oF, oF, oF, oF, oF, oF, oF, oF, oF, oF, oF, oF, oF, oF, oF, oF, oF, oF, oF, oF, oF, oF, oF, oF, oF, oF, oF, oF, oF], [oT, oT, oF, oF, oF, none, none, none, none, none, oF, oF, oF, oF, oF, oF, oF, oF, oF, oF, oF, oF, oF, oF, oF, oF, oF, oF, oF, oF, oF, oF, oF, oF, oF, oF, oF, oF, oF], [oT, oT, oT, oF, oF, none, none, none, none, none, oF, oF, oF, oF, oF, oF, oF, oF, oF, oF, oF, oF, oF, oF, oF, oF, oF, oF, oF, oF, oF, oF, oF, oF, oF, oF, oF, oF, oF], [oT, oT, oT, oT, oF, none, none, none, none, none, oF, oF, oF, oF, oF, oF, oF, oF, oF, oF, oF, oF, oF, oF, oF, oF, oF, oF, oF, oF, oF, oF, oF, oF, oF, oF, oF, oF, oF], [none, none, none, none, none, oF, none, oF, oF, oF, oF, oF, oF, oF, oF, oF, oF, oF, oF, oF, oF, oF, oF, oF, oF, oF, oF, oF, oF, oF, oF, oF, oF, oF, oF, oF, oF, oF, oF], [none, none, none, none, none, none, oF, oF, oF, oF, oF, oF, oF, oF, oF, oF, oF, oF, oF, oF, oF, oF, oF, oF, oF, oF, oF, oF, oF, oF, oF, oF, oF, oF, oF, oF, oF, oF, oF], [none, none, none, none, none, oT, oT, oF, oF, oF, oF, oF, oF, oF, oF, oF, oF, oF, oF, oF, oF, oF, oF, oF, oF, oF, oF, oF, oF, oF, oF, oF, oF, oF, oF, oF, oF, oF, oF], [none, none, none, none, none, oT, oT, oT, oF, oF, oF, oF, oF, oF, oF, oF, oF, oF, oF, oF, oF, oF, oF, oF, oF, oF, oF, oF, oF, oF, oF, oF, oF, oF, oF, oF, oF, oF, oF], [none, none, none, none, none, oT, oT, oT, oT, oF, oF, oF, oF, oF, oF, oF, oF, oF, oF, oF, oF, oF, oF, oF, oF, oF, oF, oF, oF, oF, oF, oF, oF, oF, oF, oF, oF, oF, oF], [oT, oT, oT, oT, oT, oT, oT, oT, oT, oT, oF, oF, oF, oF, oF, oF, oF, oF, oF, oF, oF, oF, oF, oF, oF, oF, oF, oF, oF, oF, oF, oF, oF, oF, oF, oF, oF, oF, oF], [oT, oT, oT, oT, oT, oT, oT, oT, oT, oT, oT, oF, oF, oF, oF, oF, oF, oF, oF, oF, oF, oF, oF, oF, oF, oF, oF, oF, oF, oF, oF, oF, oF, oF, oF, oF, oF, oF, oF], [oT, oT, oT, oT, oT, oT, oT, oT, oT, oT, oT, oT, oF, none, oF, oF, oF, none, none, none, none, none, oF, oF, oF, oF, oF, oF, oF, oF, oF, oF, oF, oF, oF, oF, oF, oF, oF], [oT, oT, oT, oT, oT, oT, oT, oT, oT, oT, oT, oT, none, oF, oF, oF, oF, none, none, none, none, none, oF, oF, oF, oF, oF, oF, oF, oF, oF, oF, oF, oF, oF, oF, oF, oF, oF], [oT, oT, oT, oT, oT, oT, oT, oT, oT, oT, oT, oT, oT, oT, oF, oF, oF, none, none, none, none, none, oF, oF, oF, oF, oF, oF, oF, oF, oF, oF, oF, oF, oF, oF, oF, oF, oF], [oT, oT, oT, oT, oT, oT, oT, oT, oT, oT, oT, oT, oT, oT, oT, oF, oF, none, none, none, none, none, oF, oF, oF, oF, oF, oF, oF, oF, oF, oF, oF, oF, oF, oF, oF, oF, oF], [oT, oT, oT, oT, oT, oT, oT, oT, oT, oT, oT, oT, oT, oT, oT, oT, oF, none, none, none, none, none, oF, oF, oF, oF, oF, oF, oF, oF, oF, oF, oF, oF, oF, oF, oF, oF, oF], [oT, oT, oT, oT, oT, oT, oT, oT, oT, oT, oT, oT, none, none, none, none, none, oF, none, oF, oF, oF, oF, oF, oF, oF, oF, oF, oF, oF, oF, oF, oF, oF, oF, oF, oF, oF, oF], [oT, oT, oT, oT, oT, oT, oT, oT, oT, oT, oT, oT, none, none, none, none, none, none, oF, oF, oF, oF, oF, oF, oF, oF, oF, oF, oF, oF, oF, oF, oF, oF, oF, oF, oF, oF, oF], [oT, oT, oT, oT, oT, oT, oT, oT, oT, oT, oT, oT, none, none, none, none, none, oT, oT, oF, oF, oF, oF, oF, oF, oF, oF, oF, oF, oF, oF, oF, oF, oF, oF, oF, oF, oF, oF], [oT, oT, oT, oT, oT, oT, oT, oT, oT, oT, oT, oT, none, none, none, none, none, oT, oT, oT, oF, oF, oF, oF, oF, oF, oF, oF, oF, oF, oF, oF, oF, oF, oF, oF, oF, oF, oF], [oT, oT, oT, oT, oT, oT, oT, oT, oT, oT, oT, oT, none, none, none, none, none, oT, oT, oT, oT, oF, oF, oF, oF, oF, oF, oF, oF, oF, oF, oF, oF, oF, oF, oF, oF, oF, oF], [oT, oT, oT, oT, oT, oT, oT, oT, oT, oT, oT, oT, oT, oT, oT, oT, oT, oT, oT, oT, oT, oT, oF, oF, oF, oF, oF, oF, oF, oF, oF, oF, oF, oF, oF, oF, oF, oF, oF], [oT, oT, oT, oT, oT, oT, oT, oT, oT, oT, oT, oT, oT, oT, oT, oT, oT, oT, oT, oT, oT, oT, oT, oF, oF, oF, oF, oF, oF, oF, oF, oF, oF, oF, oF, oF, oF, oF, oF], [oT, oT, oT, oT, oT, oT, oT, oT, oT, oT, oT, oT, oT, oT, oT, oT, oT, oT, oT, oT, oT, oT, oT, oT, oF, oF, oF, oF, oF, oF, oF, oF, oF, oF, oF, oF, oF, oF, oF], [oT, oT, oT, oT, oT, oT, oT, oT, oT, oT, oT, oT, oT, oT, oT, oT, oT, oT, oT, oT, oT, oT, oT, oT, oT, oF, oF, oF, oF, oF, oF, oF, oF, oF, oF, oF, oF, oF, oF], [oT, oT, oT, oT, oT, oT, oT, oT, oT, oT, oT, oT, oT, oT, oT, oT, oT, oT, oT, oT, oT, oT, oT, oT, oT, oT, oF, none, oF, oF, oF, none, none, none, none, none, oF, oF, oF], [oT, oT, oT, oT, oT, oT, oT, oT, oT, oT, oT, oT, oT, oT, oT, oT, oT, oT, oT, oT, oT, oT, oT, oT, oT, oT, none, oF, oF, oF, oF, none, none, none, none, none, oF, oF, oF], [oT, oT, oT, oT, oT, oT, oT, oT, oT, oT, oT, oT, oT, oT, oT, oT, oT, oT, oT, oT, oT, oT, oT, oT, oT, oT, oT, oT, oF, oF, oF, none, none, none, none, none, oF, oF, oF], [oT, oT, oT, oT, oT, oT, oT, oT, oT, oT, oT, oT, oT, oT, oT, oT, oT, oT, oT, oT, oT, oT, oT, oT, oT, oT, oT, oT, oT, oF, oF, none, none, none, none, none, oF, oF, oF], [oT, oT, oT, oT, oT, oT, oT, oT, oT, oT, oT, oT, oT, oT, oT, oT, oT, oT, oT, oT, oT, oT, oT, oT, oT, oT, oT, oT, oT, oT, oF, none, none, none, none, none, oF, oF, oF], [oT, oT, oT, oT, oT, oT, oT, oT, oT, oT, oT, oT, oT, oT, oT, oT, oT, oT, oT, oT, oT, oT, oT, oT, oT, oT, none, none, none, none, none, oF, none, oF, oF, oF, oF, oF, oF], [oT, oT, oT, oT, oT, oT, oT, oT, oT, oT, oT, oT, oT, oT, oT, oT, oT, oT, oT, oT, oT, oT, oT, oT, oT, oT, none, none, none, none, none, none, oF, oF, oF, oF, oF, oF, oF], [oT, oT, oT, oT, oT, oT, oT, oT, oT, oT, oT, oT, oT, oT, oT, oT, oT, oT, oT, oT, oT, oT, oT, oT, oT, oT, none, none, none, none, none, oT, oT, oF, oF, oF, oF, oF, oF], [oT, oT, oT, oT, oT, oT, oT, oT, oT, oT, oT, oT, oT, oT, oT, oT, oT, oT, oT, oT, oT, oT, oT, oT, oT, oT, none, none, none, none, none, oT, oT, oT, oF, oF, oF, oF, oF], [oT, oT, oT, oT, oT, oT, oT, oT, oT, oT, oT, oT, oT, oT, oT, oT, oT, oT, oT, oT, oT, oT, oT, oT, oT, oT, none, none, none, none, none, oT, oT, oT, oT, oF, oF, oF, oF], [oT, oT, oT, oT, oT, oT, oT, oT, oT, oT, oT, oT, oT, oT, oT, oT, oT, oT, oT, oT, oT, oT, oT, oT, oT, oT, oT, oT, oT, oT, oT, oT, oT, oT, oT, oT, oF, oF, oF], [oT, oT, oT, oT, oT, oT, oT, oT, oT, oT, oT, oT, oT, oT, oT, oT, oT, oT, oT, oT, oT, oT, oT, oT, oT, oT, oT, oT, oT, oT, oT, oT, oT, oT, oT, oT, oT, oF, oF], [oT, oT, oT, oT, oT, oT, oT, oT, oT, oT, oT, oT, oT, oT, oT, oT, oT, oT, oT, oT, oT, oT, oT, oT, oT, oT, oT, oT, oT, oT, oT, oT, oT, oT, oT, oT, oT, oT, oF]] (by kernel_rfl) (fun _ => rfl) rfl rfl rfl rfl rfl (fun _ _ => ⟨⟨⟨⟨⟨⟨⟨⟨⟨⟨⟨⟨⟨⟨⟨⟨⟨⟨⟨⟨⟨⟨⟨⟨⟨⟨⟨⟨⟨⟨⟨⟨⟨⟨⟨⟨⟨⟨⟨trivial, rfl⟩, rfl⟩, rfl⟩, rfl⟩, rfl⟩, rfl⟩, rfl⟩, rfl⟩, rfl⟩, rfl⟩, rfl⟩, rfl⟩, rfl⟩, rfl⟩, rfl⟩, rfl⟩, rfl⟩, rfl⟩, rfl⟩, rfl⟩, rfl⟩, rfl⟩, rfl⟩, rfl⟩, rfl⟩, rfl⟩, rfl⟩, rfl⟩, rfl⟩, rfl⟩, rfl⟩, rfl⟩, rfl⟩, rfl⟩, rfl⟩, rfl⟩, rfl⟩, rfl⟩, rfl⟩) 0 [] (fun _ => by kernel_rfl) ?_ ?_
    ·refine ⟨rfl, ?_, rfl, ?_, rfl, ?_, rfl, ?_, rfl, ?_, rfl, ?_, rfl, ?_, rfl, ?_, rfl, ?_, rfl, ?_, rfl, ?_, rfl, ?_, rfl, ?_, rfl, ?_, rfl, ?_, rfl, ?_, rfl, ?_, rfl, ?_, rfl, ?_, rfl, ?_, rfl, ?_, rfl, ?_, rfl, ?_, rfl, ?_, rfl, ?_, rfl, ?_, rfl, ?_, rfl, ?_, rfl, ?_, rfl, ?_, rfl, ?_, rfl, ?_, rfl, ?_, rfl, ?_, rfl, ?_, rfl, ?_, rfl, ?_, rfl, ?_, rfl, ?_, trivial⟩
     ·intro b1_ b5_ b6_ b7_ b8_ b9_ g4
      exact TL.mv (SV.v s1) <| TL.done <| TC.n1 []
     ·intro b0_ b5_ b6_ b7_ b8_ b9_ g4
      exact TL.mv (.int .i64 i1) <| TL.done <| TC.n1 []
     ·intro b5_ b6_ b7_ b8_ b9_ g4
      exact TL.ll [] <| TL.ixsP i1 (i1.toNat * 3) (RdP.old h1) h3 Tryz.underlying25 Tryz.sizeOf44 rfl rfl rfl rfl (by omega) <| TL.done <| TC.n1 []
     ·intro b5_ b6_ b7_ b8_ b9_ g4
      exact TL.ll [] <| TL.faeP (RdP.old h1) (by have := h3; omega) Tryz.underlying44 rfl Tryz.sizeOf2 rfl (i1.toNat * 3) (by first | rfl | omega | exact Nat.add_comm _ 0) rfl rfl rfl <| TL.done <| TC.n1 []
     ·intro b5_ b6_ b7_ b8_ b9_ g4
      exact TL.ll [] <| TL.loadP0 (RdP.old h1) Tryz.isAgg2 i1 h3 (by omega) rfl rfl rfl <| TL.done <| TC.n1 []
     ·intro b0_ b1_ b2_ b3_ b4_ b6_ g4
      exact TL.mv (SV.v s2) <| TL.done <| TC.n1 []
     ·intro b0_ b1_ b2_ b3_ b4_ b5_ g4
      exact TL.mv (.int .i64 i1) <| TL.done <| TC.n1 []
     ·intro b0_ b1_ b2_ b3_ b4_ g4
      exact TL.ll [] <| TL.ixsP i1 (i1.toNat * 3) (RdP.old h2) h4 Tryz.underlying25 Tryz.sizeOf44 rfl rfl rfl rfl (by omega) <| TL.done <| TC.n1 []
     ·intro b0_ b1_ b2_ b3_ b4_ g4
      exact TL.ll [] <| TL.faeP (RdP.old h2) (by have := h4; omega) Tryz.underlying44 rfl Tryz.sizeOf2 rfl (i1.toNat * 3) (by first | rfl | omega | exact Nat.add_comm _ 0) rfl rfl rfl <| TL.done <| TC.n1 []
     ·intro b0_ b1_ b2_ b3_ b4_ g4
      exact TL.ll [] <| TL.loadP0 (RdP.old h2) Tryz.isAgg2 i1 h4 (by omega) rfl rfl rfl <| TL.done <| TC.n1 []
     ·intro g4
      exact TL.bn .i64 ((gt a_1 i1).1) ((gt b_1 i1).1) (.bool ((gt a_1 i1).1 != (gt b_1 i1).1)) <| TL.done <| TC.nrm () [] ⟨(by rw [c5]; rfl), trivial⟩ [] (by kernel_rfl)
     ·intro g4
      exact TL.mv (.bool false) <| TL.done <| TC.n1 []
     ·intro b13_ b17_ b18_ b19_ b20_ b21_ g4
      exact TL.mv (SV.v s1) <| TL.done <| TC.n1 []
     ·intro b12_ b17_ b18_ b19_ b20_ b21_ g4
      exact TL.mv (.int .i64 i1) <| TL.done <| TC.n1 []
     ·intro b17_ b18_ b19_ b20_ b21_ g4
      exact TL.ll [] <| TL.ixsP i1 (i1.toNat * 3) (RdP.old h1) h3 Tryz.underlying25 Tryz.sizeOf44 rfl rfl rfl rfl (by omega) <| TL.done <| TC.n1 []
     ·intro b17_ b18_ b19_ b20_ b21_ g4
      exact TL.ll [] <| TL.faeP (RdP.old h1) (by have := h3; omega) Tryz.underlying44 rfl Tryz.sizeOf36 rfl (1 + i1.toNat * 3) (by first | rfl | omega | exact Nat.add_comm _ 1) rfl rfl rfl <| TL.done <| TC.n1 []
     ·intro b17_ b18_ b19_ b20_ b21_ g4
      exact TL.ll [] <| TL.loadP1 (RdP.old h1) Tryz.isAgg36 i1 h3 (by omega) rfl rfl rfl <| TL.done <| TC.n1 []
     ·intro b12_ b13_ b14_ b15_ b16_ b18_ g4
      exact TL.mv (SV.v s2) <| TL.done <| TC.n1 []
     ·intro b12_ b13_ b14_ b15_ b16_ b17_ g4
      exact TL.mv (.int .i64 i1) <| TL.done <| TC.n1 []
     ·intro b12_ b13_ b14_ b15_ b16_ g4
      exact TL.ll [] <| TL.ixsP i1 (i1.toNat * 3) (RdP.old h2) h4 Tryz.underlying25 Tryz.sizeOf44 rfl rfl rfl rfl (by omega) <| TL.done <| TC.n1 []
     ·intro b12_ b13_ b14_ b15_ b16_ g4
      exact TL.ll [] <| TL.faeP (RdP.old h2) (by have := h4; omega) Tryz.underlying44 rfl Tryz.sizeOf36 rfl (1 + i1.toNat * 3) (by first | rfl | omega | exact Nat.add_comm _ 1) rfl rfl rfl <| TL.done <| TC.n1 []
     ·intro b12_ b13_ b14_ b15_ b16_ g4
      exact TL.ll [] <| TL.loadP1 (RdP.old h2) Tryz.isAgg36 i1 h4 (by omega) rfl rfl rfl <| TL.done <| TC.n1 []
     ·intro g4
      refine TL.ll [] ?_
      refine TL.callH (R := G.laws_likeInts.R) hr1 Tryz.call19 rfl rfl rfl (fun w hS => G.laws_likeInts.calls w ((gt ss1 i1).2.1) ((gt a_1 i1).2.1) ((gt ss2 i1).2.1) ((gt b_1 i1).2.1) ((RdP.in1 (RdP.old h1) h3) w hS) ((RdP.in1 (RdP.old h2) h4) w hS)) ?_
      rintro _ _ ⟨rfl, rfl⟩
      exact TL.done <| TC.n1 []
     ·intro g4
      refine TL.not r_1 rfl rfl rfl ?_
      exact TL.done <| TC.nrm () [] ⟨(by rw [c6]; rfl), trivial⟩ [] (by kernel_rfl)
     ·intro g4
      exact TL.pk false (.bool true) <| TL.done <| TC.n1 []
     ·intro g4
      exact TL.mv (.bool true) <| TL.done <| TC.n1 []
     ·intro b27_ b31_ b32_ b33_ b34_ b35_ g4
      exact TL.sk <| TL.done <| TC.n1 []
     ·intro b26_ b31_ b32_ b33_ b34_ b35_ g4
      exact TL.sk <| TL.done <| TC.n1 []
     ·intro b31_ b32_ b33_ b34_ b35_ g4
      exact TL.ll [] <| TL.sk <| TL.done <| TC.n1 []
     ·intro b31_ b32_ b33_ b34_ b35_ g4
      exact TL.ll [] <| TL.sk <| TL.done <| TC.n1 []
     ·intro b31_ b32_ b33_ b34_ b35_ g4
      exact TL.ll [] <| TL.sk <| TL.done <| TC.n1 []
     ·intro b26_ b27_ b28_ b29_ b30_ b32_ g4
      exact TL.sk <| TL.done <| TC.n1 []
     ·intro b26_ b27_ b28_ b29_ b30_ b31_ g4
      exact TL.sk <| TL.done <| TC.n1 []
     ·intro b26_ b27_ b28_ b29_ b30_ g4
      exact TL.ll [] <| TL.sk <| TL.done <| TC.n1 []
     ·intro b26_ b27_ b28_ b29_ b30_ g4
      exact TL.ll [] <| TL.sk <| TL.done <| TC.n1 []
     ·intro b26_ b27_ b28_ b29_ b30_ g4
      exact TL.ll [] <| TL.sk <| TL.done <| TC.n1 []
     ·intro g4
      exact TL.ll [] <| TL.sk <| TL.done <| TC.n1 []
     ·intro g4
      exact TL.sk <| TL.done <| TC.n1 []
     intro g4
     exact TL.pk true (.bool true) <| TL.done <| TC.n1 []
    intro g4
    refine TC.ll [] ?_
    refine TC.cond_true rfl ?_
    exact TC.seq <| TC.region <| TL.as (.bool false) <| TL.done <| TC.retF (Fin.loop Far.ret (Fin.body (fin1 (.inr rfl) rfl (.tmp rfl) [] rfl ⟨rfl, rfl⟩)))
   refine TC.wk (Γ' := [(0, SV.v s1), (1, SV.v s2), (5, .int .i64 i1), (11, .int .i64 i1), (12, SV.v s1), (13, .int .i64 (a_1.length : Int)), (14, .bool (decide (i1 < (a_1.length : Int))))]) ⟨rfl, rfl, rfl, rfl, rfl, rfl, rfl, trivial⟩ ?_
   refine TC.bindE ?_
   rintro r_4 hr2
   refine TC.drawG [(0, SV.v s1), (1, SV.v s2), (5, .int .i64 i1), (11, .int .i64 i1), (12, SV.v s1), (13, .int .i64 (a_1.length : Int)), (14, .bool (decide (i1 < (a_1.length : Int))))] [] ⟨rfl, rfl, rfl, rfl, rfl, rfl, rfl, trivial⟩ trivial (fun l_ g5 => []) (fun g5 => [SV.v s1, .int .i64 i1, ep s1 (i1.toNat * 3), ep s1 (i1.toNat * 3), .int .i64 ((gt a_1 i1).1), SV.v s2, .int .i64 i1, ep s2 (i1.toNat * 3), ep s2 (i1.toNat * 3), .int .i64 ((gt b_1 i1).1), .bool false, .bool false, SV.v s1, .int .i64 i1, ep s1 (i1.toNat * 3), ep s1 (1 + i1.toNat * 3), SV.v ((gt ss1 i1).2.1), SV.v s2, .int .i64 i1, ep s2 (i1.toNat * 3), ep s2 (1 + i1.toNat * 3), SV.v ((gt ss2 i1).2.1), .bool r_1, .bool false, .bool false, .bool false, SV.v s1, .int .i64 i1, ep s1 (i1.toNat * 3), ep s1 (2 + i1.toNat * 3), SV.v ((gt ss1 i1).2.2), SV.v s2, .int .i64 i1, ep s2 (i1.toNat * 3), ep s2 (2 + i1.toNat * 3), SV.v ((gt ss2 i1).2.2), .bool r_4, .bool (!r_4), .bool (!r_4)]) [[], [], [0, 1], [0, 1, 2], [0, 1, 2, 3], [], [], [5, 6], [5, 6, 7], [5, 6, 7, 8], [0, 1, 2, 3, 4, 5, 6, 7, 8, 9], [0, 1, 2, 3, 4, 5, 6, 7, 8, 9, 10], [0, 1, 2, 3, 4, 5, 6, 7, 8, 9, 10, 11], [0, 1, 2, 3, 4, 5, 6, 7, 8, 9, 10, 11], [0, 1, 2, 3, 4, 5, 6, 7, 8, 9, 10, 11, 12, 13], [0, 1, 2, 3, 4, 5, 6, 7, 8, 9, 10, 11, 12, 13, 14], [0, 1, 2, 3, 4, 5, 6, 7, 8, 9, 10, 11, 12, 13, 14, 15], [0, 1, 2, 3, 4, 5, 6, 7, 8, 9, 10, 11], [0, 1, 2, 3, 4, 5, 6, 7, 8, 9, 10, 11], [0, 1, 2, 3, 4, 5, 6, 7, 8, 9, 10, 11, 17, 18], [0, 1, 2, 3, 4, 5, 6, 7, 8, 9, 10, 11, 17, 18, 19], [0, 1, 2, 3, 4, 5, 6, 7, 8, 9, 10, 11, 17, 18, 19, 20], [0, 1, 2, 3, 4, 5, 6, 7, 8, 9, 10, 11, 12, 13, 14, 15, 16, 17, 18, 19, 20, 21], [0, 1, 2, 3, 4, 5, 6, 7, 8, 9, 10, 11, 12, 13, 14, 15, 16, 17, 18, 19, 20, 21, 22], [0, 1, 2, 3, 4, 5, 6, 7, 8, 9, 10, 11, 12, 13, 14, 15, 16, 17, 18, 19, 20, 21, 22, 23], [0, 1, 2, 3, 4, 5, 6, 7, 8, 9, 10, 11, 12, 13, 14, 15, 16, 17, 18, 19, 20, 21, 22, 23, 24], [0, 1, 2, 3, 4, 5, 6, 7, 8, 9, 10, 11, 12, 13, 14, 15, 16, 17, 18, 19, 20, 21, 22, 23, 24, 25], [0, 1, 2, 3, 4, 5, 6, 7, 8, 9, 10, 11, 12, 13, 14, 15, 16, 17, 18, 19, 20, 21, 22, 23, 24, 25], [0, 1, 2, 3, 4, 5, 6, 7, 8, 9, 10, 11, 12, 13, 14, 15, 16, 17, 18, 19, 20, 21, 22, 23, 24, 25, 26, 27], [0, 1, 2, 3, 4, 5, 6, 7, 8, 9, 10, 11, 12, 13, 14, 15, 16, 17, 18, 19, 20, 21, 22, 23, 24, 25, 26, 27, 28], [0, 1, 2, 3, 4, 5, 6, 7, 8, 9, 10, 11, 12, 13, 14, 15, 16, 17, 18, 19, 20, 21, 22, 23, 24, 25, 26, 27, 28, 29], [0, 1, 2, 3, 4, 5, 6, 7, 8, 9, 10, 11, 12, 13, 14, 15, 16, 17, 18, 19, 20, 21, 22, 23, 24, 25], [0, 1, 2, 3, 4, 5, 6, 7, 8, 9, 10, 11, 12, 13, 14, 15, 16, 17, 18, 19, 20, 21, 22, 23, 24, 25], [0, 1, 2, 3, 4, 5, 6, 7, 8, 9, 10, 11, 12, 13, 14, 15, 16, 17, 18, 19, 20, 21, 22, 23, 24, 25, 31, 32], [0, 1, 2, 3, 4, 5, 6, 7, 8, 9, 10, 11, 12, 13, 14, 15, 16, 17, 18, 19, 20, 21, 22, 23, 24, 25, 31, 32, 33], [0, 1, 2, 3, 4, 5, 6, 7, 8, 9, 10, 11, 12, 13, 14, 15, 16, 17, 18, 19, 20, 21, 22, 23, 24, 25, 31, 32, 33, 34], [0, 1, 2, 3, 4, 5, 6, 7, 8, 9, 10, 11, 12, 13, 14, 15, 16, 17, 18, 19, 20, 21, 22, 23, 24, 25, 26, 27, 28, 29, 30, 31, 32, 33, 34, 35], [0, 1, 2, 3, 4, 5, 6, 7, 8, 9, 10, 11, 12, 13, 14, 15, 16, 17, 18, 19, 20, 21, 22, 23, 24, 25, 26, 27, 28, 29, 30, 31, 32, 33, 34, 35, 36], [0, 1, 2, 3, 4, 5, 6, 7, 8, 9, 10, 11, 12, 13, 14, 15, 16, 17, 18, 19, 20, 21, 22, 23, 24, 25, 26, 27, 28, 29, 30, 31, 32, 33, 34, 35, 36, 37]] [[oF, none, oF, oF, oF, none, none, none, none, none, oF, oF, oF, oF, oF, oF, oF, oF, oF, oF, oF, oF, oF, oF, oF, oF, oF, oF, oF, oF, oF, oF, oF, oF, oF, oF, oF, oF, oF], [none, oF, oF, oF, oF, none, none, none, none, none, oF, oF, oF, oF, oF, oF, oF, oF, oF, oF, oF, oF, oF, oF, oF, oF, oF, oF, oF, oF, oF, oF, oF, oF, oF, oF, oF, oF, oF], [oT, oT, oF, oF, oF, none, none, none, none, none, oF, oF, oF, oF, oF, oF, oF, oF, oF, oF, oF, oF, oF, oF, oF, oF, oF, oF, oF, oF, oF, oF, oF, oF, oF, oF, oF, oF, oF], [oT, oT, oT, oF, oF, none, none, none, none, none, oF, oF, oF, oF, oF, oF, oF, oF, oF, oF, oF, oF, oF, oF, oF, oF, oF, oF, oF, oF, oF, oF, oF, oF, oF, oF, oF, oF, oF], [oT, oT, oT, oT, oF, none, none, none, none, none, oF, oF, oF, oF, oF, oF, oF, oF, oF, oF, oF, oF, oF, oF, oF, oF, oF, oF, oF, oF, oF, oF, oF, oF, oF, oF, oF, oF, oF], [none, none, none, none, none, oF, none, oF, oF, oF, oF, oF, oF, oF, oF, oF, oF, oF, oF, oF, oF, oF, oF, oF, oF, oF, oF, oF, oF, oF, oF, oF, oF, oF, oF, oF, oF, oF, oF], [none, none, none, none, none, none, oF, oF, oF, oF, oF, oF, oF, oF, oF, oF, oF, oF, oF, oF, oF, oF, oF, oF, oF, oF, oF, oF, oF, oF, oF, oF, oF, oF, oF, oF, oF, oF, oF], [none, none, none, none, none, oT, oT, oF, oF, oF, oF, oF, oF, oF, oF, oF, oF, oF, oF, oF, oF, oF, oF, oF, oF, oF, oF, oF, oF, oF, oF, oF, oF, oF, oF, oF, oF, oF, oF], [none, none, none, none, none, oT, oT, oT, oF, oF, oF, oF, oF, oF, oF, oF, oF, oF, oF, oF, oF, oF, oF, oF, oF, oF, oF, oF, oF, oF, oF, oF, oF, oF, oF, oF, oF, oF, oF], [none, none, none, none, none, oT, oT, oT, oT, oF, oF, oF, oF, oF, oF, oF, oF, oF, oF, oF, oF, oF, oF, oF, oF, oF, oF, oF, oF, oF, oF, oF, oF, oF, oF, oF, oF, oF, oF], [oT, oT, oT, oT, oT, oT, oT, oT, oT, oT, oF, oF, oF, oF, oF, oF, oF, oF, oF, oF, oF, oF, oF, oF, oF, oF, oF, oF, oF, oF, oF, oF, oF, oF, oF, oF, oF, oF, oF], [oT, oT, oT, oT, oT, oT, oT, oT, oT, oT, oT, oF, oF, oF, oF, oF, oF, oF, oF, oF, oF, oF, oF, oF, oF, oF, oF, oF, oF, oF, oF, oF, oF, oF, oF, oF, oF, oF, oF], [oT, oT, oT, oT, oT, oT, oT, oT, oT, oT, oT, oT, oF, none, oF, oF, oF, none, none, none, none, none, oF, oF, oF, oF, oF, oF, oF, oF, oF, oF, oF, oF, oF, oF, oF, oF, oF], [oT, oT, oT, oT, oT, oT, oT, oT, oT, oT, oT, oT, none, oF, oF, oF, oF, none, none, none, none, none, oF, oF, oF, oF, oF, oF, oF, oF, oF, oF, oF, oF, oF, oF, oF, oF, oF], [oT, oT, oT, oT, oT, oT, oT, oT, oT, oT, oT, oT, oT, oT, oF, oF, oF, none, none, none, none, none, oF, oF, oF, oF, oF, oF, oF, oF, oF, oF, oF, oF, oF, oF, oF, oF, oF], [oT, oT, oT, oT, oT, oT, oT, oT, oT, oT, oT, oT, oT, oT, oT, oF, oF, none, none, none, none, none, oF, oF, oF, oF, oF, oF, oF, oF, oF, oF, oF, oF, oF, oF, oF, oF, oF], [oT, oT, oT, oT, oT, oT, oT, oT, oT, oT, oT, oT, oT, oT, oT, oT, oF, none, none, none, none, none, oF, oF, oF, oF, oF, oF, oF, oF, oF, oF, oF, oF, oF, oF, oF, oF, oF], [oT, oT, oT, oT, oT, oT, oT, oT, oT, oT, oT, oT, none, none, none, none, none, oF, none, oF, oF, oF, oF, oF, oF, oF, oF, oF, oF, oF, oF, oF, oF, oF, oF, oF, oF, oF, oF], [oT, oT, oT, oT, oT, oT, oT, oT, oT, oT, oT, oT, none, none, none, none, none, none, oF, oF, oF, oF, oF, oF, oF, oF, oF, oF, oF, oF, oF, oF, oF, oF, oF, oF, oF, oF, oF], [oT, oT, oT, oT, oT, oT, oT, oT, oT, oT, oT, oT, none, none, none, none, none, oT, oT, oF, oF, oF, oF, oF, oF, oF, oF, oF, oF, oF, oF, oF, oF, oF, oF, oF, oF, oF, oF], [oT, oT, oT, oT, oT, oT, oT, oT, oT, oT, oT, oT, none, none, none, none, none, oT, oT, oT, oF, oF, oF, oF, oF, oF, oF, oF, oF, oF, oF, oF, oF, oF, oF, oF, oF, oF, oF], [oT, oT, oT, oT, oT, oT, oT, oT, oT, oT, oT, oT, none, none, none, none, none, oT, oT, oT, oT, oF, oF, oF, oF, oF, oF, oF, oF, oF, oF, oF, oF, oF, oF, oF, oF, oF, oF], [oT, oT, oT, oT, oT, oT, oT, oT, oT, oT, oT, oT, oT, oT, oT, oT, oT, oT, oT, oT, oT, oT, oF, oF, oF, oF, oF, oF, oF, oF, oF, oF, oF, oF, oF, oF, oF, oF, oF], [oT, oT, oT, oT, oT, oT, oT, oT, oT, oT, oT, oT, oT, oT, oT, oT, oT, oT, oT, oT, oT, oT, oT, oF, oF, oF, oF, oF, oF, oF, oF, oF, oF, oF, oF, oF, oF, oF, oF], [oT, oT, oT, oT, oT, oT, oT, oT, oT, oT, oT, oT, oT, oT, oT, oT, oT, oT, oT, oT, oT, oT, oT, oT, oF, oF, oF, oF, oF, oF, oF, oF, oF, oF, oF, oF, oF, oF, oF], [oT, oT, oT, oT, oT, oT, oT, oT, oT, oT, oT, oT, oT, oT, oT, oT, oT, oT, oT, oT, oT, oT, oT, oT, oT, oF, oF, oF, oF, oF, oF, oF, oF, oF, oF, oF, oF, oF, oF], [oT, oT, oT, oT, oT, oT, oT, oT, oT, oT, oT, oT, oT, oT, oT, oT, oT, oT, oT, oT, oT, oT, oT, oT, oT, oT, oF, none, oF, oF, oF, none, none, none, none, none, oF, oF, oF], [oT, oT, oT, oT, oT, oT, oT, oT, oT, oT, oT, oT, oT, oT, oT, oT, oT, oT, oT, oT, oT, oT, oT, oT, oT, oT, none, oF, oF, oF, oF, none, none, none, none, none, oF, oF, oF], [oT, oT, oT, oT, oT, oT, oT, oT, oT, oT, oT, oT, oT, oT, oT, oT, oT, oT, oT, oT, oT, oT, oT, oT, oT, oT, oT, oT, oF, oF, oF, none, none, none, none, none, oF, oF, oF], [oT, oT, oT, oT, oT, oT, oT, oT, oT, oT, oT, oT, oT, oT, oT, oT, oT, oT, oT, oT, oT, oT, oT, oT, oT, oT, oT, oT, oT, oF, oF, none, none, none, none, none, oF, oF, oF], [oT, oT, oT, oT, oT, oT, oT, oT, oT, oT, oT, oT, oT, oT, oT, oT, oT, oT, oT, oT, oT, oT, oT, oT, oT, oT, oT, oT, oT, oT, oF, none, none, none, none, none, oF, oF, oF], [oT, oT, oT, oT, oT, oT, oT, oT, oT, oT, oT, oT, oT, oT, oT, oT, oT, oT, oT, oT, oT, oT, oT, oT, oT, oT, none, none, none, none, none, oF, none, oF, oF, oF, oF, oF, oF], [oT, oT, oT, oT, oT, oT, oT, oT, oT, oT, oT, oT, oT, oT, oT, oT, oT, oT, oT, oT, oT, oT, oT, oT, oT, oT, none, none, none, none, none, none, oF, oF, oF, oF, oF, oF, oF], [oT, oT, oT, oT, oT, oT, oT, oT, oT, oT, oT, oT, oT, oT, oT, oT, oT, oT, oT, oT, oT, oT, oT, oT, oT, oT, none, none, none, none, none, oT, oT, oF, oF, oF, oF, oF, oF], [oT, oT, oT, oT, oT, oT, oT, oT, oT, oT, oT, oT, oT, oT, oT, oT, oT, oT, oT, oT, oT, oT, oT, oT, oT, oT, none, none, none, none, none, oT, oT, oT, oF, oF, oF, oF, oF], [oT, oT, oT, oT, oT, oT, oT, oT, oT, oT, oT, oT, oT, oT, oT, oT, oT, oT, oT, oT, oT, oT, oT, oT, oT, oT, none, none, none, none, none, oT, oT, oT, oT, oF, oF, oF, oF], [oT, oT, oT, oT, oT, oT, oT, oT, oT, oT, oT, oT, oT, oT, oT, oT, oT, oT, oT, oT, oT, oT, oT, oT, oT, oT, oT, oT, oT, oT, oT, oT, oT, oT, oT, oT, oF, oF, oF], [oT, oT, oT, oT, oT, oT, oT, oT, oT, oT, oT, oT, oT, oT, oT, oT, oT, oT, oT, oT, oT, oT, oT, oT, oT, oT, oT, oT, oT, oT, oT, oT, oT, oT, oT, oT, oT, oF, oF], [oT, oT, oT, oT, oT, oT, oT, oT, oT, oT, oT, oT, oT, oT, oT, oT, oT, oT, oT, oT, oT, oT, oT, oT, oT, oT, oT, oT, oT, oT, oT, oT, oT, oT, oT, oT, oT, oT, oF]] (by kernel_rfl) (fun _ => rfl) rfl rfl rfl rfl rfl (fun _ _ => ⟨⟨⟨⟨⟨⟨⟨⟨⟨⟨⟨⟨⟨⟨⟨⟨⟨⟨⟨⟨⟨⟨⟨⟨⟨⟨⟨⟨⟨⟨⟨⟨⟨⟨⟨⟨⟨⟨⟨trivial, rfl⟩, rfl⟩, rfl⟩, rfl⟩, rfl⟩, rfl⟩, rfl⟩, rfl⟩, rfl⟩, rfl⟩, rfl⟩, rfl⟩, rfl⟩, rfl⟩, rfl⟩, rfl⟩, rfl⟩, rfl⟩, rfl⟩, rfl⟩, rfl⟩, rfl⟩, rfl⟩, rfl⟩, rfl⟩, rfl⟩, rfl⟩, rfl⟩, rfl⟩, rfl⟩, rfl⟩, rfl⟩, rfl⟩, rfl⟩, rfl⟩, rfl⟩, rfl⟩, rfl⟩, rfl⟩) 0 [] (fun _ => by kernel_rfl) ?_ ?_
   ·refine ⟨rfl, ?_, rfl, ?_, rfl, ?_, rfl, ?_, rfl, ?_, rfl, ?_, rfl, ?_, rfl, ?_, rfl, ?_, rfl, ?_, rfl, ?_, rfl, ?_, rfl, ?_, rfl, ?_, rfl, ?_, rfl, ?_, rfl, ?_, rfl, ?_, rfl, ?_, rfl, ?_, rfl, ?_, rfl, ?_, rfl, ?_, rfl, ?_, rfl, ?_, rfl, ?_, rfl, ?_, rfl, ?_, rfl, ?_, rfl, ?_, rfl, ?_, rfl, ?_, rfl, ?_, rfl, ?_, rfl, ?_, rfl, ?_, rfl, ?_, rfl, ?_, rfl, ?_, trivial⟩
    ·intro b1_ b5_ b6_ b7_ b8_ b9_ g5
     exact TL.mv (SV.v s1) <| TL.done <| TC.n1 []
    ·intro b0_ b5_ b6_ b7_ b8_ b9_ g5
     exact TL.mv (.int .i64 i1) <| TL.done <| TC.n1 []
    ·intro b5_ b6_ b7_ b8_ b9_ g5
     exact TL.ll [] <| TL.ixsP i1 (i1.toNat * 3) (RdP.old h1) h3 Tryz.underlying25 Tryz.sizeOf44 rfl rfl rfl rfl (by omega) <| TL.done <| TC.n1 []
    ·intro b5_ b6_ b7_ b8_ b9_ g5
     exact TL.ll [] <| TL.faeP (RdP.old h1) (by have := h3; omega) Tryz.underlying44 rfl Tryz.sizeOf2 rfl (i1.toNat * 3) (by first | rfl | omega | exact Nat.add_comm _ 0) rfl rfl rfl <| TL.done <| TC.n1 []
    ·intro b5_ b6_ b7_ b8_ b9_ g5
     exact TL.ll [] <| TL.loadP0 (RdP.old h1) Tryz.isAgg2 i1 h3 (by omega) rfl rfl rfl <| TL.done <| TC.n1 []
    ·intro b0_ b1_ b2_ b3_ b4_ b6_ g5
     exact TL.mv (SV.v s2) <| TL.done <| TC.n1 []
    ·intro b0_ b1_ b2_ b3_ b4_ b5_ g5
     exact TL.mv (.int .i64 i1) <| TL.done <| TC.n1 []
    ·intro b0_ b1_ b2_ b3_ b4_ g5
     exact TL.ll [] <| TL.ixsP i1 (i1.toNat * 3) (RdP.old h2) h4 Tryz.underlying25 Tryz.sizeOf44 rfl rfl rfl rfl (by omega) <| TL.done <| TC.n1 []
    ·intro b0_ b1_ b2_ b3_ b4_ g5
     exact TL.ll [] <| TL.faeP (RdP.old h2) (by have := h4; omega) Tryz.underlying44 rfl Tryz.sizeOf2 rfl (i1.toNat * 3) (by first | rfl | omega | exact Nat.add_comm _ 0) rfl rfl rfl <| TL.done <| TC.n1 []
    ·intro b0_ b1_ b2_ b3_ b4_ g5
     exact TL.ll [] <| TL.loadP0 (RdP.old h2) Tryz.isAgg2 i1 h4 (by omega) rfl rfl rfl <| TL.done <| TC.n1 []
    ·intro g5
     exact TL.bn .i64 ((gt a_1 i1).1) ((gt b_1 i1).1) (.bool ((gt a_1 i1).1 != (gt b_1 i1).1)) <| TL.done <| TC.nrm () [] ⟨(by rw [c5]; rfl), trivial⟩ [] (by kernel_rfl)
    ·intro g5
     exact TL.mv (.bool false) <| TL.done <| TC.n1 []
    ·intro b13_ b17_ b18_ b19_ b20_ b21_ g5
     exact TL.mv (SV.v s1) <| TL.done <| TC.n1 []
    ·intro b12_ b17_ b18_ b19_ b20_ b21_ g5
     exact TL.mv (.int .i64 i1) <| TL.done <| TC.n1 []
    ·intro b17_ b18_ b19_ b20_ b21_ g5
     exact TL.ll [] <| TL.ixsP i1 (i1.toNat * 3) (RdP.old h1) h3 Tryz.underlying25 Tryz.sizeOf44 rfl rfl rfl rfl (by omega) <| TL.done <| TC.n1 []
    ·intro b17_ b18_ b19_ b20_ b21_ g5
     exact TL.ll [] <| TL.faeP (RdP.old h1) (by have := h3; omega) Tryz.underlying44 rfl Tryz.sizeOf36 rfl (1 + i1.toNat * 3) (by first | rfl | omega | exact Nat.add_comm _ 1) rfl rfl rfl <| TL.done <| TC.n1 []
    ·intro b17_ b18_ b19_ b20_ b21_ g5
     exact TL.ll [] <| TL.loadP1 (RdP.old h1) Tryz.isAgg36 i1 h3 (by omega) rfl rfl rfl <| TL.done <| TC.n1 []
    ·intro b12_ b13_ b14_ b15_ b16_ b18_ g5
     exact TL.mv (SV.v s2) <| TL.done <| TC.n1 []
    ·intro b12_ b13_ b14_ b15_ b16_ b17_ g5
     exact TL.mv (.int .i64 i1) <| TL.done <| TC.n1 []
    ·intro b12_ b13_ b14_ b15_ b16_ g5
     exact TL.ll [] <| TL.ixsP i1 (i1.toNat * 3) (RdP.old h2) h4 Tryz.underlying25 Tryz.sizeOf44 rfl rfl rfl rfl (by omega) <| TL.done <| TC.n1 []
    ·intro b12_ b13_ b14_ b15_ b16_ g5
     exact TL.ll [] <| TL.faeP (RdP.old h2) (by have := h4; omega) Tryz.underlying44 rfl Tryz.sizeOf36 rfl (1 + i1.toNat * 3) (by first | rfl | omega | exact Nat.add_comm _ 1) rfl rfl rfl <| TL.done <| TC.n1 []
    ·intro b12_ b13_ b14_ b15_ b16_ g5
     exact TL.ll [] <| TL.loadP1 (RdP.old h2) Tryz.isAgg36 i1 h4 (by omega) rfl rfl rfl <| TL.done <| TC.n1 []
    ·intro g5
     refine TL.ll [] ?_
     refine TL.callH (R := G.laws_likeInts.R) hr1 Tryz.call19 rfl rfl rfl (fun w hS => G.laws_likeInts.calls w ((gt ss1 i1).2.1) ((gt a_1 i1).2.1) ((gt ss2 i1).2.1) ((gt b_1 i1).2.1) ((RdP.in1 (RdP.old h1) h3) w hS) ((RdP.in1 (RdP.old h2) h4) w hS)) ?_
     rintro _ _ ⟨rfl, rfl⟩
     exact TL.done <| TC.n1 []
    ·intro g5
     refine TL.not r_1 rfl rfl rfl ?_
     exact TL.done <| TC.nrm () [] ⟨(by rw [c6]; rfl), trivial⟩ [] (by kernel_rfl)
    ·intro g5
     exact TL.pk false (.bool false) <| TL.done <| TC.n1 []
    ·intro g5
     exact TL.mv (.bool false) <| TL.done <| TC.n1 []
    ·intro b27_ b31_ b32_ b33_ b34_ b35_ g5
     exact TL.mv (SV.v s1) <| TL.done <| TC.n1 []
    ·intro b26_ b31_ b32_ b33_ b34_ b35_ g5
     exact TL.mv (.int .i64 i1) <| TL.done <| TC.n1 []
    ·intro b31_ b32_ b33_ b34_ b35_ g5
     exact TL.ll [] <| TL.ixsP i1 (i1.toNat * 3) (RdP.old h1) h3 Tryz.underlying25 Tryz.sizeOf44 rfl rfl rfl rfl (by omega) <| TL.done <| TC.n1 []
    ·intro b31_ b32_ b33_ b34_ b35_ g5
     exact TL.ll [] <| TL.faeP (RdP.old h1) (by have := h3; omega) Tryz.underlying44 rfl Tryz.sizeOf36 rfl (2 + i1.toNat * 3) (by first | rfl | omega | exact Nat.add_comm _ 2) rfl rfl rfl <| TL.done <| TC.n1 []
    ·intro b31_ b32_ b33_ b34_ b35_ g5
     exact TL.ll [] <| TL.loadP2 (RdP.old h1) Tryz.isAgg36 i1 h3 (by omega) rfl rfl rfl <| TL.done <| TC.n1 []
    ·intro b26_ b27_ b28_ b29_ b30_ b32_ g5
     exact TL.mv (SV.v s2) <| TL.done <| TC.n1 []
    ·intro b26_ b27_ b28_ b29_ b30_ b31_ g5
     exact TL.mv (.int .i64 i1) <| TL.done <| TC.n1 []
    ·intro b26_ b27_ b28_ b29_ b30_ g5
     exact TL.ll [] <| TL.ixsP i1 (i1.toNat * 3) (RdP.old h2) h4 Tryz.underlying25 Tryz.sizeOf44 rfl rfl rfl rfl (by omega) <| TL.done <| TC.n1 []
    ·intro b26_ b27_ b28_ b29_ b30_ g5
     exact TL.ll [] <| TL.faeP (RdP.old h2) (by have := h4; omega) Tryz.underlying44 rfl Tryz.sizeOf36 rfl (2 + i1.toNat * 3) (by first | rfl | omega | exact Nat.add_comm _ 2) rfl rfl rfl <| TL.done <| TC.n1 []
    ·intro b26_ b27_ b28_ b29_ b30_ g5
     exact TL.ll [] <| TL.loadP2 (RdP.old h2) Tryz.isAgg36 i1 h4 (by omega) rfl rfl rfl <| TL.done <| TC.n1 []
    ·intro g5
     refine TL.ll [] ?_
     refine TL.callH (R := G.laws_likeInts.R) hr2 Tryz.call19 rfl rfl rfl (fun w hS => G.laws_likeInts.calls w ((gt ss1 i1).2.2) ((gt a_1 i1).2.2) ((gt ss2 i1).2.2) ((gt b_1 i1).2.2) ((RdP.in2 (RdP.old h1) h3) w hS) ((RdP.in2 (RdP.old h2) h4) w hS)) ?_
     rintro _ _ ⟨rfl, rfl⟩
     exact TL.done <| TC.n1 []
    ·intro g5
     refine TL.not r_4 rfl rfl rfl ?_
     exact TL.done <| TC.n1 []
    intro g5
    exact TL.pk false (.bool (!r_4)) <| TL.done <| TC.n1 []
   intro g5
   refine TC.ll [] ?_
   refine TC.cond (b := (!r_4)) rfl (fun c7 => ?_) (fun c8 => ?_)
   ·exact TC.seq <| TC.region <| TL.as (.bool false) <| TL.done <| TC.retF (Fin.loop Far.ret (Fin.body (fin1 (.inr rfl) rfl (.tmp rfl) [] rfl ⟨rfl, rfl⟩)))
   refine TC.skip <| TC.region <| TL.mv (.int .i64 i1) <| TL.bn .i64 i1 1 (.int .i64 (w64 (i1 + 1))) <| TL.as (.int .i64 (w64 (i1 + 1))) <| TL.done ?_
   exact TC.next ((w64 (i1 + 1))) (()) ⟨rfl, rfl, rfl, trivial⟩ [] rfl
  exact TC.brk (i1) (()) ⟨rfl, rfl, rfl, trivial⟩ [] rfl
 rintro i1 _
 exact TC.seq <| TC.region <| TL.as (.bool true) <| TL.done <| TC.retF (Fin.body (fin1 (.inr rfl) rfl (.tmp rfl) [] rfl ⟨rfl, rfl⟩))
def spec_IsWord.f (word1 : Str) : Option Bool := (G.spec_l04Is.f word1).bind (fun r_1 => some r_1)
def spec_IsWord.R (r : Bool) (v : Value) (L : List Asn) : Prop := v = .bool r ∧ L = []
theorem spec_IsWord.calls (w : World) (word1 : Str) :
  ∀ r, spec_IsWord.f word1 = some r → Calls Tryz.prog 10 #[strv word1] w (Ret w (spec_IsWord.R r)) := by
 refine calls_T (n := 5) (Γ := [(0, strv word1)]) (R := spec_IsWord.R) Tryz.func10 rfl rfl (Nat.le_of_ble_eq_true rfl) ⟨rfl, trivial⟩ ?_
 unfold spec_IsWord.f
 refine TC.seq <| TC.region <| TL.as (.bool false) <| TL.done <| TC.seq <| TC.region ?_
 refine TL.mv (strv word1) ?_
 refine TL.call (R := G.spec_l04Is.R) Tryz.call29 rfl rfl rfl (fun w hS => G.spec_l04Is.calls w word1) ?_
 rintro r_1 _ _ ⟨rfl, rfl⟩
 exact TL.as (.bool r_1) <| TL.done <| TC.retF (Fin.body (fin1 (.inr rfl) rfl (.tmp rfl) [] rfl ⟨rfl, rfl⟩))
def impl_LegsOf.f (word1 : Str) : Option (Int × Int × Int) := (G.impl_IsWord.f word1).bind (fun r_1 => (bif (!r_1) then some (0, 0, 1) else (G.impl_legs.f word1).bind (fun p => match p with | (r_2, r_3) => some (r_2, r_3, 0))))
def impl_LegsOf.R (r : Int × Int × Int) (v : Value) (L : List Asn) : Prop := v = .tuple #[.int .i64 r.1, .int .i64 r.2.1, .int .i64 r.2.2] ∧ L = []
theorem impl_LegsOf.calls (w : World) (word1 : Str) :
  ∀ r, impl_LegsOf.f word1 = some r → Calls Tryz.prog 11 #[strv word1] w (Ret w (impl_LegsOf.R r)) := by
 refine calls_T (n := 17) (Γ := [(0, strv word1)]) (R := impl_LegsOf.R) Tryz.func11 rfl rfl (Nat.le_of_ble_eq_true rfl) ⟨rfl, trivial⟩ ?_
 unfold impl_LegsOf.f
 refine TC.seq <| TC.region <| TL.as (.int .i64 0) <| TL.as (.int .i64 0) <| TL.as (.int .i64 0) <| TL.done ?_
 refine TC.seq <| TC.seq <| TC.region <| TL.mv (strv word1) ?_
 refine TL.call (R := G.impl_IsWord.R) Tryz.call9 rfl rfl rfl (fun w hS => G.impl_IsWord.calls w word1) ?_
 rintro r_1 _ _ ⟨rfl, rfl⟩
 refine TL.not r_1 rfl rfl rfl ?_
 refine TL.done ?_
 refine TC.cond (b := (!r_1)) rfl (fun c1 => ?_) (fun c2 => ?_)
 ·refine TC.seq <| TC.region <| TL.as (.int .i64 0) <| TL.as (.int .i64 0) <| TL.as (.int .i64 1) <| TL.done ?_
  exact TC.retF (Fin.body (fin3 (.inr rfl) rfl (.tmp rfl) (.tmp rfl) (.tmp rfl) [] rfl ⟨rfl, rfl⟩))
 refine TC.skip <| TC.seq <| TC.region <| TL.mv (strv word1) ?_
 refine TL.call (R := G.impl_legs.R) Tryz.call34 rfl rfl rfl (fun w hS => G.impl_legs.calls w word1) ?_
 rintro ⟨r_2, r_3⟩ _ _ ⟨rfl, rfl⟩
 refine TL.mv (.tuple #[.int .i64 r_2, .int .i64 r_3]) <| TL.extract rfl rfl rfl (v := .int .i64 r_2) rfl <| TL.extract rfl rfl rfl (v := .int .i64 r_3) rfl <| TL.as (.int .i64 r_2) <| TL.as (.int .i64 r_3) <| TL.done ?_
 refine TC.seq <| TC.region <| TL.mv (.int .i64 r_2) <| TL.mv (.int .i64 r_3) <| TL.as (.int .i64 r_2) <| TL.as (.int .i64 r_3) ?_
 exact TL.as (.int .i64 0) <| TL.done <| TC.retF (Fin.body (fin3 (.inr rfl) rfl (.tmp rfl) (.tmp rfl) (.tmp rfl) [] rfl ⟨rfl, rfl⟩))
def spec_LegsOf.f (word1 : Str) : Option (Int × Int × Int) := (G.spec_l04Is.f word1).bind (fun r_1 => (bif (!r_1) then some (0, 0, 1) else (G.spec_l04Ends.f word1).bind (fun p => match p with | (r_2, r_3) => some (r_2, r_3, 0))))
def spec_LegsOf.R (r : Int × Int × Int) (v : Value) (L : List Asn) : Prop := v = .tuple #[.int .i64 r.1, .int .i64 r.2.1, .int .i64 r.2.2] ∧ L = []
theorem spec_LegsOf.calls (w : World) (word1 : Str) :
  ∀ r, spec_LegsOf.f word1 = some r → Calls Tryz.prog 12 #[strv word1] w (Ret w (spec_LegsOf.R r)) := by
 refine calls_T (n := 17) (Γ := [(0, strv word1)]) (R := spec_LegsOf.R) Tryz.func12 rfl rfl (Nat.le_of_ble_eq_true rfl) ⟨rfl, trivial⟩ ?_
 unfold spec_LegsOf.f
 refine TC.seq <| TC.region <| TL.as (.int .i64 0) <| TL.as (.int .i64 0) <| TL.as (.int .i64 0) <| TL.done ?_
 refine TC.seq <| TC.seq <| TC.region <| TL.mv (strv word1) ?_
 refine TL.call (R := G.spec_l04Is.R) Tryz.call29 rfl rfl rfl (fun w hS => G.spec_l04Is.calls w word1) ?_
 rintro r_1 _ _ ⟨rfl, rfl⟩
 refine TL.not r_1 rfl rfl rfl ?_
 refine TL.done ?_
 refine TC.cond (b := (!r_1)) rfl (fun c1 => ?_) (fun c2 => ?_)
 ·refine TC.seq <| TC.region <| TL.as (.int .i64 0) <| TL.as (.int .i64 0) <| TL.as (.int .i64 1) <| TL.done ?_
  exact TC.retF (Fin.body (fin3 (.inr rfl) rfl (.tmp rfl) (.tmp rfl) (.tmp rfl) [] rfl ⟨rfl, rfl⟩))
 refine TC.skip <| TC.seq <| TC.region <| TL.mv (strv word1) ?_
 refine TL.call (R := G.spec_l04Ends.R) Tryz.call35 rfl rfl rfl (fun w hS => G.spec_l04Ends.calls w word1) ?_
 rintro ⟨r_2, r_3⟩ _ _ ⟨rfl, rfl⟩
 refine TL.mv (.tuple #[.int .i64 r_2, .int .i64 r_3]) <| TL.extract rfl rfl rfl (v := .int .i64 r_2) rfl <| TL.extract rfl rfl rfl (v := .int .i64 r_3) rfl <| TL.as (.int .i64 r_2) <| TL.as (.int .i64 r_3) <| TL.done ?_
 refine TC.seq <| TC.region <| TL.mv (.int .i64 r_2) <| TL.mv (.int .i64 r_3) <| TL.as (.int .i64 r_2) <| TL.as (.int .i64 r_3) ?_
 exact TL.as (.int .i64 0) <| TL.done <| TC.retF (Fin.body (fin3 (.inr rfl) rfl (.tmp rfl) (.tmp rfl) (.tmp rfl) [] rfl ⟨rfl, rfl⟩))
def impl_EulerOf.b0 (word1 : Str) : Int × Int → Option (LB (Int × Int)) := fun p => match p with | (sum1, x1) => (bif (decide (x1 < (word1.length : Int))) then chk x1 word1.length ((G.impl_euler.f (gt word1 x1)).bind (fun r_2 => some (.next ((w64 (sum1 + r_2)), (w64 (x1 + 1)))))) else some (.brk (sum1, x1)))
def impl_EulerOf.f (word1 : Str) : Option (Int × Int) := (G.impl_IsWord.f word1).bind (fun r_1 => (bif (!r_1) then some (0, 1) else (loop1 (impl_EulerOf.b0 word1) (0, 0)).bind (fun p => match p with | (sum1, x1) => some (sum1, 0))))
def impl_EulerOf.R (r : Int × Int) (v : Value) (L : List Asn) : Prop := v = .tuple #[.int .i64 r.1, .int .i64 r.2] ∧ L = []
theorem impl_EulerOf.calls (w : World) (word1 : Str) :
  ∀ r, impl_EulerOf.f word1 = some r → Calls Tryz.prog 13 #[strv word1] w (Ret w (impl_EulerOf.R r)) := by
 refine calls_T (n := 22) (Γ := [(0, strv word1)]) (R := impl_EulerOf.R) Tryz.func13 rfl rfl (Nat.le_of_ble_eq_true rfl) ⟨rfl, trivial⟩ ?_
 unfold impl_EulerOf.f
 refine TC.seq <| TC.region <| TL.as (.int .i64 0) <| TL.as (.int .i64 0) <| TL.done <| TC.seq ?_
 refine TC.seq <| TC.region <| TL.mv (strv word1) ?_
 refine TL.call (R := G.impl_IsWord.R) Tryz.call9 rfl rfl rfl (fun w hS => G.impl_IsWord.calls w word1) ?_
 rintro r_1 _ _ ⟨rfl, rfl⟩
 refine TL.not r_1 rfl rfl rfl ?_
 refine TL.done ?_
 refine TC.cond (b := (!r_1)) rfl (fun c1 => ?_) (fun c2 => ?_)
 ·exact TC.seq <| TC.region <| TL.as (.int .i64 0) <| TL.as (.int .i64 1) <| TL.done <| TC.retF (Fin.body (fin2 (.inr rfl) rfl (.tmp rfl) (.tmp rfl) [] rfl ⟨rfl, rfl⟩))
 refine TC.skip <| TC.seq <| TC.region <| TL.as (.int .i64 0) <| TL.done <| TC.seq ?_
 refine TC.seq <| TC.region <| TL.mv (strv word1) <| TL.lenstr Tryz.underlying9 rfl rfl rfl <| TL.mv (.int .i64 0) <| TL.done ?_
 refine TC.loop1 (σ := Int × Int) (γ := Unit) (Γ' := (fun p q => match p, q with | (sum1, x1), _ => [(0, strv word1), (4, .int .i64 sum1), (10, .int .i64 (word1.length : Int)), (11, .int .i64 x1)])) (L' := (fun p q => match p, q with | (sum1, x1), _ => [])) (Γb := (fun p q => match p, q with | (sum1, x1), _ => [(0, strv word1), (4, .int .i64 sum1), (10, .int .i64 (word1.length : Int)), (11, .int .i64 x1)])) (Lb := (fun p q => match p, q with | (sum1, x1), _ => [])) ((0, 0)) (()) ⟨rfl, rfl, rfl, rfl, trivial⟩ [] rfl ?_ ?_
 ·rintro ⟨sum1, x1⟩ _
  refine TC.seq <| TC.region <| TL.bn .i64 x1 (word1.length : Int) (.bool (decide (x1 < (word1.length : Int)))) <| TL.done <| TC.seq ?_
  refine TC.cond (b := (decide (x1 < (word1.length : Int)))) rfl (fun c3 => ?_) (fun c4 => ?_)
  ·refine TC.skip <| TC.seq <| TC.block (NoEx.loop1 rfl) <| TC.seq <| TC.region <| TL.mv (.int .i64 x1) ?_
   refine TL.as (.int .i64 x1) <| TL.done <| TC.region <| TL.mv (.int .i64 sum1) <| TL.mv (strv word1) <| TL.mv (.int .i64 x1) ?_
   refine TL.chk fun h1 => ?_
   refine TL.ixstr x1 h1 Tryz.underlying9 rfl rfl rfl rfl ?_
   refine TL.call (R := G.impl_euler.R) Tryz.call36 rfl rfl rfl (fun w hS => G.impl_euler.calls w (gt word1 x1)) ?_
   rintro r_2 _ _ ⟨rfl, rfl⟩
   refine TL.bn .i64 sum1 r_2 (.int .i64 (w64 (sum1 + r_2))) <| TL.as (.int .i64 (w64 (sum1 + r_2))) <| TL.done <| TC.region <| TL.bn .i64 x1 1 (.int .i64 (w64 (x1 + 1))) <| TL.mv (.int .i64 (w64 (x1 + 1))) ?_
   refine TL.done ?_
   exact TC.next1 (((w64 (sum1 + r_2)), (w64 (x1 + 1)))) (()) ⟨rfl, rfl, rfl, rfl, trivial⟩ [] rfl
  exact TC.brk1 ((sum1, x1)) (()) ⟨rfl, rfl, rfl, rfl, trivial⟩ [] rfl
 rintro ⟨sum1, x1⟩ _
 refine TC.seq <| TC.region <| TL.mv (.int .i64 sum1) <| TL.as (.int .i64 sum1) <| TL.as (.int .i64 0) <| TL.done ?_
 exact TC.retF (Fin.body (fin2 (.inr rfl) rfl (.tmp rfl) (.tmp rfl) [] rfl ⟨rfl, rfl⟩))
def spec_EulerOf.b0 (word1 : Str) : Int × Int → Option (LB (Int × Int)) := fun p => match p with | (sum1, i1) => (bif (decide (i1 < (word1.length : Int))) then chk i1 word1.length ((G.spec_l04Euler.f (gt word1 i1)).bind (fun r_2 => some (.next ((w64 (sum1 + r_2)), (w64 (i1 + 1)))))) else some (.brk (sum1, i1)))
def spec_EulerOf.f (word1 : Str) : Option (Int × Int) := (G.spec_l04Is.f word1).bind (fun r_1 => (bif (!r_1) then some (0, 1) else (loop1 (spec_EulerOf.b0 word1) (0, 0)).bind (fun p => match p with | (sum1, i1) => some (sum1, 0))))
def spec_EulerOf.R (r : Int × Int) (v : Value) (L : List Asn) : Prop := v = .tuple #[.int .i64 r.1, .int .i64 r.2] ∧ L = []
theorem spec_EulerOf.calls (w : World) (word1 : Str) :
  ∀ r, spec_EulerOf.f word1 = some r → Calls Tryz.prog 14 #[strv word1] w (Ret w (spec_EulerOf.R r)) := by
 refine calls_T (n := 22) (Γ := [(0, strv word1)]) (R := spec_EulerOf.R) Tryz.func14 rfl rfl (Nat.le_of_ble_eq_true rfl) ⟨rfl, trivial⟩ ?_
 unfold spec_EulerOf.f
 refine TC.seq <| TC.region <| TL.as (.int .i64 0) <| TL.as (.int .i64 0) <| TL.done <| TC.seq ?_
 refine TC.seq <| TC.region <| TL.mv (strv word1) ?_
 refine TL.call (R := G.spec_l04Is.R) Tryz.call29 rfl rfl rfl (fun w hS => G.spec_l04Is.calls w word1) ?_
 rintro r_1 _ _ ⟨rfl, rfl⟩
 refine TL.not r_1 rfl rfl rfl ?_
 refine TL.done ?_
 refine TC.cond (b := (!r_1)) rfl (fun c1 => ?_) (fun c2 => ?_)
 ·exact TC.seq <| TC.region <| TL.as (.int .i64 0) <| TL.as (.int .i64 1) <| TL.done <| TC.retF (Fin.body (fin2 (.inr rfl) rfl (.tmp rfl) (.tmp rfl) [] rfl ⟨rfl, rfl⟩))
 refine TC.skip <| TC.seq <| TC.region <| TL.as (.int .i64 0) <| TL.done <| TC.seq ?_
 refine TC.seq <| TC.region <| TL.as (.int .i64 0) <| TL.done ?_
 refine TC.loop1 (σ := Int × Int) (γ := Unit) (Γ' := (fun p q => match p, q with | (sum1, i1), _ => [(0, strv word1), (4, .int .i64 sum1), (5, .int .i64 i1)])) (L' := (fun p q => match p, q with | (sum1, i1), _ => [])) (Γb := (fun p q => match p, q with | (sum1, i1), _ => [(0, strv word1), (4, .int .i64 sum1), (5, .int .i64 i1)])) (Lb := (fun p q => match p, q with | (sum1, i1), _ => [])) ((0, 0)) (()) ⟨rfl, rfl, rfl, trivial⟩ [] rfl ?_ ?_
 ·rintro ⟨sum1, i1⟩ _
  refine TC.seq <| TC.seq <| TC.region <| TL.mv (.int .i64 i1) <| TL.mv (strv word1) <| TL.lenstr Tryz.underlying9 rfl rfl rfl ?_
  refine TL.bn .i64 i1 (word1.length : Int) (.bool (decide (i1 < (word1.length : Int)))) <| TL.done ?_
  refine TC.cond (b := (decide (i1 < (word1.length : Int)))) rfl (fun c3 => ?_) (fun c4 => ?_)
  ·refine TC.skip <| TC.seq <| TC.block (NoEx.loop1 rfl) <| TC.region <| TL.mv (.int .i64 sum1) <| TL.mv (strv word1) ?_
   refine TL.mv (.int .i64 i1) ?_
   refine TL.chk fun h1 => ?_
   refine TL.ixstr i1 h1 Tryz.underlying9 rfl rfl rfl rfl ?_
   refine TL.call (R := G.spec_l04Euler.R) Tryz.call37 rfl rfl rfl (fun w hS => G.spec_l04Euler.calls w (gt word1 i1)) ?_
   rintro r_2 _ _ ⟨rfl, rfl⟩
   refine TL.bn .i64 sum1 r_2 (.int .i64 (w64 (sum1 + r_2))) <| TL.as (.int .i64 (w64 (sum1 + r_2))) <| TL.done <| TC.region <| TL.mv (.int .i64 i1) <| TL.bn .i64 i1 1 (.int .i64 (w64 (i1 + 1))) ?_
   refine TL.as (.int .i64 (w64 (i1 + 1))) <| TL.done ?_
   exact TC.next1 (((w64 (sum1 + r_2)), (w64 (i1 + 1)))) (()) ⟨rfl, rfl, rfl, trivial⟩ [] rfl
  exact TC.brk1 ((sum1, i1)) (()) ⟨rfl, rfl, rfl, trivial⟩ [] rfl
 rintro ⟨sum1, i1⟩ _
 refine TC.seq <| TC.region <| TL.mv (.int .i64 sum1) <| TL.as (.int .i64 sum1) <| TL.as (.int .i64 0) <| TL.done ?_
 exact TC.retF (Fin.body (fin2 (.inr rfl) rfl (.tmp rfl) (.tmp rfl) [] rfl ⟨rfl, rfl⟩))
end Go.Proofs.YtpejnjpckacciaaGreatDoor.G
