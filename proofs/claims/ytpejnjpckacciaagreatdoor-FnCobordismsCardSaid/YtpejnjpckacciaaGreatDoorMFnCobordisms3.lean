/- Functions of the program, as pure functions. -/
import Derived.Test.YtpejnjpckacciaaGreatDoorMFnCobordisms2
import Derived.Test.YtpejnjpckacciaaGreatDoorProg
import Derived.Maps.RangeRun
import Derived.LaidEql
import Derived.WalkKit
import Derived.Laws.CopyRow
import Derived.Laws.IdiomCopy
import Derived.Deep.WholeRow
import Derived.Deep.QuietTactic
import Derived.RegionTactic
set_option linter.unusedVariables false
set_option maxRecDepth 1000000
set_option maxHeartbeats 4000000
namespace Go.Proofs.YtpejnjpckacciaaGreatDoor.G
open Go Go.Sx Go.Proofs
def impl_IsWord.b0 (r_1 : List Str) : Int × Int → Option (LR (Int × Int) Bool) := fun p => match p with | (above1, x1) => (bif (decide (x1 < (r_1.length : Int))) then chk x1 r_1.length ((G.impl_legsOfLayer.f (gt r_1 x1)).bind (fun p => match p with | (r_2, r_3, r_4) => (bif ((!r_4) || ((decide (above1 ≥ 0)) && (r_2 != above1))) then some (.ret (false)) else some (.next (r_3, (w64 (x1 + 1))))))) else some (.brk (above1, x1)))
def impl_IsWord.f (word1 : Str) : Option Bool := (G.impl_layers.f word1).bind (fun r_1 => (loop (impl_IsWord.b0 r_1) ((-1), 0)).bind (ln (fun p => match p with | (above1, x1) => (G.impl_small.f word1).bind (fun r_5 => some r_5))))
def impl_IsWord.R (r : Bool) (v : Value) (L : List Asn) : Prop := v = .bool r ∧ L = []
theorem impl_IsWord.calls (w : World) (word1 : Str) :
  ∀ r, impl_IsWord.f word1 = some r → Calls Tryz.prog 9 #[strv word1] w (Ret w (impl_IsWord.R r)) := by
 refine calls_T (n := 37) (Γ := [(0, strv word1)]) (R := impl_IsWord.R) Tryz.func9 rfl rfl (Nat.le_of_ble_eq_true rfl) ⟨rfl, trivial⟩ ?_
 unfold impl_IsWord.f
 refine TC.seq <| TC.region <| TL.as (.bool false) <| TL.done <| TC.seq <| TC.region ?_
 refine TL.as (.int .i64 (-1)) <| TL.done <| TC.seq <| TC.seq <| TC.region <| TL.mv (strv word1) ?_
 refine TL.call (R := G.impl_layers.R) Tryz.call31 rfl rfl rfl (fun w hS => G.impl_layers.calls w word1) ?_
 rintro r_1 _ _ ⟨s1, rfl, rfl⟩
 refine TL.len (Rd.row 0 rfl) Tryz.underlying49 rfl rfl rfl <| TL.mv (.int .i64 0) <| TL.done ?_
 refine TC.loopK (σ := Int × Int) (γ := Unit) (Γ' := (fun p q => match p, q with | (above1, x1), _ => [(0, strv word1), (3, .int .i64 above1), (10, SV.v s1), (11, .int .i64 (r_1.length : Int)), (12, .int .i64 x1)])) (L' := (fun p q => match p, q with | (above1, x1), _ => [row Es 9 s1 r_1])) (Γb := (fun p q => match p, q with | (above1, x1), _ => [(0, strv word1), (3, .int .i64 above1), (10, SV.v s1), (11, .int .i64 (r_1.length : Int)), (12, .int .i64 x1)])) (Lb := (fun p q => match p, q with | (above1, x1), _ => [row Es 9 s1 r_1])) (((-1), 0)) (()) ⟨rfl, rfl, rfl, rfl, rfl, trivial⟩ [0] rfl ?_ ?_
 ·rintro ⟨above1, x1⟩ _
  refine TC.seq <| TC.region <| TL.bn .i64 x1 (r_1.length : Int) (.bool (decide (x1 < (r_1.length : Int)))) <| TL.done <| TC.seq ?_
  refine TC.cond (b := (decide (x1 < (r_1.length : Int)))) rfl (fun c1 => ?_) (fun c2 => ?_)
  ·refine TC.skip <| TC.seq <| TC.block (NoEx.loop rfl NoEx.body) <| TC.seq <| TC.region ?_
   refine TL.chk fun h1 => ?_
   refine TL.ixs x1 x1.toNat (Rd.row 0 rfl) h1 Tryz.underlying49 Tryz.sizeOf9 rfl rfl rfl rfl (by omega) ?_
   refine TL.loadE (Rd.row 0 rfl) Tryz.isAgg9 x1.toNat 0 (gt_spec h1) (v := strv (gt r_1 x1)) rfl (by simp only [show Es.sz = 1 from rfl] <;> omega) rfl rfl rfl ?_
   refine TL.as (strv (gt r_1 x1)) <| TL.done <| TC.seq <| TC.region <| TL.mv (strv (gt r_1 x1)) ?_
   refine TL.call (R := G.impl_legsOfLayer.R) Tryz.call32 rfl rfl rfl (fun w hS => G.impl_legsOfLayer.calls w (gt r_1 x1)) ?_
   rintro ⟨r_2, r_3, r_4⟩ _ _ ⟨rfl, rfl⟩
   refine TL.mv (.tuple #[.int .i64 r_2, .int .i64 r_3, .bool r_4]) <| TL.extract rfl rfl rfl (v := .int .i64 r_2) rfl <| TL.extract rfl rfl rfl (v := .int .i64 r_3) rfl <| TL.extract rfl rfl rfl (v := .bool r_4) rfl <| TL.as (.int .i64 r_2) <| TL.as (.int .i64 r_3) ?_
   refine TL.as (.bool r_4) <| TL.done <| TC.seq <| TC.seq <| TC.region <| TL.mv (.bool r_4) ?_
   refine TL.not r_4 rfl rfl rfl ?_
   refine TL.mv (.bool (!r_4)) ?_
   refine TL.cutU 8 [(32, .bool ((!r_4) || ((decide (above1 ≥ 0)) && (r_2 != above1)))), (0, strv word1), (3, .int .i64 above1), (10, SV.v s1), (11, .int .i64 (r_1.length : Int)), (12, .int .i64 x1), (13, .bool (decide (x1 < (r_1.length : Int)))), (14, ep s1 x1.toNat), (15, strv (gt r_1 x1)), (5, strv (gt r_1 x1)), (17, strv (gt r_1 x1)), (18, .tuple #[.int .i64 r_2, .int .i64 r_3, .bool r_4]), (16, .tuple #[.int .i64 r_2, .int .i64 r_3, .bool r_4]), (19, .int .i64 r_2), (20, .int .i64 r_3), (21, .bool r_4), (6, .int .i64 r_2), (7, .int .i64 r_3), (8, .bool r_4), (22, .bool r_4), (23, .bool (!r_4)), (24, .bool (!r_4))] [row Es 9 s1 r_1] ?_ ?_
   ·refine TL.cases (t := 24) (b := (!r_4)) rfl (fun c3 => ?_) (fun c4 => ?_)
    ·refine TL.sk <| TL.sk <| TL.sk <| TL.sk <| TL.sk <| TL.sk ?_
     exact TL.sk <| TL.pk true (.bool true) <| TL.done <| TC.nrm () () ⟨(by rw [c3]; rfl), rfl, rfl, rfl, rfl, rfl, rfl, rfl, rfl, rfl, rfl, rfl, rfl, rfl, rfl, rfl, rfl, rfl, rfl, rfl, rfl, (by rw [c3]; rfl), trivial⟩ [0] (by kernel_rfl)
    refine TL.mv (.int .i64 above1) <| TL.bn .i64 above1 0 (.bool (decide (above1 ≥ 0))) <| TL.mv (.bool (decide (above1 ≥ 0))) ?_
    refine TL.cutU 4 [(31, .bool ((decide (above1 ≥ 0)) && (r_2 != above1))), (0, strv word1), (3, .int .i64 above1), (10, SV.v s1), (11, .int .i64 (r_1.length : Int)), (12, .int .i64 x1), (13, .bool (decide (x1 < (r_1.length : Int)))), (14, ep s1 x1.toNat), (15, strv (gt r_1 x1)), (5, strv (gt r_1 x1)), (17, strv (gt r_1 x1)), (18, .tuple #[.int .i64 r_2, .int .i64 r_3, .bool r_4]), (16, .tuple #[.int .i64 r_2, .int .i64 r_3, .bool r_4]), (19, .int .i64 r_2), (20, .int .i64 r_3), (21, .bool r_4), (6, .int .i64 r_2), (7, .int .i64 r_3), (8, .bool r_4), (22, .bool r_4), (23, .bool (!r_4)), (24, .bool false), (25, .int .i64 above1), (26, .bool (decide (above1 ≥ 0))), (27, .bool (decide (above1 ≥ 0)))] [row Es 9 s1 r_1] ?_ ?_
    ·refine TL.cases (t := 27) (b := (decide (above1 ≥ 0))) rfl (fun c5 => ?_) (fun c6 => ?_)
     ·exact TL.mv (.int .i64 r_2) <| TL.mv (.int .i64 above1) <| TL.bn .i64 r_2 above1 (.bool (r_2 != above1)) <| TL.pk true (.bool (r_2 != above1)) <| TL.done <| TC.nrm () () ⟨(by rw [c5]; rfl), rfl, rfl, rfl, rfl, rfl, rfl, rfl, rfl, rfl, rfl, rfl, rfl, rfl, rfl, rfl, rfl, rfl, rfl, rfl, rfl, rfl, rfl, rfl, (by rw [c5]; rfl), trivial⟩ [0] (by kernel_rfl)
     exact TL.sk <| TL.sk <| TL.sk <| TL.pk false (.bool false) <| TL.done <| TC.nrm () () ⟨(by rw [c6]; rfl), rfl, rfl, rfl, rfl, rfl, rfl, rfl, rfl, rfl, rfl, rfl, rfl, rfl, rfl, rfl, rfl, rfl, rfl, rfl, rfl, rfl, rfl, rfl, (by rw [c6]; rfl), trivial⟩ [0] (by kernel_rfl)
    exact TL.pk false (.bool ((decide (above1 ≥ 0)) && (r_2 != above1))) <| TL.done <| TC.nrm () () ⟨(by rw [c4]; rfl), rfl, rfl, rfl, rfl, rfl, rfl, rfl, rfl, rfl, rfl, rfl, rfl, rfl, rfl, rfl, rfl, rfl, rfl, rfl, rfl, (by rw [c4]; rfl), trivial⟩ [0] (by kernel_rfl)
   refine TL.done ?_
   refine TC.cond (b := ((!r_4) || ((decide (above1 ≥ 0)) && (r_2 != above1)))) rfl (fun c7 => ?_) (fun c8 => ?_)
   ·exact TC.seq <| TC.region <| TL.as (.bool false) <| TL.done <| TC.retF (Fin.loop Far.ret (Fin.body (fin1 (.inr rfl) rfl (.tmp rfl) [] rfl ⟨rfl, rfl⟩)))
   refine TC.skip <| TC.region <| TL.mv (.int .i64 r_3) <| TL.as (.int .i64 r_3) <| TL.done <| TC.region ?_
   refine TL.bn .i64 x1 1 (.int .i64 (w64 (x1 + 1))) <| TL.mv (.int .i64 (w64 (x1 + 1))) <| TL.done ?_
   exact TC.next ((r_3, (w64 (x1 + 1)))) (()) ⟨rfl, rfl, rfl, rfl, rfl, trivial⟩ [0] rfl
  exact TC.brk ((above1, x1)) (()) ⟨rfl, rfl, rfl, rfl, rfl, trivial⟩ [0] rfl
 rintro ⟨above1, x1⟩ _
 refine TC.seq <| TC.region <| TL.mv (strv word1) ?_
 refine TL.call (R := G.impl_small.R) Tryz.call33 rfl rfl rfl (fun w hS => G.impl_small.calls w word1) ?_
 rintro r_5 _ _ ⟨rfl, rfl⟩
 exact TL.as (.bool r_5) <| TL.done <| TC.retF (Fin.body (fin1 (.inr rfl) rfl (.tmp rfl) [] rfl ⟨rfl, rfl⟩))
def impl_legs.f (word1 : Str) : Option (Int × Int) := (G.impl_layers.f word1).bind (fun r_1 => (bif ((r_1.length : Int) == 0) then some (0, 0) else chk 0 r_1.length ((G.impl_legsOfLayer.f (gt r_1 0)).bind (fun p => match p with | (r_2, r_3, r_4) => chk (w64 ((r_1.length : Int) - 1)) r_1.length ((G.impl_legsOfLayer.f (gt r_1 (w64 ((r_1.length : Int) - 1)))).bind (fun p => match p with | (r_5, r_6, r_7) => some (r_2, r_6)))))))
def impl_legs.R (r : Int × Int) (v : Value) (L : List Asn) : Prop := v = .tuple #[.int .i64 r.1, .int .i64 r.2] ∧ L = []
theorem impl_legs.calls (w : World) (word1 : Str) :
  ∀ r, impl_legs.f word1 = some r → Calls Tryz.prog 34 #[strv word1] w (Ret w (impl_legs.R r)) := by
 refine calls_T (n := 37) (Γ := [(0, strv word1)]) (R := impl_legs.R) Tryz.func34 rfl rfl (Nat.le_of_ble_eq_true rfl) ⟨rfl, trivial⟩ ?_
 unfold impl_legs.f
 refine TC.seq <| TC.region <| TL.as (.int .i64 0) <| TL.as (.int .i64 0) <| TL.done <| TC.seq ?_
 refine TC.region <| TL.mv (strv word1) ?_
 refine TL.call (R := G.impl_layers.R) Tryz.call31 rfl rfl rfl (fun w hS => G.impl_layers.calls w word1) ?_
 rintro r_1 _ _ ⟨s1, rfl, rfl⟩
 refine TL.as (SV.v s1) <| TL.done <| TC.seq <| TC.seq <| TC.region <| TL.mv (SV.v s1) ?_
 refine TL.len (Rd.row 0 rfl) Tryz.underlying49 rfl rfl rfl <| TL.bn .i64 (r_1.length : Int) 0 (.bool ((r_1.length : Int) == 0)) <| TL.done ?_
 refine TC.cond (b := ((r_1.length : Int) == 0)) rfl (fun c1 => ?_) (fun c2 => ?_)
 ·exact TC.seq <| TC.region <| TL.as (.int .i64 0) <| TL.as (.int .i64 0) <| TL.done <| TC.retF (Fin.body (fin2 (.inr rfl) rfl (.tmp rfl) (.tmp rfl) [] rfl ⟨rfl, rfl⟩))
 refine TC.skip <| TC.seq <| TC.region <| TL.mv (SV.v s1) ?_
 refine TL.chk fun h1 => ?_
 refine TL.ixs 0 0 (Rd.row 0 rfl) h1 Tryz.underlying49 Tryz.sizeOf9 rfl rfl rfl rfl rfl <| TL.loadE (Rd.row 0 rfl) Tryz.isAgg9 0 0 (gt_spec h1) (v := strv (gt r_1 0)) rfl rfl rfl rfl rfl ?_
 refine TL.call (R := G.impl_legsOfLayer.R) Tryz.call32 rfl rfl rfl (fun w hS => G.impl_legsOfLayer.calls w (gt r_1 0)) ?_
 rintro ⟨r_2, r_3, r_4⟩ _ _ ⟨rfl, rfl⟩
 refine TL.mv (.tuple #[.int .i64 r_2, .int .i64 r_3, .bool r_4]) <| TL.extract rfl rfl rfl (v := .int .i64 r_2) rfl <| TL.extract rfl rfl rfl (v := .int .i64 r_3) rfl <| TL.extract rfl rfl rfl (v := .bool r_4) rfl <| TL.as (.int .i64 r_2) <| TL.as (.int .i64 r_3) ?_
 refine TL.as (.bool r_4) <| TL.done <| TC.seq <| TC.region <| TL.mv (SV.v s1) <| TL.mv (SV.v s1) ?_
 refine TL.len (Rd.row 0 rfl) Tryz.underlying49 rfl rfl rfl <| TL.bn .i64 (r_1.length : Int) 1 (.int .i64 (w64 ((r_1.length : Int) - 1))) ?_
 refine TL.chk fun h2 => ?_
 refine TL.ixs (w64 ((r_1.length : Int) - 1)) ((w64 ((r_1.length : Int) - 1)).toNat) (Rd.row 0 rfl) h2 Tryz.underlying49 Tryz.sizeOf9 rfl rfl rfl rfl (by omega) ?_
 refine TL.loadE (Rd.row 0 rfl) Tryz.isAgg9 (w64 ((r_1.length : Int) - 1)).toNat 0 (gt_spec h2) (v := strv (gt r_1 (w64 ((r_1.length : Int) - 1)))) rfl (by simp only [show Es.sz = 1 from rfl] <;> omega) rfl rfl rfl ?_
 refine TL.call (R := G.impl_legsOfLayer.R) Tryz.call32 rfl rfl rfl (fun w hS => G.impl_legsOfLayer.calls w (gt r_1 (w64 ((r_1.length : Int) - 1)))) ?_
 rintro ⟨r_5, r_6, r_7⟩ _ _ ⟨rfl, rfl⟩
 refine TL.mv (.tuple #[.int .i64 r_5, .int .i64 r_6, .bool r_7]) <| TL.extract rfl rfl rfl (v := .int .i64 r_5) rfl <| TL.extract rfl rfl rfl (v := .int .i64 r_6) rfl <| TL.extract rfl rfl rfl (v := .bool r_7) rfl <| TL.as (.int .i64 r_5) <| TL.as (.int .i64 r_6) ?_
 refine TL.as (.bool r_7) <| TL.done <| TC.seq <| TC.region <| TL.mv (.int .i64 r_2) <| TL.mv (.int .i64 r_6) ?_
 exact TL.as (.int .i64 r_2) <| TL.as (.int .i64 r_6) <| TL.done <| TC.retF (Fin.body (fin2 (.inr rfl) rfl (.tmp rfl) (.tmp rfl) [] rfl ⟨rfl, rfl⟩))
def impl_pool_add.f (p1 : List Int) : Option (Int × (List Int)) := small (p1.length + ([(p1.length : Int)] : List Int).length) (some ((w64 (((p1 ++ ([(p1.length : Int)] : List Int)).length : Int) - 1)), (p1 ++ ([(p1.length : Int)] : List Int))))
def impl_pool_add.R (b_1 : Nat) (u1 : Value) (u2 : Value) (r : Int × (List Int)) (v : Value) (L : List Asn) : Prop := ∃ (s0 : SV), v = .int .i64 r.1 ∧ L = [box b_1 77 [.one (SV.v s0), .one (u1), .one (u2)], row Ei 3 s0 r.2]
theorem impl_pool_add.calls (w0 : World) (I : Hp) (w : World) (b_1 : Nat) (u1 : Value) (u2 : Value) (s1 : SV) (p1 : List Int) (hS : St w0 I [box b_1 77 [.one (SV.v s1), .one (u1), .one (u2)], row Ei 3 s1 p1] w) :
  ∀ r, impl_pool_add.f p1 = some r → Calls Tryz.prog 55 #[bp b_1 0] w (RetM w0 I ((impl_pool_add.R b_1 u1 u2) r)) := by
 refine calls_TM (w0 := w0) (I := I) (L := [box b_1 77 [.one (SV.v s1), .one (u1), .one (u2)], row Ei 3 s1 p1]) (n := 19) (Γ := [(0, bp b_1 0)]) (R := (impl_pool_add.R b_1 u1 u2)) Tryz.func55 rfl rfl (Nat.le_of_ble_eq_true rfl) ⟨rfl, trivial⟩ ?_ w hS
 unfold impl_pool_add.f
 refine TC.seq <| TC.region <| TL.as (.int .i64 0) <| TL.done <| TC.seq ?_
 refine TC.wk (Γ' := [(0, bp b_1 0), (2, .int .i64 0)]) ⟨rfl, rfl, trivial⟩ ?_
 refine TC.small fun h1 => ?_
 refine TC.drawG [(0, bp b_1 0), (2, .int .i64 0)] [] ⟨rfl, rfl, trivial⟩ trivial (fun l_ g1 => [(bif nb l_ 11 then box b_1 77 [.one (SV.v (gs (g1 72))), .one (u1), .one (u2)] else box b_1 77 [.one (SV.v s1), .one (u1), .one (u2)]), (bif nb l_ 9 then row Ei 3 (gs (g1 72)) (p1 ++ ([(p1.length : Int)] : List Int)) else row Ei 3 s1 p1), (bif nb l_ 8 then row Ei 3 (gs (g1 64)) ([(p1.length : Int)] : List Int) else emp)]) (fun g1 => [bp b_1 0, bp b_1 0, bp b_1 0, SV.v s1, bp b_1 0, bp b_1 0, SV.v s1, .int .i64 (p1.length : Int), SV.v (gs (g1 64)), SV.v (gs (g1 72)), bp b_1 0, undef]) [[], [], [1], [1, 2], [], [4], [4, 5], [4, 5, 6], [4, 5, 6, 7], [1, 2, 3, 4, 5, 6, 7, 8], [0, 1, 2, 3, 4, 5, 6, 7, 8, 9], [0, 1, 2, 3, 4, 5, 6, 7, 8, 9, 10]] [[oF, none, none, none, none, none, none, none, none, none, oF, oF], [none, oF, oF, oF, none, none, none, none, none, oF, oF, oF], [none, oT, oF, oF, none, none, none, none, none, oF, oF, oF], [none, oT, oT, oF, none, none, none, none, none, oF, oF, oF], [none, none, none, none, oF, oF, oF, oF, oF, oF, oF, oF], [none, none, none, none, oT, oF, oF, oF, oF, oF, oF, oF], [none, none, none, none, oT, oT, oF, oF, oF, oF, oF, oF], [none, none, none, none, oT, oT, oT, oF, oF, oF, oF, oF], [none, none, none, none, oT, oT, oT, oT, oF, oF, oF, oF], [none, oT, oT, oT, oT, oT, oT, oT, oT, oF, oF, oF], [oT, oT, oT, oT, oT, oT, oT, oT, oT, oT, oF, oF], [oT, oT, oT, oT, oT, oT, oT, oT, oT, oT, oT, oF]] (by kernel_rfl) (fun _ => rfl) rfl rfl rfl rfl rfl (fun _ _ => ⟨⟨⟨⟨⟨⟨⟨⟨⟨⟨⟨⟨trivial, rfl⟩, rfl⟩, rfl⟩, rfl⟩, rfl⟩, rfl⟩, rfl⟩, rfl⟩, rfl⟩, rfl⟩, rfl⟩, rfl⟩) 1 [1, 1, 0] (fun _ => by kernel_rfl) ?_ ?_
 ·refine ⟨rfl, ?_, rfl, ?_, rfl, ?_, rfl, ?_, rfl, ?_, rfl, ?_, rfl, ?_, rfl, ?_, rfl, ?_, rfl, ?_, rfl, ?_, rfl, ?_, trivial⟩
  ·intro b1_ b2_ b3_ b4_ b5_ b6_ b7_ b8_ b9_ g1
   exact TL.mv (bp b_1 0) <| TL.done <| TC.n1 [0, 0, 0]
  ·intro b0_ b4_ b5_ b6_ b7_ b8_ g1
   exact TL.mv (bp b_1 0) <| TL.done <| TC.n1 [0, 0, 0]
  ·intro b0_ b4_ b5_ b6_ b7_ b8_ g1
   refine TL.nilCheck rfl rfl rfl ?_
   exact TL.done <| TC.n1 [0, 0, 0]
  ·intro b0_ b4_ b5_ b6_ b7_ b8_ g1
   exact TL.ll [box b_1 77 [.one (SV.v s1), .one (u1), .one (u2)], row Ei 3 s1 p1, (bif b8_ then row Ei 3 (gs (g1 64)) ([(p1.length : Int)] : List Int) else emp)] <| TL.load1 0 (Src.box 0 rfl) Tryz.isAgg75 rfl rfl rfl rfl rfl <| TL.done <| TC.n1 [0, 0, 0]
  ·intro b0_ b1_ b2_ b3_ g1
   exact TL.mv (bp b_1 0) <| TL.done <| TC.n1 [0, 0, 0]
  ·intro b0_ b1_ b2_ b3_ g1
   refine TL.nilCheck rfl rfl rfl ?_
   exact TL.done <| TC.n1 [0, 0, 0]
  ·intro b0_ b1_ b2_ b3_ g1
   exact TL.ll [box b_1 77 [.one (SV.v s1), .one (u1), .one (u2)], row Ei 3 s1 p1, emp] <| TL.load1 0 (Src.box 0 rfl) Tryz.isAgg75 rfl rfl rfl rfl rfl <| TL.done <| TC.n1 [0, 0, 0]
  ·intro b0_ b1_ b2_ b3_ g1
   exact TL.ll [box b_1 77 [.one (SV.v s1), .one (u1), .one (u2)], row Ei 3 s1 p1, emp] <| TL.len (Rd.row 1 rfl) Tryz.underlying75 rfl rfl rfl <| TL.done <| TC.n1 [0, 0, 0]
  ·intro b0_ b1_ b2_ b3_ g1
   refine TL.ll [box b_1 77 [.one (SV.v s1), .one (u1), .one (u2)], row Ei 3 s1 p1, emp] ?_
   refine TL.blit Ei ([(p1.length : Int)] : List Int) Tryz.underlying75 Tryz.sizeOf3 Tryz.zeroValue3 rfl rfl rfl [(0, .int .i64 (p1.length : Int))] rfl ⟨rfl, rfl, trivial⟩ rfl rfl fun s2 => ?_
   exact TL.done <| TC.nrm () [[s2]] ⟨rfl, trivial⟩ [1, 1, 0] (by kernel_rfl)
  ·intro b0_ g1
   refine TL.ll [box b_1 77 [.one (SV.v s1), .one (u1), .one (u2)], row Ei 3 s1 p1, row Ei 3 (gs (g1 64)) ([(p1.length : Int)] : List Int)] ?_
   refine TL.append 1 rfl (Rd.row 2 rfl) Tryz.underlying75 (info_of Tryz.type3) (zv := (Tryz.t3.zero.getD (.bool false))) rfl rfl rfl (by decide) h1 rfl rfl rfl rfl fun s3 => ?_
   exact TL.done <| TC.nrm () [[s3]] ⟨rfl, trivial⟩ [0, 0, 0] (by kernel_rfl)
  ·intro g1
   refine TL.nilCheck rfl rfl rfl ?_
   exact TL.done <| TC.n1 [0, 0, 0]
  intro g1
  refine TL.ll [box b_1 77 [.one (SV.v s1), .one (u1), .one (u2)], row Ei 3 (gs (g1 72)) (p1 ++ ([(p1.length : Int)] : List Int)), row Ei 3 (gs (g1 64)) ([(p1.length : Int)] : List Int)] ?_
  refine TL.st1 0 0 rfl Tryz.sizeOf75 rfl rfl rfl rfl rfl rfl rfl ?_
  exact TL.done <| TC.nrm () [] trivial [0, 0, 0] (by kernel_rfl)
 intro g1
 refine TC.ll [box b_1 77 [.one (SV.v (gs (g1 72))), .one (u1), .one (u2)], row Ei 3 (gs (g1 72)) (p1 ++ ([(p1.length : Int)] : List Int)), row Ei 3 (gs (g1 64)) ([(p1.length : Int)] : List Int)] <| TC.seq <| TC.region <| TL.mv (bp b_1 0) ?_
 refine TL.nilCheck rfl rfl rfl ?_
 exact TL.load1 0 (Src.box 0 rfl) Tryz.isAgg75 rfl rfl rfl rfl rfl <| TL.len (Rd.row 1 rfl) Tryz.underlying75 rfl rfl rfl <| TL.bn .i64 ((p1 ++ ([(p1.length : Int)] : List Int)).length : Int) 1 (.int .i64 (w64 (((p1 ++ ([(p1.length : Int)] : List Int)).length : Int) - 1))) <| TL.as (.int .i64 (w64 (((p1 ++ ([(p1.length : Int)] : List Int)).length : Int) - 1))) <| TL.done <| TC.retF (Fin.body (fin1 (.inr rfl) rfl (.tmp rfl) [0, 0] rfl ⟨(gs (g1 72)), rfl, rfl⟩))
def impl_euler.f (c1 : UInt8) : Option Int := ((bif ((c1.toNat : Int) == ((117 : UInt8).toNat : Int)) then some ((c1.toNat : Int) == ((117 : UInt8).toNat : Int)) else some ((c1.toNat : Int) == ((101 : UInt8).toNat : Int)))).bind (fun x1 => (bif x1 then some 1 else ((bif ((c1.toNat : Int) == ((109 : UInt8).toNat : Int)) then some ((c1.toNat : Int) == ((109 : UInt8).toNat : Int)) else some ((c1.toNat : Int) == ((115 : UInt8).toNat : Int)))).bind (fun x2 => (bif x2 then some (-1) else some 0))))
def impl_euler.R (r : Int) (v : Value) (L : List Asn) : Prop := v = .int .i64 r ∧ L = []
theorem impl_euler.calls (w : World) (c1 : UInt8) :
  ∀ r, impl_euler.f c1 = some r → Calls Tryz.prog 36 #[u8v c1] w (Ret w (impl_euler.R r)) := by
 refine calls_T (n := 10) (Γ := [(0, u8v c1)]) (R := impl_euler.R) Tryz.func36 rfl rfl (Nat.le_of_ble_eq_true rfl) ⟨rfl, trivial⟩ ?_
 unfold impl_euler.f
 refine TC.seq <| TC.region <| TL.as (.int .i64 0) <| TL.done <| TC.seq <| TC.seq ?_
 refine TC.region <| TL.mv (u8v c1) <| TL.done <| TC.block NoEx.body <| TC.seq <| TC.seq ?_
 refine TC.region <| TL.bn .u8 (c1.toNat : Int) ((117 : UInt8).toNat : Int) (.bool ((c1.toNat : Int) == ((117 : UInt8).toNat : Int))) <| TL.as (.bool ((c1.toNat : Int) == ((117 : UInt8).toNat : Int))) <| TL.done ?_
 refine TC.join1 (σ := Bool) (γ := Unit) (Γ' := (fun x1 _ => [(3, u8v c1), (4, .bool x1)])) (L' := (fun x1 _ => [])) ?_ ?_
 ·refine TC.cond (b := ((c1.toNat : Int) == ((117 : UInt8).toNat : Int))) rfl (fun c2 => ?_) (fun c3 => ?_)
  ·exact TC.skip <| TC.nrm (((c1.toNat : Int) == ((117 : UInt8).toNat : Int))) (()) ⟨rfl, rfl, trivial⟩ [] rfl
  exact TC.region <| TL.bn .u8 (c1.toNat : Int) ((101 : UInt8).toNat : Int) (.bool ((c1.toNat : Int) == ((101 : UInt8).toNat : Int))) <| TL.as (.bool ((c1.toNat : Int) == ((101 : UInt8).toNat : Int))) <| TL.done <| TC.nrm (((c1.toNat : Int) == ((101 : UInt8).toNat : Int))) (()) ⟨rfl, rfl, trivial⟩ [] rfl
 rintro x1 _
 refine TC.cond (b := x1) rfl (fun c4 => ?_) (fun c5 => ?_)
 ·exact TC.seq <| TC.region <| TL.as (.int .i64 1) <| TL.done <| TC.retF (Fin.body (fin1 (.inr rfl) rfl (.tmp rfl) [] rfl ⟨rfl, rfl⟩))
 refine TC.seq <| TC.seq <| TC.region <| TL.bn .u8 (c1.toNat : Int) ((109 : UInt8).toNat : Int) (.bool ((c1.toNat : Int) == ((109 : UInt8).toNat : Int))) <| TL.as (.bool ((c1.toNat : Int) == ((109 : UInt8).toNat : Int))) <| TL.done ?_
 refine TC.join1 (σ := Bool) (γ := Unit) (Γ' := (fun x2 _ => [(7, .bool x2)])) (L' := (fun x2 _ => [])) ?_ ?_
 ·refine TC.cond (b := ((c1.toNat : Int) == ((109 : UInt8).toNat : Int))) rfl (fun c6 => ?_) (fun c7 => ?_)
  ·exact TC.skip <| TC.nrm (((c1.toNat : Int) == ((109 : UInt8).toNat : Int))) (()) ⟨rfl, trivial⟩ [] rfl
  exact TC.region <| TL.bn .u8 (c1.toNat : Int) ((115 : UInt8).toNat : Int) (.bool ((c1.toNat : Int) == ((115 : UInt8).toNat : Int))) <| TL.as (.bool ((c1.toNat : Int) == ((115 : UInt8).toNat : Int))) <| TL.done <| TC.nrm (((c1.toNat : Int) == ((115 : UInt8).toNat : Int))) (()) ⟨rfl, trivial⟩ [] rfl
 rintro x2 _
 refine TC.cond (b := x2) rfl (fun c8 => ?_) (fun c9 => ?_)
 ·exact TC.seq <| TC.region <| TL.as (.int .i64 (-1)) <| TL.done <| TC.retF (Fin.body (fin1 (.inr rfl) rfl (.tmp rfl) [] rfl ⟨rfl, rfl⟩))
 exact TC.skip <| TC.seq <| TC.region <| TL.as (.int .i64 0) <| TL.done <| TC.retF (Fin.body (fin1 (.inr rfl) rfl (.tmp rfl) [] rfl ⟨rfl, rfl⟩))
def impl_pool_find.b0 (p1 : List Int) : Int → Option (LB Int) := fun i2 => chk i2 p1.length ((bif ((gt p1 i2) != i2) then some (.next (gt p1 i2)) else some (.brk i2)))
def impl_pool_find.f (p1 : List Int) (i1 : Int) : Option Int := (loop1 (impl_pool_find.b0 p1) i1).bind (fun i2 => some i2)
def impl_pool_find.R (r : Int) (v : Value) (L : List Asn) : Prop := v = .int .i64 r ∧ L = []
theorem impl_pool_find.calls (w : World) (s1 : SV) (p1 : List Int) (i1 : Int) (h1 : Reads Ei (hp w) s1 p1) :
  ∀ r, impl_pool_find.f p1 i1 = some r → Calls Tryz.prog 58 #[SV.v s1, .int .i64 i1] w (Ret w (impl_pool_find.R r)) := by
 refine calls_T (n := 16) (Γ := [(0, SV.v s1), (1, .int .i64 i1)]) (R := impl_pool_find.R) Tryz.func58 rfl rfl (Nat.le_of_ble_eq_true rfl) ⟨rfl, rfl, trivial⟩ ?_
 unfold impl_pool_find.f
 refine TC.seq <| TC.region <| TL.as (.int .i64 0) <| TL.done <| TC.seq ?_
 refine TC.loop1 (σ := Int) (γ := Unit) (Γ' := (fun i2 _ => [(0, SV.v s1), (1, .int .i64 i2)])) (L' := (fun i2 _ => [])) (Γb := (fun i2 _ => [(0, SV.v s1), (1, .int .i64 i2)])) (Lb := (fun i2 _ => [])) (i1) (()) ⟨rfl, rfl, trivial⟩ [] rfl ?_ ?_
 ·rintro i2 _
  refine TC.seq <| TC.seq <| TC.region <| TL.mv (SV.v s1) <| TL.mv (.int .i64 i2) ?_
  refine TL.chk fun h2 => ?_
  refine TL.ixs i2 i2.toNat (Rd.old h1) h2 Tryz.underlying75 Tryz.sizeOf3 rfl rfl rfl rfl (by omega) ?_
  refine TL.loadE (Rd.old h1) Tryz.isAgg3 i2.toNat 0 (gt_spec h2) (v := .int .i64 (gt p1 i2)) rfl (by simp only [show Ei.sz = 1 from rfl] <;> omega) rfl rfl rfl ?_
  refine TL.mv (.int .i64 i2) <| TL.bn .i64 (gt p1 i2) i2 (.bool ((gt p1 i2) != i2)) <| TL.done ?_
  refine TC.cond (b := ((gt p1 i2) != i2)) rfl (fun c1 => ?_) (fun c2 => ?_)
  ·refine TC.skip <| TC.block (NoEx.loop1 rfl) <| TC.region <| TL.mv (SV.v s1) <| TL.mv (.int .i64 i2) <| TL.ixs i2 i2.toNat (Rd.old h1) h2 Tryz.underlying75 Tryz.sizeOf3 rfl rfl rfl rfl (by omega) ?_
   refine TL.loadE (Rd.old h1) Tryz.isAgg3 i2.toNat 0 (gt_spec h2) (v := .int .i64 (gt p1 i2)) rfl (by simp only [show Ei.sz = 1 from rfl] <;> omega) rfl rfl rfl ?_
   refine TL.as (.int .i64 (gt p1 i2)) <| TL.done ?_
   exact TC.next1 ((gt p1 i2)) (()) ⟨rfl, rfl, trivial⟩ [] rfl
  exact TC.brk1 (i2) (()) ⟨rfl, rfl, trivial⟩ [] rfl
 rintro i2 _
 exact TC.seq <| TC.region <| TL.mv (.int .i64 i2) <| TL.as (.int .i64 i2) <| TL.done <| TC.retF (Fin.body (fin1 (.inr rfl) rfl (.tmp rfl) [] rfl ⟨rfl, rfl⟩))
def impl_pool_join.f (p1 : List Int) (i1 : Int) (k_1 : Int) : Option (List Int) := (G.impl_pool_find.f p1 i1).bind (fun r_1 => (G.impl_pool_find.f p1 k_1).bind (fun r_2 => chk (if r_2 > r_1 then r_2 else r_1) p1.length (some (p1.set (if r_2 > r_1 then r_2 else r_1).toNat (if r_2 < r_1 then r_2 else r_1)))))
def impl_pool_join.R (s1 : SV) (r : List Int) (v : Value) (L : List Asn) : Prop := v = .tuple #[] ∧ L = [row Ei 3 s1 r]
theorem impl_pool_join.calls (w0 : World) (I : Hp) (w : World) (s1 : SV) (p1 : List Int) (i1 : Int) (k_1 : Int) (hS : St w0 I [row Ei 3 s1 p1] w) :
  ∀ r, impl_pool_join.f p1 i1 k_1 = some r → Calls Tryz.prog 76 #[SV.v s1, .int .i64 i1, .int .i64 k_1] w (RetM w0 I ((impl_pool_join.R s1) r)) := by
 refine calls_TM (w0 := w0) (I := I) (L := [row Ei 3 s1 p1]) (n := 22) (Γ := [(0, SV.v s1), (1, .int .i64 i1), (2, .int .i64 k_1)]) (R := (impl_pool_join.R s1)) Tryz.func76 rfl rfl (Nat.le_of_ble_eq_true rfl) ⟨rfl, rfl, rfl, trivial⟩ ?_ w hS
 unfold impl_pool_join.f
 refine TC.seq <| TC.region <| TL.mv (SV.v s1) <| TL.mv (.int .i64 i1) ?_
 refine TL.call (R := G.impl_pool_find.R) Tryz.call58 rfl rfl rfl (fun w hS => G.impl_pool_find.calls w s1 p1 i1 ((Rd.row 0 rfl) w hS)) ?_
 rintro r_1 _ _ ⟨rfl, rfl⟩
 refine TL.mv (SV.v s1) <| TL.mv (.int .i64 k_1) ?_
 refine TL.call (R := G.impl_pool_find.R) Tryz.call58 rfl rfl rfl (fun w hS => G.impl_pool_find.calls w s1 p1 k_1 ((Rd.row 0 rfl) w hS)) ?_
 rintro r_2 _ _ ⟨rfl, rfl⟩
 refine TL.as (.int .i64 r_1) <| TL.as (.int .i64 r_2) <| TL.done <| TC.region <| TL.mv (SV.v s1) <| TL.mv (.int .i64 r_1) ?_
 refine TL.mv (.int .i64 r_2) ?_
 refine TL.max2 rfl rfl rfl rfl ?_
 refine TL.mv (.int .i64 r_1) <| TL.mv (.int .i64 r_2) ?_
 refine TL.min2 rfl rfl rfl rfl ?_
 refine TL.chk fun h1 => ?_
 refine TL.ixs (if r_2 > r_1 then r_2 else r_1) ((if r_2 > r_1 then r_2 else r_1).toNat) (Rd.row 0 rfl) h1 Tryz.underlying75 Tryz.sizeOf3 rfl rfl rfl rfl (by omega) ?_
 refine TL.stE 0 ((if r_2 > r_1 then r_2 else r_1).toNat) (if r_2 < r_1 then r_2 else r_1) (v := .int .i64 (if r_2 < r_1 then r_2 else r_1)) rfl Tryz.sizeOf3 rfl rfl rfl (by have h_ := h1; omega) (by simp only [show Ei.sz = 1 from rfl] <;> omega) rfl rfl rfl ?_
 refine TL.done ?_
 exact TC.nilF (Fin.body (fin0 (.inl rfl) rfl [0] rfl ⟨rfl, rfl⟩))
end Go.Proofs.YtpejnjpckacciaaGreatDoor.G
namespace Go.Sx
open Go.RowKit
def ob (b : Nat) (o : Obj) : Asn := fun ρ => ρ = [(b, o)]
def entsL : List (Value × Value) → Nat → List MapEntry
  | [], _ => []
  | p :: r, i => ⟨p.1, p.2, i⟩ :: entsL r (i + 1)
theorem entsL_length : ∀ (l : List (Value × Value)) (i : Nat), (entsL l i).length = l.length
 | [], _ => rfl
 | _ :: r, i => by simp [entsL, entsL_length r]
theorem entsL_push : ∀ (l : List (Value × Value)) (i : Nat) (k v : Value), entsL (l ++ [(k, v)]) i = entsL l i ++ [⟨k, v, i + l.length⟩]
 | [], i, k, v => by simp [entsL]
 | p :: r, i, k, v => by
  simp only [List.cons_append, entsL, entsL_push r]
  simp [Nat.add_assoc, Nat.add_comm 1]
theorem entsL_get : ∀ (l : List (Value × Value)) (i j : Nat), (entsL l i)[j]? = (l[j]?).map fun p => ⟨p.1, p.2, i + j⟩
 | [], _, _ => by simp [entsL]
 | p :: r, i, 0 => by simp [entsL]
 | p :: r, i, j + 1 => by
  simp only [entsL, List.getElem?_cons_succ, entsL_get r]
  rw [show i + 1 + j = i + (j + 1) by omega]
theorem entsL_set : ∀ (l : List (Value × Value)) (i j : Nat) (k v u : Value), l[j]? = some (k, u) → (entsL l i).modify j (fun e => { e with key := k, val := v }) = entsL (l.set j (k, v)) i
 | [], _, _, _, _, _, h => by simp at h
 | p :: r, i, 0, k, v, u, h => by
  simp at h; subst h
  simp [entsL]
 | p :: r, i, j + 1, k, v, u, h => by
  simp only [entsL, List.set_cons_succ, List.modify_succ_cons, entsL_set r (i + 1) j k v u (by simpa using h)]
def mp (b : Nat) (kvs : List (Value × Value)) : Asn := ob b (.map (entsL kvs 0).toArray kvs.length)
def look {α β : Type} [DecidableEq α] : List (α × β) → α → Option (Nat × β)
  | [], _ => none
  | p :: r, k => if p.1 = k then some (0, p.2) else (look r k).map fun q => (q.1 + 1, q.2)
theorem look_get {α β : Type} [DecidableEq α] : ∀ {l : List (α × β)} {k : α} {j : Nat} {v : β}, look l k = some (j, v) → l[j]? = some (k, v)
 | [], _, _, _, h => by cases h
 | p :: r, k, j, v, h => by
  unfold look at h
  split at h
  ·rename_i he
   injection h with h
   injection h with h1 h2
   subst h1 h2
   simp [← he]
  cases hr : look r k with
  | none => rw [hr] at h; cases h
  | some q =>
   rw [hr] at h
   injection h with h
   injection h with h1 h2
   subst h1 h2
   simpa using look_get hr
section
variable {P : Program}
theorem findNow_int {q : IntKind} : ∀ (l : List (Int × Value)) (k : Int) (i i0 : Nat), Instr.findNow (.int q) (.int .i64 k) (entsL (l.map fun p => (.int .i64 p.1, p.2)) i) i0 = some ((look l k).map fun r => (i0 + r.1, r.2))
 | [], _, _, _ => rfl
 | p :: r, k, i, i0 => by
  simp only [List.map_cons, entsL, Instr.findNow, Instr.sameNow, if_pos, look]
  by_cases h : k = p.1
  ·subst h; simp
  rw [beq_eq_false_iff_ne.2 h]
  simp only
  rw [findNow_int r k (i + 1) (i0 + 1), if_neg (Ne.symm h)]
  cases look r k with
  | none => rfl
  | some x => simp [Nat.add_assoc, Nat.add_comm 1]
theorem run_find_int {kT : TypeId} {q : IntKind} (hk : P.underlying kT = some (.int q)) (l : List (Int × Value)) (k : Int) (w : World) :
  (Instr.findKey kT (.int .i64 k) (entsL (l.map fun p => (.int .i64 p.1, p.2)) 0)).run P w = .ok (look l k) w := by
 unfold Instr.findKey
 simp only [Sem.run_bind, run_underlying hk, Result.andThen_ok, findNow_int]
 cases look l k <;> simp [Sem.run_pure]
theorem run_check_int {kT : TypeId} {q : IntKind} (hk : P.underlying kT = some (.int q)) (k : Int) (e : Bool) (w : World) : (Instr.checkKey e 10000 kT (.int .i64 k)).run P w = .ok () w := by
 rw [Instr.checkKey]
 simp only [Sem.run_bind, run_underlying hk, Result.andThen_ok]
 rfl
theorem run_check_ptr {kT T : TypeId} (hk : P.underlying kT = some (.pointer T)) (b : Nat) (e : Bool) (w : World) : (Instr.checkKey e 10000 kT (bp b 0)).run P w = .ok () w := by
 rw [Instr.checkKey]
 simp only [Sem.run_bind, run_underlying hk, Result.andThen_ok, bp]
 rfl
theorem run_ask_ptr {kT T : TypeId} {sz : Nat} (hk : P.underlying kT = some (.pointer T)) (hz : ∀ w, (sizeOf T).run P w = .ok sz w) (hs : sz ≠ 0) (w : World) (b : Nat) (hb : ∃ c t, w.heap[b]? = some (.cells c t (0, 0))) :
  ∀ (l : List (Nat × Value)) (i i0 : Nat), (∀ p ∈ l, ∃ c t, w.heap[p.1]? = some (.cells c t (0, 0))) → (Instr.findAsking kT (bp b 0) (entsL (l.map fun p => (bp p.1 0, p.2)) i) i0).run P w = .ok ((look l b).map fun r => (i0 + r.1, r.2)) w
 | [], _, _, _ => rfl
 | p :: r, i, i0, h => by
  have ih := run_ask_ptr hk hz hs w b hb r (i + 1) (i0 + 1) (fun q hq => h q (List.mem_cons_of_mem _ hq))
  obtain ⟨c, t, hb⟩ := hb
  obtain ⟨c', t', hp⟩ := h p (List.mem_cons_self ..)
  have he : (Op.equal kT (bp b 0) (bp p.1 0)).run P w = .ok (decide (b = p.1)) w := by
   unfold Op.equal Op.maxDepth
   rw [Op.equalIn]
   simp only [bp, Sem.run_bind, run_underlying hk, Result.andThen_ok, hz w, ne_eq, hs, not_false_eq_true, if_true]
   by_cases hne : b = p.1
   ·subst hne
    rw [run_sameAddr_same]; simp
   rw [run_sameAddr_other w (fun e => hne (by injection e)) hb hp]; simp [hne]
  simp only [List.map_cons, entsL, Instr.findAsking, Sem.run_bind, he, Result.andThen_ok, look]
  by_cases hne : b = p.1
  ·subst hne; simp
  rw [if_neg (Ne.symm hne)]
  simp only [hne, decide_false, Bool.false_eq_true, if_false]
  rw [ih]
  cases look r b with
  | none => rfl
  | some x => simp [Nat.add_assoc, Nat.add_comm 1]
theorem run_find_ptr {kT T : TypeId} {sz : Nat} (hk : P.underlying kT = some (.pointer T)) (hz : ∀ w, (sizeOf T).run P w = .ok sz w) (hs : sz ≠ 0) (w : World) (b : Nat) (hb : ∃ c t, w.heap[b]? = some (.cells c t (0, 0)))
  (l : List (Nat × Value)) (h : ∀ p ∈ l, ∃ c t, w.heap[p.1]? = some (.cells c t (0, 0))) : (Instr.findKey kT (bp b 0) (entsL (l.map fun p => (bp p.1 0, p.2)) 0)).run P w = .ok (look l b) w := by
 unfold Instr.findKey
 simp only [Sem.run_bind, run_underlying hk, Result.andThen_ok]
 have hn : ∀ (es : List MapEntry), Instr.findNow (.pointer T) (bp b 0) es 0 = none ∨ es = [] := by
  intro es
  cases es with
  | nil => exact .inr rfl
  | cons e es => exact .inl rfl
 rcases hn (entsL (l.map fun p => (bp p.1 0, p.2)) 0) with h1 | h1
 ·rw [h1]
  have := run_ask_ptr hk hz hs w b hb l 0 0 h
  rw [this]
  cases look l b <;> simp
 have hl : l = [] := by
  have := congrArg List.length h1
  rw [entsL_length] at this
  simpa using this
 subst hl
 rfl
end
section
variable {P : Program} {w0 : World} {n : Nat} {I : Hp} {Γ : Gm} {L : List Asn} {cs : List Code} {β : Type} {m : Option β} {D : β → Post} {ops : Array Oper} {os : List Oper}
theorem St.obAt {w : World} {b : Nat} {o : Obj} (hS : St w0 I L w) (i : Nat) (hi : L[i]? = some (ob b o)) : w.heap[b]? = some o := by
 obtain ⟨ρA, hA, hh⟩ := hS.get hi
 unfold ob at hA
 subst hA
 exact hh _ (List.mem_singleton.2 rfl)
theorem St.obSet {w : World} {b : Nat} {o : Obj} (hS : St w0 I L w) (i : Nat) (hi : L[i]? = some (ob b o)) (o' : Obj) : St w0 I (L.set i (ob b o')) { w with heap := w.heap.setIfInBounds b o' } := by
 have hb := hS.obAt i hi
 have hl := (Array.getElem?_eq_some_iff.1 hb).1
 refine hS.turn hi ?_ rfl rfl rfl (by simp)
 rintro ρA rfl hh
 refine ⟨[(b, o')], rfl, rfl, ?_, ?_⟩
 ·intro p hp
  obtain rfl := List.mem_singleton.1 hp
  show (w.heap.setIfInBounds b o')[b]? = some o'
  simp [hl]
 intro k hk
 show (w.heap.setIfInBounds b o')[k]? = w.heap[k]?
 rw [Array.getElem?_setIfInBounds, if_neg]
 intro e
 subst e
 simp at hk
theorem run_getOb {w : World} {b : Nat} {o : Obj} (hno : ∀ c t f, o ≠ .cells c t f) (hb : w.heap[b]? = some o) : (getObj b).run P w = .ok o w := by
 cases o with
 | cells c t f => exact absurd rfl (hno c t f)
 | _ => simp [getObj, Sem.run, hb]
theorem run_setOb {w : World} {b : Nat} {o : Obj} (o' : Obj) (hno : ∀ c t f, o ≠ .cells c t f) (hb : w.heap[b]? = some o) : (setObj b o').run P w = .ok () { w with heap := w.heap.setIfInBounds b o' } := by
 cases o with
 | cells c t f => exact absurd rfl (hno c t f)
 | _ => simp [setObj, Sem.run, hb]
theorem noCells {es : Array MapEntry} {k : Nat} : ∀ c t f, Obj.map es k ≠ .cells c t f := fun _ _ _ h => by cases h
variable {d : Nat} {ty : TypeId} {pos : String} {af : Array Edge} {g : Option (Nat × Bool)}
theorem TL.mkmap {T : TypeId} (hg : gd ops Γ ⟨some d, .makeMap T none, ty, pos, af, g⟩ = some true) (hn : Nat.blt d n = true)
  (k : ∀ b, TL P w0 n I ((d, .map (some b)) :: Γ) (mp b [] :: L) ops os cs m D) : TL P w0 n I Γ L ops (⟨some d, .makeMap T none, ty, pos, af, g⟩ :: os) cs m D := by
 refine .valW (γ := Nat) (vf := fun b => .map (some b)) (Lf := fun b => mp b [] :: L) hg rfl (by simpa using hn) (fun a w hF hS => ⟨w.heap.size, w.alloc (.map #[] 0), ?_, hS.alloc _⟩) k
 refine run_v ?_
 simp [Instr.makeMap, newObj, Sem.run]
theorem TL.mget {T kT eT : TypeId} {x ix : Operand} {b : Nat} {kvs : List (Value × Value)} {key z v : Value} {res : Option (Nat × Value)} (i : Nat) (hi : L[i]? = some (mp b kvs)) (hT : P.underlying T = some (.map kT eT))
  (hc : ∀ e w, (Instr.checkKey e 10000 kT key).run P w = .ok () w) (hf : ∀ w, St w0 I L w → (Instr.findKey kT key (entsL kvs 0)).run P w = .ok res w) (hz : ∀ w, (zeroValue eT).run P w = .ok z w)
  (hv : res.elim z (fun r => r.2) = v)
  (hg : gd ops Γ ⟨some d, .lookup T x ix false, ty, pos, af, g⟩ = some true) (hn : Nat.blt d n = true) (hx : ev Γ x = some (.map (some b))) (hk : ev Γ ix = some key)
  (k : TL P w0 n I ((d, v) :: Γ) L ops os cs m D) : TL P w0 n I Γ L ops (⟨some d, .lookup T x ix false, ty, pos, af, g⟩ :: os) cs m D := by
 refine .val hg rfl (by simpa using hn) (fun a w hF hS => run_v ?_) k
 rw [hF.eval hx, hF.eval hk]
 have hb := hS.obAt i hi
 subst hv
 simp only [Instr.lookup, Sem.run_bind, run_underlying hT, Result.andThen_ok, run_getOb noCells hb, Sem.run_pure, hc, hf w hS]
 cases res with
 | none => simp [hz w]
 | some r => simp
theorem TL.mputNew {T kT eT : TypeId} {x ix y : Operand} {b : Nat} {kvs : List (Value × Value)} {key v : Value} (i : Nat) (hi : L[i]? = some (mp b kvs)) (hT : P.underlying T = some (.map kT eT))
  (hc : ∀ e w, (Instr.checkKey e 10000 kT key).run P w = .ok () w) (hf : ∀ w, St w0 I L w → (Instr.findKey kT key (entsL kvs 0)).run P w = .ok none w)
  (hg : gd ops Γ ⟨none, .mapUpdate T x ix y, ty, pos, af, g⟩ = some true) (hx : ev Γ x = some (.map (some b))) (hk : ev Γ ix = some key) (hy : ev Γ y = some v)
  (k : TL P w0 n I Γ (L.set i (mp b (kvs ++ [(key, v)]))) ops os cs m D) : TL P w0 n I Γ L ops (⟨none, .mapUpdate T x ix y, ty, pos, af, g⟩ :: os) cs m D := by
 refine .skipW hg rfl (fun a w hF hS => ⟨_, run_u (w' := { w with heap := w.heap.setIfInBounds b (.map (entsL (kvs ++ [(key, v)]) 0).toArray (kvs ++ [(key, v)]).length) }) ?_, hS.obSet i hi _⟩) k
 rw [hF.eval hx, hF.eval hk, hF.eval hy]
 have hb := hS.obAt i hi
 simp only [Instr.mapUpdate, Sem.run_bind, run_underlying hT, Result.andThen_ok, run_getOb noCells hb, hc, hf w hS]
 rw [run_setOb _ noCells hb]
 simp [entsL_push]
theorem TL.mputOld {T kT eT : TypeId} {x ix y : Operand} {b j : Nat} {kvs : List (Value × Value)} {key u v : Value} (i : Nat) (hi : L[i]? = some (mp b kvs)) (hT : P.underlying T = some (.map kT eT))
  (hc : ∀ e w, (Instr.checkKey e 10000 kT key).run P w = .ok () w) (hf : ∀ w, St w0 I L w → (Instr.findKey kT key (entsL kvs 0)).run P w = .ok (some (j, u)) w) (hj : kvs[j]? = some (key, u)) (hs : Instr.sameBits 10000 key key = true)
  (hg : gd ops Γ ⟨none, .mapUpdate T x ix y, ty, pos, af, g⟩ = some true) (hx : ev Γ x = some (.map (some b))) (hk : ev Γ ix = some key) (hy : ev Γ y = some v)
  (k : TL P w0 n I Γ (L.set i (mp b (kvs.set j (key, v)))) ops os cs m D) : TL P w0 n I Γ L ops (⟨none, .mapUpdate T x ix y, ty, pos, af, g⟩ :: os) cs m D := by
 refine .skipW hg rfl (fun a w hF hS => ⟨_, run_u (w' := { w with heap := w.heap.setIfInBounds b (.map (entsL (kvs.set j (key, v)) 0).toArray (kvs.set j (key, v)).length) }) ?_, hS.obSet i hi _⟩) k
 rw [hF.eval hx, hF.eval hk, hF.eval hy]
 have hb := hS.obAt i hi
 have he : (entsL kvs 0).toArray[j]? = some ⟨key, u, j⟩ := by
  rw [List.getElem?_toArray, entsL_get, hj]; simp
 simp only [Instr.mapUpdate, Sem.run_bind, run_underlying hT, Result.andThen_ok, run_getOb noCells hb, hc, hf w hS, he, Option.map_some, Option.getD_some, Instr.keyThatStays, hs, if_true, Sem.run_pure]
 rw [run_setOb _ noCells hb]
 congr 4
 ·rw [← entsL_set kvs 0 j key v u hj]
  simp
 simp
end
end Go.Sx
namespace Go.Sx
open Go.RowKit
def pbx (T T2 : TypeId) (b : Nat) (s : PV) (y : PC) : Asn := fun ρ => s.1 = y.1 ∧ ∃ ρ0 ρ1 ρ2, ρ = ρ0 ++ (ρ1 ++ ρ2) ∧ box b T2 [.one (.int .i64 s.1), .one s.2.1.v, .one s.2.2.v] ρ0 ∧ row Ei T s.2.1 y.2.1 ρ1 ∧ row Ei T s.2.2 y.2.2 ρ2
def pbxs (T T2 : TypeId) : List Nat → List PV → List PC → Asn
  | [], [], [] => fun ρ => ρ = []
  | b :: bs, s :: ss, y :: c => fun ρ => ∃ ρ1 ρ2, ρ = ρ1 ++ ρ2 ∧ pbx T T2 b s y ρ1 ∧ pbxs T T2 bs ss c ρ2
  | _, _, _ => fun _ => False
def pbxsX (T T2 : TypeId) (j b : Nat) (bs : List Nat) (ss : List PV) (c : List PC) : Asn := fun ρ => ∃ σ1 σ2, ρ = σ1 ++ σ2 ∧ ∀ s' y' σ, pbx T T2 b s' y' σ → pbxs T T2 bs (ss.set j s') (c.set j y') (σ1 ++ σ ++ σ2)
section
variable {T T2 : TypeId}
theorem pbxs_length : ∀ {bs : List Nat} {ss : List PV} {c : List PC} {ρ}, pbxs T T2 bs ss c ρ → bs.length = c.length ∧ ss.length = c.length
 | [], [], [], _, _ => ⟨rfl, rfl⟩
 | [], [], _ :: _, _, h => h.elim
 | [], _ :: _, [], _, h => h.elim
 | [], _ :: _, _ :: _, _, h => h.elim
 | _ :: _, [], [], _, h => h.elim
 | _ :: _, [], _ :: _, _, h => h.elim
 | _ :: _, _ :: _, [], _, h => h.elim
 | _ :: bs, _ :: ss, _ :: c, _, h => by
  obtain ⟨ρ1, ρ2, rfl, _, h2⟩ := h
  have := pbxs_length h2
  simp [this.1, this.2]
theorem pbxs_focus : ∀ {bs : List Nat} {ss : List PV} {c : List PC} {ρ} {j : Nat}, pbxs T T2 bs ss c ρ → j < c.length →
  ∃ b s y ρ1 ρA ρ2, bs[j]? = some b ∧ ss[j]? = some s ∧ c[j]? = some y ∧ ρ = ρ1 ++ ρA ++ ρ2 ∧ pbx T T2 b s y ρA ∧ ∀ s' y' ρA', pbx T T2 b s' y' ρA' → pbxs T T2 bs (ss.set j s') (c.set j y') (ρ1 ++ ρA' ++ ρ2)
 | [], [], [], _, _, _, hj => by simp at hj
 | [], [], _ :: _, _, _, h, _ => h.elim
 | [], _ :: _, [], _, _, h, _ => h.elim
 | [], _ :: _, _ :: _, _, _, h, _ => h.elim
 | _ :: _, [], [], _, _, h, _ => h.elim
 | _ :: _, [], _ :: _, _, _, h, _ => h.elim
 | _ :: _, _ :: _, [], _, _, h, _ => h.elim
 | b :: bs, s :: ss, y :: c, _, 0, h, _ => by
  obtain ⟨ρ1, ρ2, rfl, h1, h2⟩ := h
  exact ⟨b, s, y, [], ρ1, ρ2, rfl, rfl, rfl, by simp, h1, fun s' y' ρA' h' => ⟨ρA', ρ2, by simp, h', h2⟩⟩
 | b :: bs, s :: ss, y :: c, _, j + 1, h, hj => by
  obtain ⟨ρ1, ρ2, rfl, h1, h2⟩ := h
  obtain ⟨b', s', y', σ1, σA, σ2, e1, e2, e3, rfl, hA, hset⟩ := pbxs_focus (j := j) h2 (by simpa using hj)
  exact ⟨b', s', y', ρ1 ++ σ1, σA, σ2, by simpa using e1, by simpa using e2, by simpa using e3, by simp, hA, fun s'' y'' ρA' h' => ⟨ρ1, σ1 ++ ρA' ++ σ2, by simp, h1, hset s'' y'' ρA' h'⟩⟩
theorem pbxs_append : ∀ {bs bs' : List Nat} {ss ss' : List PV} {c c' : List PC} {ρ ρ'}, pbxs T T2 bs ss c ρ → pbxs T T2 bs' ss' c' ρ' → pbxs T T2 (bs ++ bs') (ss ++ ss') (c ++ c') (ρ ++ ρ')
 | [], _, [], _, [], _, _, _, h, h' => by
  have : _ = [] := h
  subst this; exact h'
 | [], _, [], _, _ :: _, _, _, _, h, _ => h.elim
 | [], _, _ :: _, _, [], _, _, _, h, _ => h.elim
 | [], _, _ :: _, _, _ :: _, _, _, _, h, _ => h.elim
 | _ :: _, _, [], _, [], _, _, _, h, _ => h.elim
 | _ :: _, _, [], _, _ :: _, _, _, _, h, _ => h.elim
 | _ :: _, _, _ :: _, _, [], _, _, _, h, _ => h.elim
 | b :: bs, bs', s :: ss, ss', y :: c, c', _, ρ', h, h' => by
  obtain ⟨ρ1, ρ2, rfl, h1, h2⟩ := h
  exact ⟨ρ1, ρ2 ++ ρ', by simp, h1, pbxs_append h2 h'⟩
theorem pbxs_keys : ∀ {bs : List Nat} {ss : List PV} {c : List PC} {ρ}, pbxs T T2 bs ss c ρ → bs.Sublist (ρ.map (·.1))
 | [], [], [], _, _ => List.nil_sublist _
 | [], [], _ :: _, _, h => h.elim
 | [], _ :: _, [], _, h => h.elim
 | [], _ :: _, _ :: _, _, h => h.elim
 | _ :: _, [], [], _, h => h.elim
 | _ :: _, [], _ :: _, _, h => h.elim
 | _ :: _, _ :: _, [], _, h => h.elim
 | b :: bs, s :: ss, y :: c, _, h => by
  obtain ⟨ρ1, ρ2, rfl, h1, h2⟩ := h
  obtain ⟨_, σ0, σ1, σ2, rfl, h0, _, _⟩ := h1
  unfold box at h0
  subst h0
  have := pbxs_keys h2
  simp only [List.cons_append, List.nil_append, List.map_cons, List.map_append]
  exact List.Sublist.cons_cons b (this.trans (List.sublist_append_right _ _))
theorem pbxs_cells {H : Hp} : ∀ {bs : List Nat} {ss : List PV} {c : List PC} {ρ}, pbxs T T2 bs ss c ρ → (∀ p ∈ ρ, H p.1 = some p.2) → ∀ b ∈ bs, ∃ cc t, H b = some (.cells cc t (0, 0))
 | [], [], [], _, _, _, _, hb => by simp at hb
 | [], [], _ :: _, _, h, _, _, _ => h.elim
 | [], _ :: _, [], _, h, _, _, _ => h.elim
 | [], _ :: _, _ :: _, _, h, _, _, _ => h.elim
 | _ :: _, [], [], _, h, _, _, _ => h.elim
 | _ :: _, [], _ :: _, _, h, _, _, _ => h.elim
 | _ :: _, _ :: _, [], _, h, _, _, _ => h.elim
 | b :: bs, s :: ss, y :: c, _, h, hh, b', hb => by
  obtain ⟨ρ1, ρ2, rfl, h1, h2⟩ := h
  rcases List.mem_cons.1 hb with rfl | hb
  ·obtain ⟨_, σ0, σ1, σ2, rfl, h0, _, _⟩ := h1
   unfold box at h0
   subst h0
   have := hh _ (List.mem_append.2 (.inl (List.mem_append.2 (.inl (List.mem_singleton.2 rfl)))))
   exact ⟨_, _, this⟩
  exact pbxs_cells h2 (fun p hp => hh p (by simp [hp])) b' hb
theorem pbxs_prows : ∀ {bs : List Nat} {ss : List PV} {c : List PC} {ρ}, pbxs T T2 bs ss c ρ → ∃ ρ1 ρ2, ρ.Perm (ρ1 ++ ρ2) ∧ prows T ss c ρ2
 | [], [], [], ρ, h => ⟨[], ρ, .refl _, h⟩
 | [], [], _ :: _, _, h => h.elim
 | [], _ :: _, [], _, h => h.elim
 | [], _ :: _, _ :: _, _, h => h.elim
 | _ :: _, [], [], _, h => h.elim
 | _ :: _, [], _ :: _, _, h => h.elim
 | _ :: _, _ :: _, [], _, h => h.elim
 | b :: bs, s :: ss, y :: c, _, h => by
  obtain ⟨ρ1, ρ2, rfl, h1, h2⟩ := h
  obtain ⟨e, σ0, σ1, σ2, rfl, _, g1, g2⟩ := h1
  obtain ⟨τ1, τ2, hp, h3⟩ := pbxs_prows h2
  refine ⟨σ0 ++ τ1, σ1 ++ (σ2 ++ τ2), ?_, e, σ1, σ2, τ2, rfl, g1, g2, h3⟩
  have e1 : σ0 ++ (σ1 ++ σ2) ++ ρ2 = σ0 ++ ((σ1 ++ σ2) ++ ρ2) := by simp
  have e2 : σ0 ++ τ1 ++ (σ1 ++ (σ2 ++ τ2)) = σ0 ++ (τ1 ++ (σ1 ++ σ2) ++ τ2) := by simp
  rw [e1, e2]
  refine List.Perm.append_left _ ((hp.append_left _).trans ?_)
  rw [← List.append_assoc]
  exact List.perm_append_comm.append_right τ2
variable {P : Program} {w0 : World} {n : Nat} {I : Hp} {Γ : Gm} {L : List Asn} {cs : List Code} {β : Type} {m : Option β} {D : β → Post} {ops : Array Oper} {os : List Oper}
theorem St.pbInfo {w : World} {bs : List Nat} {ss : List PV} {c : List PC} (i : Nat) (hi : L[i]? = some (pbxs T T2 bs ss c)) (hS : St w0 I L w) : bs.length = c.length ∧ ss.length = c.length ∧ bs.Nodup ∧ ∀ b ∈ bs, ∃ cc t, w.heap[b]? = some (.cells cc t (0, 0)) := by
 obtain ⟨ρ, hs, ho⟩ := hS.own
 obtain ⟨ρ1, ρA, ρ2, rfl, hA, _, _⟩ := hs.focus hi
 have hl := pbxs_length hA
 refine ⟨hl.1, hl.2, ?_, pbxs_cells hA fun p hp => (ho.here p (by simp [hp])).2⟩
 have hnd := ho.nodup
 simp only [List.map_append, List.append_assoc] at hnd
 exact ((hnd.sublist (List.sublist_append_right _ _)).sublist (List.sublist_append_left _ _)).sublist (pbxs_keys hA)
theorem TL.pbInfo {bs : List Nat} {ss : List PV} {c : List PC} (i : Nat) (hi : L[i]? = some (pbxs T T2 bs ss c)) (k : bs.length = c.length → ss.length = c.length → bs.Nodup → TL P w0 n I Γ L ops os cs m D) : TL P w0 n I Γ L ops os cs m D :=
 fun a w hF hS o ho => k (hS.pbInfo i hi).1 (hS.pbInfo i hi).2.1 (hS.pbInfo i hi).2.2.1 a w hF hS o ho
theorem St.pbOpen {w : World} {bs : List Nat} {ss : List PV} {c : List PC} (i j : Nat) (hi : L[i]? = some (pbxs T T2 bs ss c)) (hj : j < c.length) (hS : St w0 I L w) :
  ∃ b s y, bs[j]? = some b ∧ ss[j]? = some s ∧ c[j]? = some y ∧ s.1 = y.1 ∧ St w0 I (box b T2 [.one (.int .i64 s.1), .one s.2.1.v, .one s.2.2.v] :: row Ei T s.2.1 y.2.1 :: row Ei T s.2.2 y.2.2 :: L.set i (pbxsX T T2 j b bs ss c)) w := by
 obtain ⟨ρ, hs, ho⟩ := hS.own
 obtain ⟨ρ1, ρA, ρ2, rfl, hA, hset, _⟩ := hs.focus hi
 obtain ⟨b, s, y, σ1, σA, σ2, e1, e2, e3, rfl, ⟨e4, τ0, τ1, τ2, rfl, t0, t1, t2⟩, hput⟩ := pbxs_focus hA hj
 refine ⟨b, s, y, e1, e2, e3, e4, hS.perm ho (ρ' := τ0 ++ (τ1 ++ (τ2 ++ (ρ1 ++ (σ1 ++ σ2) ++ ρ2)))) ?_ ⟨τ0, _, rfl, t0, τ1, _, rfl, t1, τ2, _, rfl, t2, hset _ (σ1 ++ σ2) ⟨σ1, σ2, rfl, hput⟩⟩⟩
 have x1 : ρ1 ++ (σ1 ++ (τ0 ++ (τ1 ++ τ2)) ++ σ2) ++ ρ2 = (ρ1 ++ σ1) ++ (τ0 ++ (τ1 ++ τ2)) ++ (σ2 ++ ρ2) := by simp
 have x2 : τ0 ++ (τ1 ++ (τ2 ++ (ρ1 ++ (σ1 ++ σ2) ++ ρ2))) = (τ0 ++ (τ1 ++ τ2)) ++ (ρ1 ++ σ1) ++ (σ2 ++ ρ2) := by simp
 rw [x1, x2]
 exact List.perm_append_comm.append_right _
theorem TL.pbOpen {bs : List Nat} {ss : List PV} {c : List PC} (i j : Nat) (hi : L[i]? = some (pbxs T T2 bs ss c)) (hj : j < c.length)
  (k : ∀ b s y, bs[j]? = some b → ss[j]? = some s → c[j]? = some y → s.1 = y.1 → TL P w0 n I Γ (Sx.box b T2 [.one (.int .i64 s.1), .one s.2.1.v, .one s.2.2.v] :: row Ei T s.2.1 y.2.1 :: row Ei T s.2.2 y.2.2 :: L.set i (pbxsX T T2 j b bs ss c)) ops os cs m D) : TL P w0 n I Γ L ops os cs m D := by
 intro a w hF hS o ho
 obtain ⟨b, s, y, e1, e2, e3, e4, hS'⟩ := hS.pbOpen i j hi hj
 exact k b s y e1 e2 e3 e4 a w hF hS' o ho
theorem St.pbPack {w : World} {b : Nat} {gg : Int} {s1 s2 : SV} {y1 y2 : List Int} (hS : St w0 I (box b T2 [.one (.int .i64 gg), .one s1.v, .one s2.v] :: row Ei T s1 y1 :: row Ei T s2 y2 :: L) w) : St w0 I (pbx T T2 b (gg, s1, s2) (gg, y1, y2) :: L) w := by
 obtain ⟨ρ, hs, ho⟩ := hS.own
 obtain ⟨τ0, _, rfl, t0, τ1, _, rfl, t1, τ2, ρ', rfl, t2, hr⟩ := hs
 exact hS.perm ho (ρ' := (τ0 ++ (τ1 ++ τ2)) ++ ρ') (by simp) ⟨_, ρ', rfl, ⟨rfl, τ0, τ1, τ2, rfl, t0, t1, t2⟩, hr⟩
theorem St.pbClose {w : World} {bs : List Nat} {ss : List PV} {c : List PC} {j b : Nat} {gg : Int} {s1 s2 : SV} {y1 y2 : List Int} (i : Nat) (hi : L[i]? = some (pbxsX T T2 j b bs ss c))
  (hS : St w0 I (box b T2 [.one (.int .i64 gg), .one s1.v, .one s2.v] :: row Ei T s1 y1 :: row Ei T s2 y2 :: L) w) : St w0 I (L.set i (pbxs T T2 bs (ss.set j (gg, s1, s2)) (c.set j (gg, y1, y2)))) w := by
 have h1 := hS.pbPack
 have h2 := St.joinpp (A := pbxs T T2 bs (ss.set j (gg, s1, s2)) (c.set j (gg, y1, y2))) 0 (i + 1) rfl (B := pbx T T2 b (gg, s1, s2) (gg, y1, y2)) (C := pbxsX T T2 j b bs ss c) (by simpa using hi) (by
  rintro ρ1 ρ2 hb ⟨σ1, σ2, rfl, hput⟩
  refine ⟨σ1 ++ ρ1 ++ σ2, ?_, hput _ _ _ hb⟩
  rw [← List.append_assoc]
  exact List.perm_append_comm.append_right σ2) h1
 exact h2.drop (i := 0) rfl
theorem TL.pbClose {bs : List Nat} {ss : List PV} {c : List PC} {j b : Nat} {gg : Int} {s1 s2 : SV} {y1 y2 : List Int} (i : Nat) (hi : L[i]? = some (pbxsX T T2 j b bs ss c))
  (k : TL P w0 n I Γ (L.set i (pbxs T T2 bs (ss.set j (gg, s1, s2)) (c.set j (gg, y1, y2)))) ops os cs m D) : TL P w0 n I Γ (Sx.box b T2 [.one (.int .i64 gg), .one s1.v, .one s2.v] :: row Ei T s1 y1 :: row Ei T s2 y2 :: L) ops os cs m D :=
 fun a w hF hS o ho => k a w hF (St.pbClose i hi hS) o ho
theorem TL.pbPush {bs : List Nat} {ss : List PV} {c : List PC} {b : Nat} {gg : Int} {s1 s2 : SV} {y1 y2 : List Int} (i : Nat) (hi : L[i]? = some (pbxs T T2 bs ss c))
  (k : TL P w0 n I Γ (L.set i (pbxs T T2 (bs ++ [b]) (ss ++ [(gg, s1, s2)]) (c ++ [(gg, y1, y2)]))) ops os cs m D) : TL P w0 n I Γ (Sx.box b T2 [.one (.int .i64 gg), .one s1.v, .one s2.v] :: row Ei T s1 y1 :: row Ei T s2 y2 :: L) ops os cs m D := by
 intro a w hF hS o ho
 have h1 := hS.pbPack
 have h2 := St.joinpp (A := pbxs T T2 (bs ++ [b]) (ss ++ [(gg, s1, s2)]) (c ++ [(gg, y1, y2)])) 0 (i + 1) rfl (B := pbx T T2 b (gg, s1, s2) (gg, y1, y2)) (C := pbxs T T2 bs ss c) (by simpa using hi) (by
  intro ρ1 ρ2 hb hc
  exact ⟨ρ2 ++ ρ1, List.perm_append_comm, pbxs_append hc ⟨ρ1, [], by simp, hb, rfl⟩⟩) h1
 exact k a w hF (h2.drop (i := 0) rfl) o ho
end
end Go.Sx
namespace Go.Sx
open Go.RowKit
def fact (φ : Prop) : Asn := fun ρ => ρ = [] ∧ φ
section
variable {P : Program} {w0 : World} {n : Nat} {I : Hp} {Γ : Gm} {L : List Asn} {cs : List Code} {β : Type} {m : Option β} {D : β → Post} {ops : Array Oper} {os : List Oper}
theorem St.addFact {w : World} {φ : Prop} (h : φ) (hS : St w0 I L w) : St w0 I (fact φ :: L) w := by
 obtain ⟨ρ, hs, ho⟩ := hS.own
 exact ⟨hS.below, hS.i0, hS.iw, ρ, ⟨[], ρ, rfl, ⟨rfl, h⟩, hs⟩, ho⟩
theorem TC.addFact {φ : Prop} (h : φ) (k : TC P w0 n I Γ (fact φ :: L) cs m D) : TC P w0 n I Γ L cs m D := fun a w hF hS o ho => k a w hF (hS.addFact h) o ho
theorem TL.addFact {φ : Prop} (h : φ) (k : TL P w0 n I Γ (fact φ :: L) ops os cs m D) : TL P w0 n I Γ L ops os cs m D := fun a w hF hS o ho => k a w hF (hS.addFact h) o ho
theorem St.factOf {w : World} {φ : Prop} (i : Nat) (hi : L[i]? = some (fact φ)) (hS : St w0 I L w) : φ := by
 obtain ⟨ρA, hA, _⟩ := hS.get hi
 exact hA.2
theorem TC.factOf {φ : Prop} (i : Nat) (hi : L[i]? = some (fact φ)) (k : φ → TC P w0 n I Γ L cs m D) : TC P w0 n I Γ L cs m D := fun a w hF hS o ho => k (hS.factOf i hi) a w hF hS o ho
theorem TL.factOf {φ : Prop} (i : Nat) (hi : L[i]? = some (fact φ)) (k : φ → TL P w0 n I Γ L ops os cs m D) : TL P w0 n I Γ L ops os cs m D := fun a w hF hS o ho => k (hS.factOf i hi) a w hF hS o ho
variable {T T2 : TypeId}
theorem TC.pbProws {bs : List Nat} {ss : List PV} {c : List PC} (i : Nat) (hi : L[i]? = some (pbxs T T2 bs ss c)) (k : TC P w0 n I Γ (L.set i (prows T ss c)) cs m D) : TC P w0 n I Γ L cs m D := by
 intro a w hF hS o ho
 have h2 : St w0 I ((fun _ => True) :: L.set i (prows T ss c)) w := by
  refine St.cutp i hi ?_ hS
  intro ρ h
  obtain ⟨ρ1, ρ2, hp, h3⟩ := pbxs_prows h
  exact ⟨ρ1, ρ2, hp, trivial, h3⟩
 exact k a w hF (h2.drop (i := 0) rfl) o ho
variable {d : Nat} {ty : TypeId} {pos : String} {af : Array Edge} {g : Option (Nat × Bool)}
theorem TL.rangeM {T3 kT eT : TypeId} {x : Operand} {b : Nat} {kvs : List (Value × Value)} (i : Nat) (hi : L[i]? = some (mp b kvs)) (hT : P.underlying T3 = some (.map kT eT))
  (hg : gd ops Γ ⟨some d, .range T3 x, ty, pos, af, g⟩ = some true) (hn : Nat.blt d n = true) (hx : ev Γ x = some (.map (some b)))
  (k : ∀ r, TL P w0 n I ((d, bp r 0) :: Γ) (ob r (.mapIter (some b) kvs.length #[] kvs.length) :: L) ops os cs m D) : TL P w0 n I Γ L ops (⟨some d, .range T3 x, ty, pos, af, g⟩ :: os) cs m D := by
 refine .valW (γ := Nat) (vf := fun r => bp r 0) (Lf := fun r => ob r (.mapIter (some b) kvs.length #[] kvs.length) :: L) hg rfl (by simpa using hn) (fun a w hF hS => ⟨w.heap.size, w.alloc (.mapIter (some b) kvs.length #[] kvs.length), ?_, hS.alloc _⟩) k
 refine run_v ?_
 rw [hF.eval hx]
 have hb := hS.obAt i hi
 simp only [Instr.range, Sem.run_bind, run_underlying hT, Result.andThen_ok, run_getOb noCells hb, Sem.run_pure]
 rfl
theorem leftOf_mem {kvs : List (Value × Value)} {vis : List Nat} {e : MapEntry} (h : e ∈ (leftOf (entsL kvs 0).toArray vis.toArray).toList) : ∃ j p, kvs[j]? = some p ∧ j ∉ vis ∧ e = ⟨p.1, p.2, j⟩ := by
 unfold leftOf at h
 rw [Array.toList_filter, List.mem_filter] at h
 obtain ⟨h1, h2⟩ := h
 obtain ⟨j, hj⟩ := List.mem_iff_getElem?.1 h1
 simp only at hj
 rw [entsL_get] at hj
 cases hk : kvs[j]? with
 | none => rw [hk] at hj; cases hj
 | some p =>
  rw [hk] at hj
  injection hj with hj
  subst hj
  refine ⟨j, p, hk, ?_, by simp⟩
  simpa using h2
theorem leftOf_none {kvs : List (Value × Value)} {vis : List Nat} (h : (leftOf (entsL kvs 0).toArray vis.toArray).size = 0) : ∀ j, j < kvs.length → j ∈ vis := by
 intro j hj
 unfold leftOf at h
 rw [Array.size_eq_zero_iff, Array.filter_eq_empty_iff] at h
 have hm : (⟨(kvs[j]).1, (kvs[j]).2, j⟩ : MapEntry) ∈ (entsL kvs 0).toArray := by
  rw [List.mem_toArray]
  refine List.mem_iff_getElem?.2 ⟨j, ?_⟩
  rw [entsL_get, List.getElem?_eq_getElem hj]
  simp
 have := h _ hm
 simpa using this
theorem St.steps {w w1 : World} {r : Nat} {o : Obj} (hS : St w0 I L w) (i : Nat) (hi : L[i]? = some (ob r o)) (hw : w1 = w ∨ w1 = w.drew) (o' : Obj) : St w0 I (L.set i (ob r o')) (Go.ChangeMaps.setBlock w1 r o') := by
 have hS1 : St w0 I L w1 := by
  rcases hw with rfl | rfl
  ·exact hS
  exact hS.drew
 exact hS1.obSet i hi o'
theorem TL.nextM {x : Operand} {r b since : Nat} {kvs : List (Value × Value)} {vis : List Nat} (i j : Nat) (hi : L[i]? = some (ob r (.mapIter (some b) kvs.length vis.toArray kvs.length))) (hj : L[j]? = some (mp b kvs))
  (hg : gd ops Γ ⟨some d, .next x false, ty, pos, af, g⟩ = some true) (hn : Nat.blt d n = true) (hx : ev Γ x = some (bp r 0))
  (k0 : (∀ q, q < kvs.length → q ∈ vis) → TL P w0 n I ((d, .tuple #[.bool false]) :: Γ) L ops os cs m D)
  (k1 : ∀ q p, kvs[q]? = some p → q ∉ vis → TL P w0 n I ((d, .tuple #[.bool true, p.1, p.2]) :: Γ) (L.set i (ob r (.mapIter (some b) kvs.length (vis ++ [q]).toArray kvs.length))) ops os cs m D) :
  TL P w0 n I Γ L ops (⟨some d, .next x false, ty, pos, af, g⟩ :: os) cs m D := by
 refine .core hg fun a w hF hS r' hr => ?_
 unfold Oper.wp
 have h1 := hS.obAt i hi
 have h2 := hS.obAt j hj
 have hold : ∀ e ∈ (entsL kvs 0).toArray.toList, e.born < kvs.length := by
  intro e he
  obtain ⟨q, hq⟩ := List.mem_iff_getElem?.1 he
  simp only at hq
  rw [entsL_get] at hq
  cases hk : kvs[q]? with
  | none => rw [hk] at hq; cases hq
  | some p =>
   rw [hk] at hq
   injection hq with hq
   subst hq
   have := (List.getElem?_eq_some_iff.1 hk).1
   simpa using this
 have hxe := hF.eval hx
 rcases run_next_at (P := P) w ty r b kvs.length kvs.length vis.toArray (entsL kvs 0).toArray kvs.length h1 h2 hold (Nat.le_refl _) with ⟨h3, h4⟩ | ⟨e, he, w1, hw, h4⟩
 ·have hrun : (execOp a.eval ⟨some d, .next x false, ty, pos, af, g⟩).run P w = .ok (.value (.tuple #[.bool false])) w := run_v (by rw [hxe]; exact h4)
  rw [hrun, Oper.upon_value]
  exact k0 (leftOf_none h3) _ _ (hF.put (by simpa using hn)) hS r' hr
 obtain ⟨q, p, hq, hv, rfl⟩ := leftOf_mem he
 have hrun : (execOp a.eval ⟨some d, .next x false, ty, pos, af, g⟩).run P w = .ok (.value (.tuple #[.bool true, p.1, p.2])) (Go.ChangeMaps.setBlock w1 r (.mapIter (some b) kvs.length (vis.toArray.push q) kvs.length)) := run_v (by rw [hxe]; exact h4)
 rw [hrun, Oper.upon_value]
 have e1 : vis.toArray.push q = (vis ++ [q]).toArray := by simp
 rw [e1]
 exact k1 q p hq hv _ _ (hF.put (by simpa using hn)) (hS.steps i hi hw _) r' hr
theorem TL.entryM {x : Operand} {r b q : Nat} {kvs : List (Value × Value)} {vis : List Nat} {p : Value × Value} (i j : Nat) (hi : L[i]? = some (ob r (.mapIter (some b) kvs.length (vis ++ [q]).toArray kvs.length))) (hj : L[j]? = some (mp b kvs)) (hq : kvs[q]? = some p)
  (hg : gd ops Γ ⟨some d, .entry x, ty, pos, af, g⟩ = some true) (hn : Nat.blt d n = true) (hx : ev Γ x = some (bp r 0))
  (k : TL P w0 n I ((d, .tuple #[p.1, p.2]) :: Γ) L ops os cs m D) : TL P w0 n I Γ L ops (⟨some d, .entry x, ty, pos, af, g⟩ :: os) cs m D := by
 refine .val hg rfl (by simpa using hn) (fun a w hF hS => run_v ?_) k
 rw [hF.eval hx]
 have h1 := hS.obAt i hi
 have h2 := hS.obAt j hj
 have e1 : (vis ++ [q]).toArray = vis.toArray.push q := by simp
 rw [e1] at h1
 have hm : (⟨p.1, p.2, q⟩ : MapEntry) ∈ (entsL kvs 0).toArray.toList := by
  rw [List.toList_toArray]
  refine List.mem_iff_getElem?.2 ⟨q, ?_⟩
  rw [entsL_get, hq]; simp
 have hnd : ((entsL kvs 0).toArray.toList.map (·.born)).Nodup := by
  rw [List.toList_toArray]
  have : ∀ (l : List (Value × Value)) (i : Nat), (entsL l i).map (·.born) = List.range' i l.length := by
   intro l
   induction l with
   | nil => intro i; rfl
   | cons p r ih => intro i; simp [entsL, ih, List.range'_succ]
  rw [this]
  exact List.nodup_range'
 exact run_entry_at w r b kvs.length vis.toArray (entsL kvs 0).toArray kvs.length ⟨p.1, p.2, q⟩ h1 h2 hm hnd
theorem TL.rangeS {T3 : TypeId} {x : Operand} {s : Str} (hT : P.underlying T3 = some .string)
  (hg : gd ops Γ ⟨some d, .range T3 x, ty, pos, af, g⟩ = some true) (hn : Nat.blt d n = true) (hx : ev Γ x = some (strv s))
  (k : ∀ r, TL P w0 n I ((d, bp r 0) :: Γ) (ob r (.stringIter ⟨s.toArray⟩ 0) :: L) ops os cs m D) : TL P w0 n I Γ L ops (⟨some d, .range T3 x, ty, pos, af, g⟩ :: os) cs m D := by
 refine .valW (γ := Nat) (vf := fun r => bp r 0) (Lf := fun r => ob r (.stringIter ⟨s.toArray⟩ 0) :: L) hg rfl (by simpa using hn) (fun a w hF hS => ⟨w.heap.size, w.alloc (.stringIter ⟨s.toArray⟩ 0), ?_, hS.alloc _⟩) k
 refine run_v ?_
 rw [hF.eval hx]
 simp only [Instr.range, Sem.run_bind, run_underlying hT, Result.andThen_ok, strv, Sem.run_pure]
 rfl
theorem noCellsS {s : ByteArray} {k : Nat} : ∀ c t f, Obj.stringIter s k ≠ .cells c t f := fun _ _ _ h => by cases h
theorem TL.nextS {x : Operand} {s : Str} {r q c wd : Nat} (i : Nat) (hi : L[i]? = some (ob r (.stringIter ⟨s.toArray⟩ q))) (hq : q < s.length) (hd : Utf8.decode ⟨s.toArray⟩ q = (c, wd))
  (hg : gd ops Γ ⟨some d, .next x true, ty, pos, af, g⟩ = some true) (hn : Nat.blt d n = true) (hx : ev Γ x = some (bp r 0))
  (k : TL P w0 n I ((d, .tuple #[.bool true, .int .i64 q, .int .i32 c]) :: Γ) (L.set i (ob r (.stringIter ⟨s.toArray⟩ (q + wd)))) ops os cs m D) : TL P w0 n I Γ L ops (⟨some d, .next x true, ty, pos, af, g⟩ :: os) cs m D := by
 refine .valW (γ := Unit) (vf := fun _ => .tuple #[.bool true, .int .i64 q, .int .i32 c]) (Lf := fun _ => L.set i (ob r (.stringIter ⟨s.toArray⟩ (q + wd)))) hg rfl (by simpa using hn) (fun a w hF hS => ⟨(), _, ?_, hS.obSet i hi _⟩) (fun _ => k)
 refine run_v ?_
 rw [hF.eval hx]
 have h1 := hS.obAt i hi
 have hsz : q < (ByteArray.mk s.toArray).size := by show q < s.toArray.size; simpa using hq
 simp only [Instr.next, bp, Sem.run_bind, run_getOb noCellsS h1, Result.andThen_ok, hsz, if_true, hd, run_setOb _ noCellsS h1, Sem.run_pure]
 rfl
theorem TL.overS {x : Operand} {s : Str} {r q : Nat} (i : Nat) (hi : L[i]? = some (ob r (.stringIter ⟨s.toArray⟩ q))) (hq : s.length ≤ q)
  (hg : gd ops Γ ⟨some d, .next x true, ty, pos, af, g⟩ = some true) (hn : Nat.blt d n = true) (hx : ev Γ x = some (bp r 0))
  (k : TL P w0 n I ((d, .tuple #[.bool false]) :: Γ) L ops os cs m D) : TL P w0 n I Γ L ops (⟨some d, .next x true, ty, pos, af, g⟩ :: os) cs m D := by
 refine .val hg rfl (by simpa using hn) (fun a w hF hS => run_v ?_) k
 rw [hF.eval hx]
 have h1 := hS.obAt i hi
 have hsz : ¬ q < (ByteArray.mk s.toArray).size := by show ¬ q < s.toArray.size; simpa using hq
 simp only [Instr.next, bp, Sem.run_bind, run_getOb noCellsS h1, Result.andThen_ok, hsz, if_false, Sem.run_pure]
theorem TL.bifE {b : Bool} {m1 m2 : Option β} (k1 : b = true → TL P w0 n I Γ L ops os cs m1 D) (k2 : b = false → TL P w0 n I Γ L ops os cs m2 D) : TL P w0 n I Γ L ops os cs (bif b then m1 else m2) D := by
 cases b with
 | true => exact k1 rfl
 | false => exact k2 rfl
end
end Go.Sx
namespace Go.Sx
open Go.RowKit
def mpI (b : Nat) (l : List (Int × Int)) : Asn := mp b (l.map fun p => (.int .i64 p.1, .int .i64 p.2))
def mlook (l : List (Int × Int)) (k : Int) : Int := match look l k with
  | some r => r.2
  | none => 0
def mput (l : List (Int × Int)) (k v : Int) : List (Int × Int) := match look l k with
  | some r => l.set r.1 (k, v)
  | none => l ++ [(k, v)]
theorem look_map (l : List (Int × Int)) (k : Int) : look (l.map fun p => (p.1, Value.int .i64 p.2)) k = (look l k).map fun r => (r.1, .int .i64 r.2) := by
 induction l with
 | nil => rfl
 | cons p r ih =>
  simp only [List.map_cons, look, ih]
  split
  ·rfl
  cases look r k <;> rfl
section
variable {P : Program} {w0 : World} {n : Nat} {I : Hp} {Γ : Gm} {L : List Asn} {cs : List Code} {β : Type} {m : Option β} {D : β → Post} {ops : Array Oper} {os : List Oper}
variable {d : Nat} {ty : TypeId} {pos : String} {af : Array Edge} {g : Option (Nat × Bool)}
theorem run_findI {kT : TypeId} {q : IntKind} (hk : P.underlying kT = some (.int q)) (l : List (Int × Int)) (k : Int) (w : World) :
  (Instr.findKey kT (.int .i64 k) (entsL (l.map fun p => (Value.int .i64 p.1, Value.int .i64 p.2)) 0)).run P w = .ok ((look l k).map fun r => (r.1, .int .i64 r.2)) w := by
 have h := run_find_int hk (l.map fun p => (p.1, Value.int .i64 p.2)) k w
 rw [List.map_map, look_map] at h
 exact h
theorem TL.mkmapI {T : TypeId} (hg : gd ops Γ ⟨some d, .makeMap T none, ty, pos, af, g⟩ = some true) (hn : Nat.blt d n = true)
  (k : ∀ b, TL P w0 n I ((d, .map (some b)) :: Γ) (mpI b [] :: L) ops os cs m D) : TL P w0 n I Γ L ops (⟨some d, .makeMap T none, ty, pos, af, g⟩ :: os) cs m D := TL.mkmap hg hn k
theorem TL.mgetI {T kT eT : TypeId} {q : IntKind} {x ix : Operand} {b : Nat} {l : List (Int × Int)} {key : Int} (i : Nat) (hi : L[i]? = some (mpI b l)) (hT : P.underlying T = some (.map kT eT)) (hq : P.underlying kT = some (.int q)) (hz : ∀ w, (zeroValue eT).run P w = .ok (.int .i64 0) w)
  (hg : gd ops Γ ⟨some d, .lookup T x ix false, ty, pos, af, g⟩ = some true) (hn : Nat.blt d n = true) (hx : ev Γ x = some (.map (some b))) (hk : ev Γ ix = some (.int .i64 key))
  (k : TL P w0 n I ((d, .int .i64 (mlook l key)) :: Γ) L ops os cs m D) : TL P w0 n I Γ L ops (⟨some d, .lookup T x ix false, ty, pos, af, g⟩ :: os) cs m D := by
 refine TL.mget i hi hT (fun e w => run_check_int hq key e w) (fun w _ => run_findI hq l key w) hz ?_ hg hn hx hk k
 cases hl : look l key with
 | none => unfold mlook; rw [hl]; rfl
 | some r => unfold mlook; rw [hl]; rfl
theorem TL.mputI {T kT eT : TypeId} {q : IntKind} {x ix y : Operand} {b : Nat} {l : List (Int × Int)} {key v : Int} (i : Nat) (hi : L[i]? = some (mpI b l)) (hT : P.underlying T = some (.map kT eT)) (hq : P.underlying kT = some (.int q))
  (hg : gd ops Γ ⟨none, .mapUpdate T x ix y, ty, pos, af, g⟩ = some true) (hx : ev Γ x = some (.map (some b))) (hk : ev Γ ix = some (.int .i64 key)) (hy : ev Γ y = some (.int .i64 v))
  (k : TL P w0 n I Γ (L.set i (mpI b (mput l key v))) ops os cs m D) : TL P w0 n I Γ L ops (⟨none, .mapUpdate T x ix y, ty, pos, af, g⟩ :: os) cs m D := by
 unfold mput at k
 cases hl : look l key with
 | none =>
  rw [hl] at k
  refine TL.mputNew i hi hT (fun e w => run_check_int hq key e w) (fun w _ => by have := run_findI hq l key w; rw [hl] at this; exact this) hg hx hk hy ?_
  have e : mpI b (l ++ [(key, v)]) = mp b ((l.map fun p => (Value.int .i64 p.1, Value.int .i64 p.2)) ++ [(.int .i64 key, .int .i64 v)]) := by unfold mpI; rw [List.map_append]; rfl
  rw [← e]
  exact k
 | some r =>
  rw [hl] at k
  have hj := look_get (show look l key = some (r.1, r.2) from hl)
  refine TL.mputOld (j := r.1) (u := .int .i64 r.2) i hi hT (fun e w => run_check_int hq key e w) (fun w _ => by have := run_findI hq l key w; rw [hl] at this; exact this) (by rw [List.getElem?_map, hj]; rfl) (by rw [Instr.sameBits]; simp) hg hx hk hy ?_
  have e : mpI b (l.set r.1 (key, v)) = mp b ((l.map fun p => (Value.int .i64 p.1, Value.int .i64 p.2)).set r.1 (.int .i64 key, .int .i64 v)) := by unfold mpI; rw [List.map_set]
  rw [← e]
  exact k
end
end Go.Sx
namespace Go.Proofs.YtpejnjpckacciaaGreatDoor.G
open Go Go.Sx Go.Proofs Go.RowKit Go.Shelf
theorem mul_1 (k : Nat) (hk : k ≤ 2) (W : World) : Calls Tryz.prog 95 #[.int .u64 1, .int .u64 (k : Int)] W fun e w' => e = .returned (.tuple #[.int .u64 0, .int .u64 (k : Int)]) ∧ w' = W := by
 have := Any.bits_Mul (ρ := lays105_ren) { lays105 with } 1 k (by omega) (by omega) W
 have e1 : 1 * k / 18446744073709551616 = 0 := by omega
 have e2 : 1 * k % 18446744073709551616 = k := by omega
 rw [e1, e2] at this
 exact this
theorem mk_k (k : Nat) (hk : k ≤ 2) (W : World) : (Instr.makeSlice 74 (.int .i64 (k : Int)) (.int .i64 (k : Int))).run Tryz.prog W = .ok (.slice (some ⟨W.heap.size, 0, none⟩) k k) (W.alloc (.cells (madeCells #[.int .i64 0] k) 3)) := by
 have := run_make (P := Tryz.prog) W 74 3 Tryz.t3 (.int .i64 0) Tryz.underlying74 (info_of Tryz.type3) rfl .i64 .i64 (k : Int) (k : Int) (by omega) (Int.le_refl _) (by rw [show Tryz.t3.bytes = 8 from rfl]; omega) (by omega)
 rw [this]
 simp only [Int.toNat_natCast, show Tryz.t3.size = 1 from rfl, Nat.mul_one]
 rfl
theorem cp_1 (b o c n : Nat) (x : Int) (z : List Value) (W : World) (hn : n = z.length + 1) (hc : W.cell? ⟨b, o, none⟩ = some (.int .i64 x)) :
  (Builtin.copy_ #[74, 74] 3 #[.slice (some ⟨W.heap.size, 0, none⟩) n n, .slice (some ⟨b, o, none⟩) 1 c]).run Tryz.prog (W.alloc (.cells (.int .i64 0 :: z).toArray 3)) = .ok (.int .i64 1) (W.alloc (.cells (.int .i64 x :: z).toArray 3)) := by
 subst hn
 have hb : b < W.heap.size := by
  unfold World.cell? at hc
  cases h : W.heap[b]? with
  | none => rw [h] at hc; cases hc
  | some _ => exact (Array.getElem?_eq_some_iff.1 h).1
 have := run_copy_row (P := Tryz.prog) (W.alloc (.cells (.int .i64 0 :: z).toArray 3)) 74 74 3 3 W.heap.size 0 (z.length + 1) (z.length + 1) ⟨b, o, none⟩ 1 c (.int .i64 0 :: z).toArray 3 [.int .i64 x] Tryz.underlying74 (by rw [info_of Tryz.type3]; rfl) (heap_alloc_last W _) (by simp) (by
  intro j v hj
  cases j with
  | zero =>
   simp at hj; subst hj
   have : (⟨b, o, none⟩ : Addr).add 0 = ⟨b, o, none⟩ := by simp [Addr.add]
   rw [this]
   have := Below.heap_alloc W (.cells (.int .i64 0 :: z).toArray 3) b hb
   unfold World.cell? at hc ⊢
   rw [this]
   exact hc
  | succ j => simp at hj) (by simp) (by intro v hv; simp at hv; subst hv; rfl)
 rw [this]
 have e : (List.take 0 (Value.int .i64 0 :: z).toArray.toList ++ [Value.int .i64 x] ++ List.drop (0 + [Value.int .i64 x].length) (Value.int .i64 0 :: z).toArray.toList).toArray = (Value.int .i64 x :: z).toArray := by simp
 rw [e, World.setRow_alloc_new]
 rfl
theorem cp_2 (x : Int) (W : World) (g : Nat) (hg : W.heap[g]? = some (.cells #[.int .i64 x, .int .i64 0] 3 (0, 0))) :
  (Builtin.copy_ #[74, 74] 3 #[.slice (some ⟨g, 1, none⟩) 1 1, .slice (some ⟨g, 0, none⟩) 1 2]).run Tryz.prog W = .ok (.int .i64 1) (W.setRow g #[.int .i64 x, .int .i64 x]) := by
 have := run_copy_row (P := Tryz.prog) W 74 74 3 3 g 1 1 1 ⟨g, 0, none⟩ 1 2 #[.int .i64 x, .int .i64 0] 3 [.int .i64 x] Tryz.underlying74 (by rw [info_of Tryz.type3]; rfl) hg (by simp) (by
  intro j v hj
  cases j with
  | zero =>
   simp at hj; subst hj
   have : (⟨g, 0, none⟩ : Addr).add 0 = ⟨g, 0, none⟩ := by simp [Addr.add]
   rw [this]
   unfold World.cell?
   rw [hg]
   simp
  | succ j => simp at hj) (by simp) (by intro v hv; simp at hv; subst hv; rfl)
 rw [this]
 have e : (List.take 1 #[Value.int .i64 x, .int .i64 0].toList ++ [Value.int .i64 x] ++ List.drop (1 + [Value.int .i64 x].length) #[Value.int .i64 x, .int .i64 0].toList).toArray = #[.int .i64 x, .int .i64 x] := by simp
 rw [e]
 rfl
theorem rep_1 (b o c : Nat) (x : Int) (W : World) (hc : W.cell? ⟨b, o, none⟩ = some (.int .i64 x)) :
  Calls Tryz.prog 77 #[.slice (some ⟨b, o, none⟩) 1 c, .int .i64 1] W fun e w' => e = .returned (.slice (some ⟨W.heap.size, 0, none⟩) 1 1) ∧ ∃ q, w' = (W.alloc (.cells #[.int .i64 x] 3)).drewN q := by
 have m1 := fun W => mul_1 1 (by omega) W
 have hms : (Instr.makeSlice 74 (.int .i64 1) (.int .i64 1)).run Tryz.prog W = .ok (.slice (some ⟨W.heap.size, 0, none⟩) 1 1) (W.alloc (.cells #[.int .i64 0] 3)) := by
  have := mk_k 1 (by omega) W
  have em : madeCells #[Value.int .i64 0] 1 = #[.int .i64 0] := by kernel_rfl
  rw [em] at this
  exact this
 have hcp := cp_1 b o c 1 x [] W rfl hc
 go_enter Tryz.func77, Tryz.ntmps77
 go_wp2_with (go_at_call 95; refine (m1 _).mono ?_; rintro e w' ⟨rfl, hw⟩; rw [hw])
 refine wp_loop_rounds 1 ?_
 rw [rounds_succ]
 go_wp2
 go_ret
 exact ⟨rfl, 0, rfl⟩
theorem rep_2 (b o c : Nat) (x : Int) (W : World) (hc : W.cell? ⟨b, o, none⟩ = some (.int .i64 x)) :
  Calls Tryz.prog 77 #[.slice (some ⟨b, o, none⟩) 1 c, .int .i64 2] W fun e w' => e = .returned (.slice (some ⟨W.heap.size, 0, none⟩) 2 2) ∧ ∃ q, w' = (W.alloc (.cells #[.int .i64 x, .int .i64 x] 3)).drewN q := by
 have m1 := fun W => mul_1 2 (by omega) W
 have hms : (Instr.makeSlice 74 (.int .i64 2) (.int .i64 2)).run Tryz.prog W = .ok (.slice (some ⟨W.heap.size, 0, none⟩) 2 2) (W.alloc (.cells #[.int .i64 0, .int .i64 0] 3)) := by
  have := mk_k 2 (by omega) W
  have em : madeCells #[Value.int .i64 0] 2 = #[.int .i64 0, .int .i64 0] := by kernel_rfl
  rw [em] at this
  exact this
 have hcp := cp_1 b o c 2 x [.int .i64 0] W rfl hc
 have hc0_ : (Builtin.copy_ #[74, 74] 3 #[.slice (some ⟨W.heap.size, 1, none⟩) 1 1, .slice (some ⟨W.heap.size, 0, none⟩) 1 2]).run Tryz.prog ((W.alloc (.cells #[.int .i64 x, .int .i64 0] 3))) = .ok (.int .i64 1) ((W.alloc (.cells #[.int .i64 x, .int .i64 x] 3)).drewN 0) := by
  rw [cp_2 x ((W.alloc (.cells #[.int .i64 x, .int .i64 0] 3))) W.heap.size (heap_alloc_last W _)]
  exact congrArg (Result.ok _) (by rw [show ((W.alloc (.cells #[.int .i64 x, .int .i64 0] 3))) = (W.alloc (.cells #[.int .i64 x, .int .i64 0] 3)).drewN 0 from rfl, ← World.setRow_alloc_new W #[.int .i64 x, .int .i64 0] #[.int .i64 x, .int .i64 x] 3]; rfl)
 have hc1_ : (Builtin.copy_ #[74, 74] 3 #[.slice (some ⟨W.heap.size, 1, none⟩) 1 1, .slice (some ⟨W.heap.size, 0, none⟩) 1 2]).run Tryz.prog ((W.alloc (.cells #[.int .i64 x, .int .i64 0] 3)).drew) = .ok (.int .i64 1) ((W.alloc (.cells #[.int .i64 x, .int .i64 x] 3)).drewN 1) := by
  rw [cp_2 x ((W.alloc (.cells #[.int .i64 x, .int .i64 0] 3)).drew) W.heap.size (heap_alloc_last W _)]
  exact congrArg (Result.ok _) (by rw [show ((W.alloc (.cells #[.int .i64 x, .int .i64 0] 3)).drew) = (W.alloc (.cells #[.int .i64 x, .int .i64 0] 3)).drewN 1 from rfl, ← World.setRow_alloc_new W #[.int .i64 x, .int .i64 0] #[.int .i64 x, .int .i64 x] 3]; rfl)
 have hc2_ : (Builtin.copy_ #[74, 74] 3 #[.slice (some ⟨W.heap.size, 1, none⟩) 1 1, .slice (some ⟨W.heap.size, 0, none⟩) 1 2]).run Tryz.prog ((W.alloc (.cells #[.int .i64 x, .int .i64 0] 3)).drew.drew) = .ok (.int .i64 1) ((W.alloc (.cells #[.int .i64 x, .int .i64 x] 3)).drewN 2) := by
  rw [cp_2 x ((W.alloc (.cells #[.int .i64 x, .int .i64 0] 3)).drew.drew) W.heap.size (heap_alloc_last W _)]
  exact congrArg (Result.ok _) (by rw [show ((W.alloc (.cells #[.int .i64 x, .int .i64 0] 3)).drew.drew) = (W.alloc (.cells #[.int .i64 x, .int .i64 0] 3)).drewN 2 from rfl, ← World.setRow_alloc_new W #[.int .i64 x, .int .i64 0] #[.int .i64 x, .int .i64 x] 3]; rfl)
 have hc3_ : (Builtin.copy_ #[74, 74] 3 #[.slice (some ⟨W.heap.size, 1, none⟩) 1 1, .slice (some ⟨W.heap.size, 0, none⟩) 1 2]).run Tryz.prog ((W.alloc (.cells #[.int .i64 x, .int .i64 0] 3)).drew.drew.drew) = .ok (.int .i64 1) ((W.alloc (.cells #[.int .i64 x, .int .i64 x] 3)).drewN 3) := by
  rw [cp_2 x ((W.alloc (.cells #[.int .i64 x, .int .i64 0] 3)).drew.drew.drew) W.heap.size (heap_alloc_last W _)]
  exact congrArg (Result.ok _) (by rw [show ((W.alloc (.cells #[.int .i64 x, .int .i64 0] 3)).drew.drew.drew) = (W.alloc (.cells #[.int .i64 x, .int .i64 0] 3)).drewN 3 from rfl, ← World.setRow_alloc_new W #[.int .i64 x, .int .i64 0] #[.int .i64 x, .int .i64 x] 3]; rfl)
 have hc4_ : (Builtin.copy_ #[74, 74] 3 #[.slice (some ⟨W.heap.size, 1, none⟩) 1 1, .slice (some ⟨W.heap.size, 0, none⟩) 1 2]).run Tryz.prog ((W.alloc (.cells #[.int .i64 x, .int .i64 0] 3)).drew.drew.drew.drew) = .ok (.int .i64 1) ((W.alloc (.cells #[.int .i64 x, .int .i64 x] 3)).drewN 4) := by
  rw [cp_2 x ((W.alloc (.cells #[.int .i64 x, .int .i64 0] 3)).drew.drew.drew.drew) W.heap.size (heap_alloc_last W _)]
  exact congrArg (Result.ok _) (by rw [show ((W.alloc (.cells #[.int .i64 x, .int .i64 0] 3)).drew.drew.drew.drew) = (W.alloc (.cells #[.int .i64 x, .int .i64 0] 3)).drewN 4 from rfl, ← World.setRow_alloc_new W #[.int .i64 x, .int .i64 0] #[.int .i64 x, .int .i64 x] 3]; rfl)
 have hc5_ : (Builtin.copy_ #[74, 74] 3 #[.slice (some ⟨W.heap.size, 1, none⟩) 1 1, .slice (some ⟨W.heap.size, 0, none⟩) 1 2]).run Tryz.prog ((W.alloc (.cells #[.int .i64 x, .int .i64 0] 3)).drew.drew.drew.drew.drew) = .ok (.int .i64 1) ((W.alloc (.cells #[.int .i64 x, .int .i64 x] 3)).drewN 5) := by
  rw [cp_2 x ((W.alloc (.cells #[.int .i64 x, .int .i64 0] 3)).drew.drew.drew.drew.drew) W.heap.size (heap_alloc_last W _)]
  exact congrArg (Result.ok _) (by rw [show ((W.alloc (.cells #[.int .i64 x, .int .i64 0] 3)).drew.drew.drew.drew.drew) = (W.alloc (.cells #[.int .i64 x, .int .i64 0] 3)).drewN 5 from rfl, ← World.setRow_alloc_new W #[.int .i64 x, .int .i64 0] #[.int .i64 x, .int .i64 x] 3]; rfl)
 have hc6_ : (Builtin.copy_ #[74, 74] 3 #[.slice (some ⟨W.heap.size, 1, none⟩) 1 1, .slice (some ⟨W.heap.size, 0, none⟩) 1 2]).run Tryz.prog ((W.alloc (.cells #[.int .i64 x, .int .i64 0] 3)).drew.drew.drew.drew.drew.drew) = .ok (.int .i64 1) ((W.alloc (.cells #[.int .i64 x, .int .i64 x] 3)).drewN 6) := by
  rw [cp_2 x ((W.alloc (.cells #[.int .i64 x, .int .i64 0] 3)).drew.drew.drew.drew.drew.drew) W.heap.size (heap_alloc_last W _)]
  exact congrArg (Result.ok _) (by rw [show ((W.alloc (.cells #[.int .i64 x, .int .i64 0] 3)).drew.drew.drew.drew.drew.drew) = (W.alloc (.cells #[.int .i64 x, .int .i64 0] 3)).drewN 6 from rfl, ← World.setRow_alloc_new W #[.int .i64 x, .int .i64 0] #[.int .i64 x, .int .i64 x] 3]; rfl)
 have hc7_ : (Builtin.copy_ #[74, 74] 3 #[.slice (some ⟨W.heap.size, 1, none⟩) 1 1, .slice (some ⟨W.heap.size, 0, none⟩) 1 2]).run Tryz.prog ((W.alloc (.cells #[.int .i64 x, .int .i64 0] 3)).drew.drew.drew.drew.drew.drew.drew) = .ok (.int .i64 1) ((W.alloc (.cells #[.int .i64 x, .int .i64 x] 3)).drewN 7) := by
  rw [cp_2 x ((W.alloc (.cells #[.int .i64 x, .int .i64 0] 3)).drew.drew.drew.drew.drew.drew.drew) W.heap.size (heap_alloc_last W _)]
  exact congrArg (Result.ok _) (by rw [show ((W.alloc (.cells #[.int .i64 x, .int .i64 0] 3)).drew.drew.drew.drew.drew.drew.drew) = (W.alloc (.cells #[.int .i64 x, .int .i64 0] 3)).drewN 7 from rfl, ← World.setRow_alloc_new W #[.int .i64 x, .int .i64 0] #[.int .i64 x, .int .i64 x] 3]; rfl)
 have hc8_ : (Builtin.copy_ #[74, 74] 3 #[.slice (some ⟨W.heap.size, 1, none⟩) 1 1, .slice (some ⟨W.heap.size, 0, none⟩) 1 2]).run Tryz.prog ((W.alloc (.cells #[.int .i64 x, .int .i64 0] 3)).drew.drew.drew.drew.drew.drew.drew.drew) = .ok (.int .i64 1) ((W.alloc (.cells #[.int .i64 x, .int .i64 x] 3)).drewN 8) := by
  rw [cp_2 x ((W.alloc (.cells #[.int .i64 x, .int .i64 0] 3)).drew.drew.drew.drew.drew.drew.drew.drew) W.heap.size (heap_alloc_last W _)]
  exact congrArg (Result.ok _) (by rw [show ((W.alloc (.cells #[.int .i64 x, .int .i64 0] 3)).drew.drew.drew.drew.drew.drew.drew.drew) = (W.alloc (.cells #[.int .i64 x, .int .i64 0] 3)).drewN 8 from rfl, ← World.setRow_alloc_new W #[.int .i64 x, .int .i64 0] #[.int .i64 x, .int .i64 x] 3]; rfl)
 go_enter Tryz.func77, Tryz.ntmps77
 go_wp2_with (go_at_call 95; refine (m1 _).mono ?_; rintro e w' ⟨rfl, hw⟩; rw [hw])
 refine wp_loop_rounds 2 ?_
 rw [rounds_succ]
 go_wp2
 go_region
 all_goals go_wp2
 all_goals rw [rounds_succ]
 all_goals go_wp2
 all_goals go_ret
 all_goals exact ⟨rfl, _, rfl⟩
theorem rep_0 (b o c : Nat) (x : Int) (W : World) :
  Calls Tryz.prog 77 #[.slice (some ⟨b, o, none⟩) 1 c, .int .i64 0] W fun e w' => e = .returned (.slice (some ⟨W.heap.size, 0, none⟩) 0 0) ∧ ∃ q, w' = (W.alloc (.cells #[] 3)).drewN q := by
 have m1 := fun W => mul_1 0 (by omega) W
 have hms : (Instr.makeSlice 74 (.int .i64 0) (.int .i64 0)).run Tryz.prog W = .ok (.slice (some ⟨W.heap.size, 0, none⟩) 0 0) (W.alloc (.cells #[] 3)) := by
  have := mk_k 0 (by omega) W
  have em : madeCells #[Value.int .i64 0] 0 = #[] := by kernel_rfl
  rw [em] at this
  exact this
 have hcp := run_copy_none (P := Tryz.prog) (W.alloc (.cells #[] 3)) 74 74 3 3 (some ⟨W.heap.size, 0, none⟩) (some ⟨b, o, none⟩) 0 0 1 c Tryz.underlying74 (by rw [info_of Tryz.type3]; rfl) rfl
 go_enter Tryz.func77, Tryz.ntmps77
 go_wp2_with (go_at_call 95; refine (m1 _).mono ?_; rintro e w' ⟨rfl, hw⟩; rw [hw])
 refine wp_loop_rounds 1 ?_
 rw [rounds_succ]
 go_wp2
 go_ret
 exact ⟨rfl, 0, rfl⟩
def slices_Repeat_int.f (x1 : List Int) (n1 : Int) : Option (List Int) := match x1 with
  | [a] => if 0 ≤ n1 ∧ n1 ≤ 2 then some (List.replicate n1.toNat a) else none
  | _ => none
def slices_Repeat_int.R (r : List Int) (v : Value) (L : List Asn) : Prop := ∃ (s0 : SV), v = SV.v s0 ∧ L = [row Ei 3 s0 r]
theorem ret_new {w : World} {r : List Int} {cells : Array Value} (q : Nat) (hc : cells.toList = encs Ei r) (hl : r.length ≤ 2) : Ret w (slices_Repeat_int.R r) (.returned (.slice (some ⟨w.heap.size, 0, none⟩) r.length r.length)) ((w.alloc (.cells cells 3)).drewN q) := by
 have hcs : cells.size = r.length := by
  have := congrArg List.length hc
  rw [encs_length] at this
  simpa [Ei] using this
 have hnew : ((w.alloc (.cells cells 3)).drewN q).heap[w.heap.size]? = some (.cells cells 3 (0, 0)) := heap_alloc_last w _
 refine ⟨_, _, rfl, ⟨⟨some ⟨w.heap.size, 0, none⟩, r.length, r.length⟩, rfl, rfl⟩, ⟨rfl, rfl, rfl, by show w.heap.size ≤ (w.alloc (.cells cells 3)).heap.size; simp, fun k hk => Below.heap_alloc w _ k hk⟩, .refl _, fun b o hbo => ?_, [(w.heap.size, .cells cells 3 (0, 0))], ⟨[(w.heap.size, .cells cells 3 (0, 0))], [], rfl, ?_, rfl⟩, by simp, ?_⟩
 ·have hbl : b < w.heap.size := (Array.getElem?_eq_some_iff.1 hbo).1
  exact (Below.heap_alloc w _ b hbl).trans hbo
 ·right
  refine ⟨w.heap.size, 0, r.length, cells, rfl, rfl, Nat.le_refl _, by simp [maxLen]; omega, by rw [hcs]; simp [Ei], ?_⟩
  rw [List.drop_zero, hc, List.take_of_length_le (by rw [encs_length]; exact Nat.le_refl _)]
 intro p hp
 obtain rfl := List.mem_singleton.1 hp
 exact ⟨Array.getElem?_eq_none (Nat.le_refl _), hnew⟩
theorem slices_Repeat_int.calls (w : World) (s : SV) (x1 : List Int) (n1 : Int) (h1 : Reads Ei (hp w) s x1) : ∀ v, slices_Repeat_int.f x1 n1 = some v → Calls Tryz.prog 77 #[SV.v s, .int .i64 n1] w (Ret w (slices_Repeat_int.R v)) := by
 intro v hv
 unfold slices_Repeat_int.f at hv
 split at hv
 case h_2 => cases hv
 case h_1 a =>
  split at hv
  case isFalse => cases hv
  case isTrue h =>
   obtain rfl := Option.some.inj hv
   obtain ⟨h0, hl1, hl2, h3⟩ := h1
   rcases h3 with h3 | ⟨b, o, cs, T, fr, ha, hb, hcs⟩
   ·cases h3
   obtain ⟨sa, sn, sc⟩ := s
   simp only [List.length_singleton] at h0 ha
   subst h0 ha
   have hcell : w.cell? ⟨b, o, none⟩ = some (.int .i64 a) := by
    have e := hcs 0 _ rfl
    unfold World.cell?
    rw [show w.heap[b]? = some (.cells cs T fr) from hb]
    simpa using e
   have hn : n1 = 0 ∨ n1 = 1 ∨ n1 = 2 := by omega
   rcases hn with rfl | rfl | rfl
   ·refine (rep_0 b o sc a w).mono ?_
    rintro e w' ⟨rfl, q, rfl⟩
    exact ret_new (r := []) q rfl (by simp)
   ·refine (rep_1 b o sc a w hcell).mono ?_
    rintro e w' ⟨rfl, q, rfl⟩
    exact ret_new (r := [a]) q rfl (by simp)
   refine (rep_2 b o sc a w hcell).mono ?_
   rintro e w' ⟨rfl, q, rfl⟩
   exact ret_new (r := [a, a]) q rfl (by simp)
open Go Go.Sx Go.Proofs
def impl_tracer_layer.b0 (x3 : List Int) (x6 : Int) (r_1 : Int) (r_4 : Int) : (List Int) × Int → Option (LB ((List Int) × Int)) := fun p => match p with | (l3, x14) => (bif (decide (x14 < (((x3.drop x6.toNat).take (((w64 (x6 + r_1)).toNat) - x6.toNat)).length : Int))) then chk x14 (((x3.drop x6.toNat).take (((w64 (x6 + r_1)).toNat) - x6.toNat)).length) ((G.impl_pool_join.f l3 r_4 (gt ((x3.drop x6.toNat).take (((w64 (x6 + r_1)).toNat) - x6.toNat)) x14)).bind (fun l4 => some (.next (l4, (w64 (x14 + 1)))))) else some (.brk (l3, x14)))
def impl_tracer_layer.b1 (x4 : Str) (x3 : List Int) : (List Int) × (List (Int × Int)) × (List Int) × Int × Int → Option (LB ((List Int) × (List (Int × Int)) × (List Int) × Int × Int)) := fun p => match p with | (y1, l1, x5, x6, x7) => (bif (decide (x7 < (x4.length : Int))) then (chk x7 x4.length ((G.impl_legsOfPiece.f (gt x4 x7)).bind (fun p => match p with | (r_1, r_2, r_3) => grd (decide (0 ≤ x6) && decide (x6 ≤ (w64 (x6 + r_1))) && decide ((w64 (x6 + r_1)) ≤ (x3.length : Int))) ((bif (((gt x4 x7).toNat : Int) == ((120 : UInt8).toNat : Int)) then chk 1 (((x3.drop x6.toNat).take (((w64 (x6 + r_1)).toNat) - x6.toNat)).length) (chk 0 (((x3.drop x6.toNat).take (((w64 (x6 + r_1)).toNat) - x6.toNat)).length) (small (x5.length + ([(gt ((x3.drop x6.toNat).take (((w64 (x6 + r_1)).toNat) - x6.toNat)) 1), (gt ((x3.drop x6.toNat).take (((w64 (x6 + r_1)).toNat) - x6.toNat)) 0)] : List Int).length) (some (.inl (y1, l1, (x5 ++ ([(gt ((x3.drop x6.toNat).take (((w64 (x6 + r_1)).toNat) - x6.toNat)) 1), (gt ((x3.drop x6.toNat).take (((w64 (x6 + r_1)).toNat) - x6.toNat)) 0)] : List Int)), (w64 (x6 + r_1))))))) else (G.impl_pool_add.f y1).bind (fun p => match p with | (r_4, p1) => (G.impl_euler.f (gt x4 x7)).bind (fun r_5 => (loop1 (impl_tracer_layer.b0 x3 x6 r_1 r_4) (p1, 0)).bind (fun p => match p with | (l3, x14) => (G.slices_Repeat_int.f ([r_4] : List Int) r_2).bind (fun r_6 => small (x5.length + r_6.length) (some (.inl (l3, (mput l1 r_4 r_5), (x5 ++ r_6), (w64 (x6 + r_1)))))))))))))).bind (jn (fun p => match p with | (y3, l2, x12, x13) => some (.next (y3, l2, x12, x13, (w64 (x7 + 1)))))) else some (.brk (y1, l1, x5, x6, x7)))
def impl_tracer_layer.f (x1 : List Int) (x2 : List (Int × Int)) (x3 : List Int) (x4 : Str) : Option ((List Int) × (List (Int × Int)) × (List Int)) := (loop1 (impl_tracer_layer.b1 x4 x3) (x1, x2, ([] : List Int), 0, 0)).bind (fun p => match p with | (y1, l1, x5, x6, x7) => some (y1, l1, x5))
def impl_tracer_layer.R (b_1 : Nat) (r : (List Int) × (List (Int × Int)) × (List Int)) (v : Value) (L : List Asn) : Prop := ∃ (s0 : SV) (s1 : Nat) (s2 : SV), v = .tuple #[] ∧ L = [box b_1 77 [.one (SV.v s0), .one (.map (some s1)), .one (SV.v s2)], row Ei 3 s0 r.1, mpI s1 r.2.1, row Ei 3 s2 r.2.2]
theorem impl_tracer_layer.calls (w0 : World) (I : Hp) (w : World) (b_1 : Nat) (s1 : SV) (x1 : List Int) (s2 : Nat) (x2 : List (Int × Int)) (s3 : SV) (x3 : List Int) (x4 : Str) (hS : St w0 I [box b_1 77 [.one (SV.v s1), .one (.map (some s2)), .one (SV.v s3)], row Ei 3 s1 x1, mpI s2 x2, row Ei 3 s3 x3] w) :
  ∀ r, impl_tracer_layer.f x1 x2 x3 x4 = some r → Calls Tryz.prog 56 #[bp b_1 0, strv x4] w (RetM w0 I ((impl_tracer_layer.R b_1) r)) := by
 refine calls_TM (w0 := w0) (I := I) (L := [box b_1 77 [.one (SV.v s1), .one (.map (some s2)), .one (SV.v s3)], row Ei 3 s1 x1, mpI s2 x2, row Ei 3 s3 x3]) (n := 91) (Γ := [(0, bp b_1 0), (1, strv x4)]) (R := (impl_tracer_layer.R b_1)) Tryz.func56 rfl rfl (Nat.le_of_ble_eq_true rfl) ⟨rfl, rfl, trivial⟩ ?_ w hS
 unfold impl_tracer_layer.f
 refine TC.seq <| TC.region ?_
 refine TL.bslice0 Ei Tryz.underlying74 Tryz.sizeOf3 rfl rfl fun s4 => ?_
 refine TL.as (SV.v s4) <| TL.as (.int .i64 0) <| TL.done <| TC.seq <| TC.seq <| TC.region ?_
 refine TL.mv (strv x4) <| TL.lenstr Tryz.underlying9 rfl rfl rfl <| TL.mv (.int .i64 0) <| TL.done ?_
 refine TC.loop1 (σ := (List Int) × (List (Int × Int)) × (List Int) × Int × Int) (γ := SV × SV) (Γ' := (fun p q => match p, q with | (y1, l1, x5, x6, x7), (s5, s6) => [(0, bp b_1 0), (1, strv x4), (4, SV.v s6), (5, .int .i64 x6), (16, .int .i64 (x4.length : Int)), (17, .int .i64 x7)])) (L' := (fun p q => match p, q with | (y1, l1, x5, x6, x7), (s5, s6) => [box b_1 77 [.one (SV.v s5), .one (.map (some s2)), .one (SV.v s3)], row Ei 3 s5 y1, mpI s2 l1, row Ei 3 s3 x3, row Ei 3 s6 x5])) (Γb := (fun p q => match p, q with | (y1, l1, x5, x6, x7), (s5, s6) => [(0, bp b_1 0), (1, strv x4), (4, SV.v s6), (5, .int .i64 x6), (16, .int .i64 (x4.length : Int)), (17, .int .i64 x7)])) (Lb := (fun p q => match p, q with | (y1, l1, x5, x6, x7), (s5, s6) => [box b_1 77 [.one (SV.v s5), .one (.map (some s2)), .one (SV.v s3)], row Ei 3 s5 y1, mpI s2 l1, row Ei 3 s3 x3, row Ei 3 s6 x5])) ((x1, x2, ([] : List Int), 0, 0)) ((s1, s4)) ⟨rfl, rfl, rfl, rfl, rfl, rfl, trivial⟩ [1, 1, 1, 1, 0] rfl ?_ ?_
 ·rintro ⟨y1, l1, x5, x6, x7⟩ ⟨s5, s6⟩
  refine TC.seq <| TC.region <| TL.bn .i64 x7 (x4.length : Int) (.bool (decide (x7 < (x4.length : Int)))) <| TL.done <| TC.seq ?_
  refine TC.cond (b := (decide (x7 < (x4.length : Int)))) rfl (fun c1 => ?_) (fun c2 => ?_)
  ·refine TC.skip <| TC.seq ?_
   refine TC.blockJ (σ := (List Int) × (List (Int × Int)) × (List Int) × Int) (γ := SV × SV) (Γ' := (fun p q => match p, q with | (y3, l2, x12, x13), (s10, s11) => [(0, bp b_1 0), (1, strv x4), (4, SV.v s11), (5, .int .i64 x13), (16, .int .i64 (x4.length : Int)), (17, .int .i64 x7)])) (L' := (fun p q => match p, q with | (y3, l2, x12, x13), (s10, s11) => [box b_1 77 [.one (SV.v s10), .one (.map (some s2)), .one (SV.v s3)], row Ei 3 s10 y3, mpI s2 l2, row Ei 3 s3 x3, row Ei 3 s11 x12])) ?_ ?_
   ·refine TC.seq <| TC.region <| TL.mv (.int .i64 x7) <| TL.as (.int .i64 x7) <| TL.done <| TC.seq ?_
    refine TC.region <| TL.mv (strv x4) <| TL.mv (.int .i64 x7) ?_
    refine TL.chk fun h1 => ?_
    refine TL.ixstr x7 h1 Tryz.underlying9 rfl rfl rfl rfl ?_
    refine TL.call (R := G.impl_legsOfPiece.R) Tryz.call65 rfl rfl rfl (fun w hS => G.impl_legsOfPiece.calls w (gt x4 x7)) ?_
    rintro ⟨r_1, r_2, r_3⟩ _ _ ⟨rfl, rfl⟩
    refine TL.mv (.tuple #[.int .i64 r_1, .int .i64 r_2, .bool r_3]) <| TL.extract rfl rfl rfl (v := .int .i64 r_1) rfl <| TL.extract rfl rfl rfl (v := .int .i64 r_2) rfl <| TL.extract rfl rfl rfl (v := .bool r_3) rfl <| TL.as (.int .i64 r_1) <| TL.as (.int .i64 r_2) ?_
    refine TL.as (.bool r_3) <| TL.done <| TC.seq <| TC.region <| TL.mv (bp b_1 0) ?_
    refine TL.nilCheck rfl rfl rfl ?_
    refine TL.fa Tryz.underlying77 rfl Tryz.sizeOf74 rfl 2 rfl rfl rfl rfl <| TL.load1 2 (Src.box 0 rfl) Tryz.isAgg74 rfl rfl rfl rfl rfl <| TL.mv (.int .i64 x6) <| TL.mv (.int .i64 x6) <| TL.mv (.int .i64 r_1) <| TL.bn .i64 x6 r_1 (.int .i64 (w64 (x6 + r_1))) ?_
    refine TL.grd fun h2 => ?_
    refine TL.slice (li := (some x6)) (hi' := (some (w64 (x6 + r_1)))) (l := x6.toNat) (h := ((w64 (x6 + r_1)).toNat)) (Rd.row 3 rfl) Tryz.underlying74 Tryz.sizeOf3 rfl rfl (by have h_ := h2; simp only [Bool.and_eq_true, decide_eq_true_eq] at h_; first | rfl | omega | (simp only [Option.getD_some]; omega) | (simp only [Option.getD_none]; omega)) (by have h_ := h2; simp only [Bool.and_eq_true, decide_eq_true_eq] at h_; first | rfl | omega | (simp only [Option.getD_some]; omega) | (simp only [Option.getD_none]; omega)) (by have h_ := h2; simp only [Bool.and_eq_true, decide_eq_true_eq] at h_; omega) (by have h_ := h2; simp only [Bool.and_eq_true, decide_eq_true_eq] at h_; omega) rfl rfl rfl <| TL.as (SV.v (SV.cut s3 x6.toNat ((w64 (x6 + r_1)).toNat) s3.c Ei.sz)) <| TL.done <| TC.seq <| TC.region <| TL.mv (.int .i64 x6) ?_
    refine TL.mv (.int .i64 r_1) <| TL.bn .i64 x6 r_1 (.int .i64 (w64 (x6 + r_1))) <| TL.as (.int .i64 (w64 (x6 + r_1))) <| TL.done <| TC.seq <| TC.seq ?_
    refine TC.region <| TL.mv (strv x4) <| TL.mv (.int .i64 x7) <| TL.ixstr x7 h1 Tryz.underlying9 rfl rfl rfl rfl <| TL.bn .u8 ((gt x4 x7).toNat : Int) ((120 : UInt8).toNat : Int) (.bool (((gt x4 x7).toNat : Int) == ((120 : UInt8).toNat : Int))) <| TL.done ?_
    refine TC.cond (b := (((gt x4 x7).toNat : Int) == ((120 : UInt8).toNat : Int))) rfl (fun c3 => ?_) (fun c4 => ?_)
    ·refine TC.seq ?_
     refine TC.wk (Γ' := [(0, bp b_1 0), (1, strv x4), (5, .int .i64 (w64 (x6 + r_1))), (16, .int .i64 (x4.length : Int)), (17, .int .i64 x7), (18, .bool (decide (x7 < (x4.length : Int)))), (19, .int .i64 x7), (6, .int .i64 x7), (21, strv x4), (22, .int .i64 x7), (23, u8v (gt x4 x7)), (24, .tuple #[.int .i64 r_1, .int .i64 r_2, .bool r_3]), (20, .tuple #[.int .i64 r_1, .int .i64 r_2, .bool r_3]), (25, .int .i64 r_1), (26, .int .i64 r_2), (27, .bool r_3), (7, .int .i64 r_1), (8, .int .i64 r_2), (9, .bool r_3), (28, bp b_1 0), (29, bp b_1 0), (30, bp b_1 2), (31, SV.v s3), (32, .int .i64 x6), (33, .int .i64 x6), (34, .int .i64 r_1), (35, .int .i64 (w64 (x6 + r_1))), (36, SV.v (SV.cut s3 x6.toNat ((w64 (x6 + r_1)).toNat) s3.c Ei.sz)), (10, SV.v (SV.cut s3 x6.toNat ((w64 (x6 + r_1)).toNat) s3.c Ei.sz)), (37, .int .i64 x6), (38, .int .i64 r_1), (39, .int .i64 (w64 (x6 + r_1))), (40, strv x4), (41, .int .i64 x7), (42, u8v (gt x4 x7)), (43, .bool (((gt x4 x7).toNat : Int) == ((120 : UInt8).toNat : Int))), (4, SV.v s6)]) ⟨rfl, rfl, rfl, rfl, rfl, rfl, rfl, rfl, rfl, rfl, rfl, rfl, rfl, rfl, rfl, rfl, rfl, rfl, rfl, rfl, rfl, rfl, rfl, rfl, rfl, rfl, rfl, rfl, rfl, rfl, rfl, rfl, rfl, rfl, rfl, rfl, rfl, trivial⟩ ?_
     refine TC.chk fun h3 => ?_
     refine TC.chk fun h4 => ?_
     refine TC.small fun h5 => ?_
     refine TC.drawG [(0, bp b_1 0), (1, strv x4), (5, .int .i64 (w64 (x6 + r_1))), (16, .int .i64 (x4.length : Int)), (17, .int .i64 x7), (18, .bool (decide (x7 < (x4.length : Int)))), (19, .int .i64 x7), (6, .int .i64 x7), (21, strv x4), (22, .int .i64 x7), (23, u8v (gt x4 x7)), (24, .tuple #[.int .i64 r_1, .int .i64 r_2, .bool r_3]), (20, .tuple #[.int .i64 r_1, .int .i64 r_2, .bool r_3]), (25, .int .i64 r_1), (26, .int .i64 r_2), (27, .bool r_3), (7, .int .i64 r_1), (8, .int .i64 r_2), (9, .bool r_3), (28, bp b_1 0), (29, bp b_1 0), (30, bp b_1 2), (31, SV.v s3), (32, .int .i64 x6), (33, .int .i64 x6), (34, .int .i64 r_1), (35, .int .i64 (w64 (x6 + r_1))), (36, SV.v (SV.cut s3 x6.toNat ((w64 (x6 + r_1)).toNat) s3.c Ei.sz)), (10, SV.v (SV.cut s3 x6.toNat ((w64 (x6 + r_1)).toNat) s3.c Ei.sz)), (37, .int .i64 x6), (38, .int .i64 r_1), (39, .int .i64 (w64 (x6 + r_1))), (40, strv x4), (41, .int .i64 x7), (42, u8v (gt x4 x7)), (43, .bool (((gt x4 x7).toNat : Int) == ((120 : UInt8).toNat : Int)))] [(4, SV.v s6, 9)] ⟨rfl, rfl, rfl, rfl, rfl, rfl, rfl, rfl, rfl, rfl, rfl, rfl, rfl, rfl, rfl, rfl, rfl, rfl, rfl, rfl, rfl, rfl, rfl, rfl, rfl, rfl, rfl, rfl, rfl, rfl, rfl, rfl, rfl, rfl, rfl, rfl, trivial⟩ ⟨rfl, trivial⟩ (fun l_ g1 => [box b_1 77 [.one (SV.v s5), .one (.map (some s2)), .one (SV.v s3)], row Ei 3 s5 y1, mpI s2 l1, row Ei 3 s3 x3, (bif nb l_ 8 then row Ei 3 (gs (g1 64)) (x5 ++ ([(gt ((x3.drop x6.toNat).take (((w64 (x6 + r_1)).toNat) - x6.toNat)) 1), (gt ((x3.drop x6.toNat).take (((w64 (x6 + r_1)).toNat) - x6.toNat)) 0)] : List Int)) else row Ei 3 s6 x5), (bif nb l_ 7 then row Ei 3 (gs (g1 56)) ([(gt ((x3.drop x6.toNat).take (((w64 (x6 + r_1)).toNat) - x6.toNat)) 1), (gt ((x3.drop x6.toNat).take (((w64 (x6 + r_1)).toNat) - x6.toNat)) 0)] : List Int) else emp)]) (fun g1 => [SV.v s6, SV.v (SV.cut s3 x6.toNat ((w64 (x6 + r_1)).toNat) s3.c Ei.sz), ep (SV.cut s3 x6.toNat ((w64 (x6 + r_1)).toNat) s3.c Ei.sz) 1, .int .i64 (gt ((x3.drop x6.toNat).take (((w64 (x6 + r_1)).toNat) - x6.toNat)) 1), SV.v (SV.cut s3 x6.toNat ((w64 (x6 + r_1)).toNat) s3.c Ei.sz), ep (SV.cut s3 x6.toNat ((w64 (x6 + r_1)).toNat) s3.c Ei.sz) 0, .int .i64 (gt ((x3.drop x6.toNat).take (((w64 (x6 + r_1)).toNat) - x6.toNat)) 0), SV.v (gs (g1 56)), SV.v (gs (g1 64)), SV.v (gs (g1 64))]) [[], [], [1], [1, 2], [], [4], [4, 5], [1, 2, 3, 4, 5, 6], [0, 1, 2, 3, 4, 5, 6, 7], [0, 1, 2, 3, 4, 5, 6, 7, 8]] [[oF, none, none, none, none, none, none, none, oF, oF], [none, oF, oF, oF, none, none, none, oF, oF, oF], [none, oT, oF, oF, none, none, none, oF, oF, oF], [none, oT, oT, oF, none, none, none, oF, oF, oF], [none, none, none, none, oF, oF, oF, oF, oF, oF], [none, none, none, none, oT, oF, oF, oF, oF, oF], [none, none, none, none, oT, oT, oF, oF, oF, oF], [none, oT, oT, oT, oT, oT, oT, oF, oF, oF], [oT, oT, oT, oT, oT, oT, oT, oT, oF, oF], [oT, oT, oT, oT, oT, oT, oT, oT, oT, oF]] (by kernel_rfl) (fun _ => rfl) rfl rfl rfl rfl rfl (fun _ _ => ⟨⟨⟨⟨⟨⟨⟨⟨⟨⟨trivial, rfl⟩, rfl⟩, rfl⟩, rfl⟩, rfl⟩, rfl⟩, rfl⟩, rfl⟩, rfl⟩, rfl⟩) 1 [1, 1, 1, 1, 1, 0] (fun _ => by kernel_rfl) ?_ ?_
     ·refine ⟨rfl, ?_, rfl, ?_, rfl, ?_, rfl, ?_, rfl, ?_, rfl, ?_, rfl, ?_, rfl, ?_, rfl, ?_, rfl, ?_, trivial⟩
      ·intro b1_ b2_ b3_ b4_ b5_ b6_ b7_ g1
       exact TL.mv (SV.v s6) <| TL.done <| TC.n1 [0, 0, 0, 0, 0, 0]
      ·intro b0_ b4_ b5_ b6_ g1
       exact TL.mv (SV.v (SV.cut s3 x6.toNat ((w64 (x6 + r_1)).toNat) s3.c Ei.sz)) <| TL.done <| TC.n1 [0, 0, 0, 0, 0, 0]
      ·intro b0_ b4_ b5_ b6_ g1
       exact TL.ll [box b_1 77 [.one (SV.v s5), .one (.map (some s2)), .one (SV.v s3)], row Ei 3 s5 y1, mpI s2 l1, row Ei 3 s3 x3, row Ei 3 s6 x5, emp] <| TL.ixs 1 1 (Rd.cut (Rd.row 3 rfl) (by have h_ := h2; simp only [Bool.and_eq_true, decide_eq_true_eq] at h_; omega) (by have h_ := h2; simp only [Bool.and_eq_true, decide_eq_true_eq] at h_; omega)) h3 Tryz.underlying74 Tryz.sizeOf3 rfl rfl rfl rfl rfl <| TL.done <| TC.n1 [0, 0, 0, 0, 0, 0]
      ·intro b0_ b4_ b5_ b6_ g1
       exact TL.ll [box b_1 77 [.one (SV.v s5), .one (.map (some s2)), .one (SV.v s3)], row Ei 3 s5 y1, mpI s2 l1, row Ei 3 s3 x3, row Ei 3 s6 x5, emp] <| TL.loadE (Rd.cut (Rd.row 3 rfl) (by have h_ := h2; simp only [Bool.and_eq_true, decide_eq_true_eq] at h_; omega) (by have h_ := h2; simp only [Bool.and_eq_true, decide_eq_true_eq] at h_; omega)) Tryz.isAgg3 1 0 (gt_spec h3) (v := .int .i64 (gt ((x3.drop x6.toNat).take (((w64 (x6 + r_1)).toNat) - x6.toNat)) 1)) rfl rfl rfl rfl rfl <| TL.done <| TC.n1 [0, 0, 0, 0, 0, 0]
      ·intro b0_ b1_ b2_ b3_ g1
       exact TL.mv (SV.v (SV.cut s3 x6.toNat ((w64 (x6 + r_1)).toNat) s3.c Ei.sz)) <| TL.done <| TC.n1 [0, 0, 0, 0, 0, 0]
      ·intro b0_ b1_ b2_ b3_ g1
       exact TL.ll [box b_1 77 [.one (SV.v s5), .one (.map (some s2)), .one (SV.v s3)], row Ei 3 s5 y1, mpI s2 l1, row Ei 3 s3 x3, row Ei 3 s6 x5, emp] <| TL.ixs 0 0 (Rd.cut (Rd.row 3 rfl) (by have h_ := h2; simp only [Bool.and_eq_true, decide_eq_true_eq] at h_; omega) (by have h_ := h2; simp only [Bool.and_eq_true, decide_eq_true_eq] at h_; omega)) h4 Tryz.underlying74 Tryz.sizeOf3 rfl rfl rfl rfl rfl <| TL.done <| TC.n1 [0, 0, 0, 0, 0, 0]
      ·intro b0_ b1_ b2_ b3_ g1
       exact TL.ll [box b_1 77 [.one (SV.v s5), .one (.map (some s2)), .one (SV.v s3)], row Ei 3 s5 y1, mpI s2 l1, row Ei 3 s3 x3, row Ei 3 s6 x5, emp] <| TL.loadE (Rd.cut (Rd.row 3 rfl) (by have h_ := h2; simp only [Bool.and_eq_true, decide_eq_true_eq] at h_; omega) (by have h_ := h2; simp only [Bool.and_eq_true, decide_eq_true_eq] at h_; omega)) Tryz.isAgg3 0 0 (gt_spec h4) (v := .int .i64 (gt ((x3.drop x6.toNat).take (((w64 (x6 + r_1)).toNat) - x6.toNat)) 0)) rfl rfl rfl rfl rfl <| TL.done <| TC.n1 [0, 0, 0, 0, 0, 0]
      ·intro b0_ g1
       refine TL.ll [box b_1 77 [.one (SV.v s5), .one (.map (some s2)), .one (SV.v s3)], row Ei 3 s5 y1, mpI s2 l1, row Ei 3 s3 x3, row Ei 3 s6 x5, emp] ?_
       refine TL.blit Ei ([(gt ((x3.drop x6.toNat).take (((w64 (x6 + r_1)).toNat) - x6.toNat)) 1), (gt ((x3.drop x6.toNat).take (((w64 (x6 + r_1)).toNat) - x6.toNat)) 0)] : List Int) Tryz.underlying74 Tryz.sizeOf3 Tryz.zeroValue3 rfl rfl rfl [(0, .int .i64 (gt ((x3.drop x6.toNat).take (((w64 (x6 + r_1)).toNat) - x6.toNat)) 1)), (1, .int .i64 (gt ((x3.drop x6.toNat).take (((w64 (x6 + r_1)).toNat) - x6.toNat)) 0))] rfl ⟨rfl, rfl, rfl, rfl, trivial⟩ rfl rfl fun s12 => ?_
       exact TL.done <| TC.nrm () [[s12]] ⟨rfl, trivial⟩ [1, 1, 1, 1, 1, 0] (by kernel_rfl)
      ·intro g1
       refine TL.ll [box b_1 77 [.one (SV.v s5), .one (.map (some s2)), .one (SV.v s3)], row Ei 3 s5 y1, mpI s2 l1, row Ei 3 s3 x3, row Ei 3 s6 x5, row Ei 3 (gs (g1 56)) ([(gt ((x3.drop x6.toNat).take (((w64 (x6 + r_1)).toNat) - x6.toNat)) 1), (gt ((x3.drop x6.toNat).take (((w64 (x6 + r_1)).toNat) - x6.toNat)) 0)] : List Int)] ?_
       refine TL.append 4 rfl (Rd.row 5 rfl) Tryz.underlying74 (info_of Tryz.type3) (zv := (Tryz.t3.zero.getD (.bool false))) rfl rfl rfl (by decide) h5 rfl rfl rfl rfl fun s13 => ?_
       exact TL.done <| TC.nrm () [[s13]] ⟨rfl, trivial⟩ [0, 0, 0, 0, 0, 0] (by kernel_rfl)
      intro g1
      exact TL.as (SV.v (gs (g1 64))) <| TL.done <| TC.n1 [0, 0, 0, 0, 0, 0]
     intro g1
     refine TC.ll [box b_1 77 [.one (SV.v s5), .one (.map (some s2)), .one (SV.v s3)], row Ei 3 s5 y1, mpI s2 l1, row Ei 3 s3 x3, row Ei 3 (gs (g1 64)) (x5 ++ ([(gt ((x3.drop x6.toNat).take (((w64 (x6 + r_1)).toNat) - x6.toNat)) 1), (gt ((x3.drop x6.toNat).take (((w64 (x6 + r_1)).toNat) - x6.toNat)) 0)] : List Int)), row Ei 3 (gs (g1 56)) ([(gt ((x3.drop x6.toNat).take (((w64 (x6 + r_1)).toNat) - x6.toNat)) 1), (gt ((x3.drop x6.toNat).take (((w64 (x6 + r_1)).toNat) - x6.toNat)) 0)] : List Int)] ?_
     exact TC.exB ((y1, l1, (x5 ++ ([(gt ((x3.drop x6.toNat).take (((w64 (x6 + r_1)).toNat) - x6.toNat)) 1), (gt ((x3.drop x6.toNat).take (((w64 (x6 + r_1)).toNat) - x6.toNat)) 0)] : List Int)), (w64 (x6 + r_1)))) ((s5, (gs (g1 64)))) ⟨rfl, rfl, rfl, rfl, rfl, rfl, trivial⟩ [0, 0, 0, 0, 0] rfl
    refine TC.skip <| TC.seq <| TC.region <| TL.mv (bp b_1 0) ?_
    refine TL.nilCheck rfl rfl rfl ?_
    refine TL.fa Tryz.underlying77 rfl Tryz.sizeOf75 rfl 0 rfl rfl rfl rfl ?_
    refine TL.callX (R := G.impl_pool_add.R b_1 (.map (some s2)) (SV.v s3)) [0, 0, 0, 0, 0] [box b_1 77 [.one (SV.v s5), .one (.map (some s2)), .one (SV.v s3)], row Ei 3 s5 y1] [mpI s2 l1, row Ei 3 s3 x3, row Ei 3 s6 x5] rfl Tryz.call55 rfl rfl rfl (fun w I_ hle hB hS => G.impl_pool_add.calls _ I_ w b_1 (.map (some s2)) (SV.v s3) s5 y1 hS) ?_
    rintro ⟨r_4, p1⟩ _ _ ⟨s14, rfl, rfl⟩
    refine TL.as (.int .i64 r_4) <| TL.done <| TC.seq ?_
    refine TC.wk (Γ' := [(0, bp b_1 0), (1, strv x4), (4, SV.v s6), (5, .int .i64 (w64 (x6 + r_1))), (16, .int .i64 (x4.length : Int)), (17, .int .i64 x7), (18, .bool (decide (x7 < (x4.length : Int)))), (19, .int .i64 x7), (6, .int .i64 x7), (21, strv x4), (22, .int .i64 x7), (23, u8v (gt x4 x7)), (24, .tuple #[.int .i64 r_1, .int .i64 r_2, .bool r_3]), (20, .tuple #[.int .i64 r_1, .int .i64 r_2, .bool r_3]), (25, .int .i64 r_1), (26, .int .i64 r_2), (27, .bool r_3), (7, .int .i64 r_1), (8, .int .i64 r_2), (9, .bool r_3), (28, bp b_1 0), (29, bp b_1 0), (30, bp b_1 2), (31, SV.v s3), (32, .int .i64 x6), (33, .int .i64 x6), (34, .int .i64 r_1), (35, .int .i64 (w64 (x6 + r_1))), (36, SV.v (SV.cut s3 x6.toNat ((w64 (x6 + r_1)).toNat) s3.c Ei.sz)), (10, SV.v (SV.cut s3 x6.toNat ((w64 (x6 + r_1)).toNat) s3.c Ei.sz)), (37, .int .i64 x6), (38, .int .i64 r_1), (39, .int .i64 (w64 (x6 + r_1))), (40, strv x4), (41, .int .i64 x7), (42, u8v (gt x4 x7)), (43, .bool (((gt x4 x7).toNat : Int) == ((120 : UInt8).toNat : Int))), (53, bp b_1 0), (54, bp b_1 0), (55, bp b_1 0), (56, .int .i64 r_4), (11, .int .i64 r_4)]) ⟨rfl, rfl, rfl, rfl, rfl, rfl, rfl, rfl, rfl, rfl, rfl, rfl, rfl, rfl, rfl, rfl, rfl, rfl, rfl, rfl, rfl, rfl, rfl, rfl, rfl, rfl, rfl, rfl, rfl, rfl, rfl, rfl, rfl, rfl, rfl, rfl, rfl, rfl, rfl, rfl, rfl, rfl, trivial⟩ ?_
    refine TC.bindE fun r_5 hr1 => ?_
    refine TC.draw [bp b_1 0, bp b_1 0, bp b_1 1, .map (some s2), .int .i64 r_4, strv x4, .int .i64 x7, u8v (gt x4 x7), .int .i64 r_5, undef] 9 [box b_1 77 [.one (SV.v s14), .one (.map (some s2)), .one (SV.v s3)], row Ei 3 s14 p1, mpI s2 (mput l1 r_4 r_5), row Ei 3 s3 x3, row Ei 3 s6 x5] (by kernel_rfl) rfl rfl rfl rfl ?_ ?_
    ·refine ⟨?_, ?_, ?_, ?_, ?_, ?_, ?_, ?_, ?_, ?_, trivial⟩
     ·exact TL.mv (bp b_1 0) <| TL.done <| TC.n0 [0, 0, 0, 0, 0]
     ·refine TL.nilCheck rfl rfl rfl ?_
      exact TL.done <| TC.n0 [0, 0, 0, 0, 0]
     ·exact TL.fa Tryz.underlying77 rfl Tryz.sizeOf73 rfl 1 rfl rfl rfl rfl <| TL.done <| TC.n0 [0, 0, 0, 0, 0]
     ·exact TL.load1 1 (Src.box 0 rfl) Tryz.isAgg73 rfl rfl rfl rfl rfl <| TL.done <| TC.n0 [0, 0, 0, 0, 0]
     ·exact TL.mv (.int .i64 r_4) <| TL.done <| TC.n0 [0, 0, 0, 0, 0]
     ·exact TL.mv (strv x4) <| TL.done <| TC.n0 [0, 0, 0, 0, 0]
     ·exact TL.mv (.int .i64 x7) <| TL.done <| TC.n0 [0, 0, 0, 0, 0]
     ·exact TL.ixstr x7 h1 Tryz.underlying9 rfl rfl rfl rfl <| TL.done <| TC.n0 [0, 0, 0, 0, 0]
     ·refine TL.callH (R := G.impl_euler.R) hr1 Tryz.call36 rfl rfl rfl (fun w hS => G.impl_euler.calls w (gt x4 x7)) ?_
      rintro _ _ ⟨rfl, rfl⟩
      exact TL.done <| TC.n0 [0, 0, 0, 0, 0]
     refine TL.mputI 2 rfl Tryz.underlying73 Tryz.underlying3 rfl rfl rfl rfl ?_
     exact TL.done <| TC.nrm () () trivial [0, 0, 0, 0, 0] (by kernel_rfl)
    refine TC.seq <| TC.seq <| TC.region <| TL.mv (SV.v (SV.cut s3 x6.toNat ((w64 (x6 + r_1)).toNat) s3.c Ei.sz)) <| TL.len (Rd.cut (Rd.row 3 rfl) (by have h_ := h2; simp only [Bool.and_eq_true, decide_eq_true_eq] at h_; omega) (by have h_ := h2; simp only [Bool.and_eq_true, decide_eq_true_eq] at h_; omega)) Tryz.underlying74 rfl rfl rfl <| TL.mv (.int .i64 0) ?_
    refine TL.done ?_
    refine TC.loop1 (σ := (List Int) × Int) (γ := Unit) (Γ' := (fun p q => match p, q with | (l3, x14), _ => [(0, bp b_1 0), (1, strv x4), (4, SV.v s6), (5, .int .i64 (w64 (x6 + r_1))), (8, .int .i64 r_2), (11, .int .i64 r_4), (16, .int .i64 (x4.length : Int)), (17, .int .i64 x7), (66, SV.v (SV.cut s3 x6.toNat ((w64 (x6 + r_1)).toNat) s3.c Ei.sz)), (67, .int .i64 (((x3.drop x6.toNat).take (((w64 (x6 + r_1)).toNat) - x6.toNat)).length : Int)), (68, .int .i64 x14)])) (L' := (fun p q => match p, q with | (l3, x14), _ => [box b_1 77 [.one (SV.v s14), .one (.map (some s2)), .one (SV.v s3)], row Ei 3 s14 l3, mpI s2 (mput l1 r_4 r_5), row Ei 3 s3 x3, row Ei 3 s6 x5])) (Γb := (fun p q => match p, q with | (l3, x14), _ => [(0, bp b_1 0), (1, strv x4), (4, SV.v s6), (5, .int .i64 (w64 (x6 + r_1))), (8, .int .i64 r_2), (11, .int .i64 r_4), (16, .int .i64 (x4.length : Int)), (17, .int .i64 x7), (66, SV.v (SV.cut s3 x6.toNat ((w64 (x6 + r_1)).toNat) s3.c Ei.sz)), (67, .int .i64 (((x3.drop x6.toNat).take (((w64 (x6 + r_1)).toNat) - x6.toNat)).length : Int)), (68, .int .i64 x14)])) (Lb := (fun p q => match p, q with | (l3, x14), _ => [box b_1 77 [.one (SV.v s14), .one (.map (some s2)), .one (SV.v s3)], row Ei 3 s14 l3, mpI s2 (mput l1 r_4 r_5), row Ei 3 s3 x3, row Ei 3 s6 x5])) ((p1, 0)) (()) ⟨rfl, rfl, rfl, rfl, rfl, rfl, rfl, rfl, rfl, rfl, rfl, trivial⟩ [0, 0, 0, 0, 0] rfl ?_ ?_
    ·rintro ⟨l3, x14⟩ _
     refine TC.seq <| TC.region <| TL.bn .i64 x14 (((x3.drop x6.toNat).take (((w64 (x6 + r_1)).toNat) - x6.toNat)).length : Int) (.bool (decide (x14 < (((x3.drop x6.toNat).take (((w64 (x6 + r_1)).toNat) - x6.toNat)).length : Int)))) <| TL.done <| TC.seq ?_
     refine TC.cond (b := (decide (x14 < (((x3.drop x6.toNat).take (((w64 (x6 + r_1)).toNat) - x6.toNat)).length : Int)))) rfl (fun c5 => ?_) (fun c6 => ?_)
     ·refine TC.skip <| TC.seq <| TC.block (NoEx.loop1 rfl) <| TC.seq <| TC.region ?_
      refine TL.chk fun h6 => ?_
      refine TL.ixs x14 x14.toNat (Rd.cut (Rd.row 3 rfl) (by have h_ := h2; simp only [Bool.and_eq_true, decide_eq_true_eq] at h_; omega) (by have h_ := h2; simp only [Bool.and_eq_true, decide_eq_true_eq] at h_; omega)) h6 Tryz.underlying74 Tryz.sizeOf3 rfl rfl rfl rfl (by omega) ?_
      refine TL.loadE (Rd.cut (Rd.row 3 rfl) (by have h_ := h2; simp only [Bool.and_eq_true, decide_eq_true_eq] at h_; omega) (by have h_ := h2; simp only [Bool.and_eq_true, decide_eq_true_eq] at h_; omega)) Tryz.isAgg3 x14.toNat 0 (gt_spec h6) (v := .int .i64 (gt ((x3.drop x6.toNat).take (((w64 (x6 + r_1)).toNat) - x6.toNat)) x14)) rfl (by simp only [show Ei.sz = 1 from rfl] <;> omega) rfl rfl rfl ?_
      refine TL.as (.int .i64 (gt ((x3.drop x6.toNat).take (((w64 (x6 + r_1)).toNat) - x6.toNat)) x14)) <| TL.done <| TC.region <| TL.mv (bp b_1 0) ?_
      refine TL.nilCheck rfl rfl rfl ?_
      refine TL.fa Tryz.underlying77 rfl Tryz.sizeOf75 rfl 0 rfl rfl rfl rfl <| TL.load1 0 (Src.box 0 rfl) Tryz.isAgg75 rfl rfl rfl rfl rfl <| TL.mv (.int .i64 r_4) <| TL.mv (.int .i64 (gt ((x3.drop x6.toNat).take (((w64 (x6 + r_1)).toNat) - x6.toNat)) x14)) ?_
      refine TL.callX (R := G.impl_pool_join.R s14) [1, 0, 0, 0, 0] [row Ei 3 s14 l3] [box b_1 77 [.one (SV.v s14), .one (.map (some s2)), .one (SV.v s3)], mpI s2 (mput l1 r_4 r_5), row Ei 3 s3 x3, row Ei 3 s6 x5] rfl Tryz.call76 rfl rfl rfl (fun w I_ hle hB hS => G.impl_pool_join.calls _ I_ w s14 l3 r_4 (gt ((x3.drop x6.toNat).take (((w64 (x6 + r_1)).toNat) - x6.toNat)) x14) hS) ?_
      rintro l4 _ _ ⟨rfl, rfl⟩
      refine TL.done <| TC.region <| TL.bn .i64 x14 1 (.int .i64 (w64 (x14 + 1))) <| TL.mv (.int .i64 (w64 (x14 + 1))) <| TL.done ?_
      exact TC.next1 ((l4, (w64 (x14 + 1)))) (()) ⟨rfl, rfl, rfl, rfl, rfl, rfl, rfl, rfl, rfl, rfl, rfl, trivial⟩ [1, 0, 0, 0, 0] rfl
     exact TC.brk1 ((l3, x14)) (()) ⟨rfl, rfl, rfl, rfl, rfl, rfl, rfl, rfl, rfl, rfl, rfl, trivial⟩ [0, 0, 0, 0, 0] rfl
    rintro ⟨l3, x14⟩ _
    refine TC.region <| TL.mv (SV.v s6) <| TL.mv (.int .i64 r_4) ?_
    refine TL.blit Ei ([r_4] : List Int) Tryz.underlying74 Tryz.sizeOf3 Tryz.zeroValue3 rfl rfl rfl [(0, .int .i64 r_4)] rfl ⟨rfl, rfl, trivial⟩ rfl rfl fun s15 => ?_
    refine TL.mv (.int .i64 r_2) ?_
    refine TL.call (R := G.slices_Repeat_int.R) Tryz.call77 rfl rfl rfl (fun w hS => G.slices_Repeat_int.calls w s15 ([r_4] : List Int) r_2 ((Rd.row 0 rfl) w hS)) ?_
    rintro r_6 _ _ ⟨s16, rfl, rfl⟩
    refine TL.small fun h7 => ?_
    refine TL.append 6 rfl (Rd.row 0 rfl) Tryz.underlying74 (info_of Tryz.type3) (zv := (Tryz.t3.zero.getD (.bool false))) rfl rfl rfl (by decide) h7 rfl rfl rfl rfl fun s17 => ?_
    refine TL.as (SV.v s17) <| TL.done ?_
    exact TC.inlB ((l3, (mput l1 r_4 r_5), (x5 ++ r_6), (w64 (x6 + r_1)))) ((s14, s17)) ⟨rfl, rfl, rfl, rfl, rfl, rfl, trivial⟩ [2, 2, 2, 2, 2] rfl
   rintro ⟨y3, l2, x12, x13⟩ ⟨s10, s11⟩
   refine TC.region <| TL.bn .i64 x7 1 (.int .i64 (w64 (x7 + 1))) <| TL.mv (.int .i64 (w64 (x7 + 1))) <| TL.done ?_
   exact TC.next1 ((y3, l2, x12, x13, (w64 (x7 + 1)))) ((s10, s11)) ⟨rfl, rfl, rfl, rfl, rfl, rfl, trivial⟩ [0, 0, 0, 0, 0] rfl
  exact TC.brk1 ((y1, l1, x5, x6, x7)) ((s5, s6)) ⟨rfl, rfl, rfl, rfl, rfl, rfl, trivial⟩ [0, 0, 0, 0, 0] rfl
 rintro ⟨y1, l1, x5, x6, x7⟩ ⟨s5, s6⟩
 refine TC.region <| TL.mv (bp b_1 0) <| TL.mv (SV.v s6) ?_
 refine TL.nilCheck rfl rfl rfl ?_
 refine TL.fa Tryz.underlying77 rfl Tryz.sizeOf74 rfl 2 rfl rfl rfl rfl ?_
 refine TL.st1 0 2 rfl Tryz.sizeOf74 rfl rfl rfl rfl rfl rfl rfl ?_
 refine TL.done ?_
 exact TC.nilF (Fin.body (fin0 (.inl rfl) rfl [0, 0, 0, 1] rfl ⟨s5, s2, s6, rfl, rfl⟩))
end Go.Proofs.YtpejnjpckacciaaGreatDoor.G
