/- Functions of the program, as pure functions. -/
import Derived.Test.YtpejnjpckacciaaGreatDoorMFnCobordisms8
import Derived.Test.YtpejnjpckacciaaGreatDoorProg
import Derived.WalkKit
import Derived.Tactics
import Derived.Tactics2
import Derived.Defers
import Derived.Laws.Pointers
import Derived.Laws.LoneSync
import Derived.RegionTactic
import Derived.RegionCalls
import Derived.Laws.IdiomStrings
set_option linter.unusedVariables false
set_option maxRecDepth 100000
set_option maxHeartbeats 8000000
namespace Go.Proofs.YtpejnjpckacciaaGreatDoor.G
open Go Go.Sx Go.Proofs
def slices_Reverse_string_string.b0 : (List Str) × Int × Int → Option (LB ((List Str) × Int × Int)) := fun p => match p with | (s3, i1, j1) => (bif (decide (i1 < j1)) then chk j1 s3.length (chk i1 s3.length (chk j1 ((s3.set i1.toNat (gt s3 j1)).length) (some (.next (((s3.set i1.toNat (gt s3 j1)).set j1.toNat (gt s3 i1)), (w64 (i1 + 1)), (w64 (j1 - 1))))))) else some (.brk (s3, i1, j1)))
def slices_Reverse_string_string.f (s1 : List Str) : Option (List Str) := (loop1 (slices_Reverse_string_string.b0) (s1, 0, (w64 ((s1.length : Int) - 1)))).bind (fun p => match p with | (s3, i1, j1) => some s3)
def slices_Reverse_string_string.R (s2 : SV) (r : List Str) (v : Value) (L : List Asn) : Prop := v = .tuple #[] ∧ L = [row Es 9 s2 r]
theorem slices_Reverse_string_string.calls (w0 : World) (I : Hp) (w : World) (s2 : SV) (s1 : List Str) (hS : St w0 I [row Es 9 s2 s1] w) :
  ∀ r, slices_Reverse_string_string.f s1 = some r → Calls Tryz.prog 38 #[SV.v s2] w (RetM w0 I ((slices_Reverse_string_string.R s2) r)) := by
 refine calls_TM (w0 := w0) (I := I) (L := [row Es 9 s2 s1]) (n := 28) (Γ := [(0, SV.v s2)]) (R := (slices_Reverse_string_string.R s2)) Tryz.func38 rfl rfl (Nat.le_of_ble_eq_true rfl) ⟨rfl, trivial⟩ ?_ w hS
 unfold slices_Reverse_string_string.f
 refine TC.seq <| TC.region <| TL.mv (SV.v s2) <| TL.len (Rd.row 0 rfl) Tryz.underlying49 rfl rfl rfl <| TL.bn .i64 (s1.length : Int) 1 (.int .i64 (w64 ((s1.length : Int) - 1))) <| TL.as (.int .i64 0) ?_
 refine TL.as (.int .i64 (w64 ((s1.length : Int) - 1))) <| TL.done ?_
 refine TC.loop1 (σ := (List Str) × Int × Int) (γ := Unit) (Γ' := (fun p q => match p, q with | (s3, i1, j1), _ => [(0, SV.v s2), (2, .int .i64 i1), (3, .int .i64 j1)])) (L' := (fun p q => match p, q with | (s3, i1, j1), _ => [row Es 9 s2 s3])) (Γb := (fun p q => match p, q with | (s3, i1, j1), _ => [(0, SV.v s2), (2, .int .i64 i1), (3, .int .i64 j1)])) (Lb := (fun p q => match p, q with | (s3, i1, j1), _ => [row Es 9 s2 s3])) ((s1, 0, (w64 ((s1.length : Int) - 1)))) (()) ⟨rfl, rfl, rfl, trivial⟩ [0] rfl ?_ ?_
 ·rintro ⟨s3, i1, j1⟩ _
  refine TC.seq <| TC.seq <| TC.region <| TL.mv (.int .i64 i1) <| TL.mv (.int .i64 j1) <| TL.bn .i64 i1 j1 (.bool (decide (i1 < j1))) ?_
  refine TL.done ?_
  refine TC.cond (b := (decide (i1 < j1))) rfl (fun c1 => ?_) (fun c2 => ?_)
  ·refine TC.skip <| TC.seq <| TC.block (NoEx.loop1 rfl) ?_
   refine TC.wk (Γ' := [(0, SV.v s2), (2, .int .i64 i1), (3, .int .i64 j1), (7, .int .i64 i1), (8, .int .i64 j1), (9, .bool (decide (i1 < j1)))]) ⟨rfl, rfl, rfl, rfl, rfl, rfl, trivial⟩ ?_
   refine TC.chk fun h1 => ?_
   refine TC.chk fun h2 => ?_
   refine TC.chk fun h3 => ?_
   refine TC.drawG [(0, SV.v s2), (2, .int .i64 i1), (3, .int .i64 j1), (7, .int .i64 i1), (8, .int .i64 j1), (9, .bool (decide (i1 < j1)))] [] ⟨rfl, rfl, rfl, rfl, rfl, rfl, trivial⟩ trivial (fun l_ g1 => [(bif nb l_ 15 then row Es 9 s2 ((s3.set i1.toNat (gt s3 j1)).set j1.toNat (gt s3 i1)) else (bif nb l_ 13 then row Es 9 s2 (s3.set i1.toNat (gt s3 j1)) else row Es 9 s2 s3))]) (fun g1 => [SV.v s2, .int .i64 i1, SV.v s2, .int .i64 j1, SV.v s2, .int .i64 j1, ep s2 j1.toNat, strv (gt s3 j1), SV.v s2, .int .i64 i1, ep s2 i1.toNat, strv (gt s3 i1), ep s2 i1.toNat, undef, ep s2 j1.toNat, undef]) [[], [], [], [], [], [], [4, 5], [4, 5, 6], [], [], [8, 9], [8, 9, 10], [0, 1, 4, 5, 6, 7, 8, 9, 10, 11], [0, 1, 4, 5, 6, 7, 8, 9, 10, 11, 12], [0, 1, 2, 3, 4, 5, 6, 7, 8, 9, 10, 11, 12, 13], [0, 1, 2, 3, 4, 5, 6, 7, 8, 9, 10, 11, 12, 13, 14]] [[oF, none, none, none, none, none, none, none, none, none, none, none, oF, oF, oF, oF], [none, oF, none, none, none, none, none, none, none, none, none, none, oF, oF, oF, oF], [none, none, oF, none, none, none, none, none, none, none, none, none, none, none, oF, oF], [none, none, none, oF, none, none, none, none, none, none, none, none, none, none, oF, oF], [none, none, none, none, oF, none, oF, oF, none, none, none, none, oF, oF, oF, oF], [none, none, none, none, none, oF, oF, oF, none, none, none, none, oF, oF, oF, oF], [none, none, none, none, oT, oT, oF, oF, none, none, none, none, oF, oF, oF, oF], [none, none, none, none, oT, oT, oT, oF, none, none, none, none, oF, oF, oF, oF], [none, none, none, none, none, none, none, none, oF, none, oF, oF, oF, oF, oF, oF], [none, none, none, none, none, none, none, none, none, oF, oF, oF, oF, oF, oF, oF], [none, none, none, none, none, none, none, none, oT, oT, oF, oF, oF, oF, oF, oF], [none, none, none, none, none, none, none, none, oT, oT, oT, oF, oF, oF, oF, oF], [oT, oT, none, none, oT, oT, oT, oT, oT, oT, oT, oT, oF, oF, oF, oF], [oT, oT, none, none, oT, oT, oT, oT, oT, oT, oT, oT, oT, oF, oF, oF], [oT, oT, oT, oT, oT, oT, oT, oT, oT, oT, oT, oT, oT, oT, oF, oF], [oT, oT, oT, oT, oT, oT, oT, oT, oT, oT, oT, oT, oT, oT, oT, oF]] (by kernel_rfl) (fun _ => rfl) rfl rfl rfl rfl rfl (fun _ _ => ⟨⟨⟨⟨⟨⟨⟨⟨⟨⟨⟨⟨⟨⟨⟨⟨trivial, rfl⟩, rfl⟩, rfl⟩, rfl⟩, rfl⟩, rfl⟩, rfl⟩, rfl⟩, rfl⟩, rfl⟩, rfl⟩, rfl⟩, rfl⟩, rfl⟩, rfl⟩, rfl⟩) 0 [0] (fun _ => by kernel_rfl) ?_ ?_
   ·refine ⟨rfl, ?_, rfl, ?_, rfl, ?_, rfl, ?_, rfl, ?_, rfl, ?_, rfl, ?_, rfl, ?_, rfl, ?_, rfl, ?_, rfl, ?_, rfl, ?_, rfl, ?_, rfl, ?_, rfl, ?_, rfl, ?_, trivial⟩
    ·intro b1_ b2_ b3_ b4_ b5_ b6_ b7_ b8_ b9_ b10_ b11_ g1
     exact TL.mv (SV.v s2) <| TL.done <| TC.n1 [0]
    ·intro b0_ b2_ b3_ b4_ b5_ b6_ b7_ b8_ b9_ b10_ b11_ g1
     exact TL.mv (.int .i64 i1) <| TL.done <| TC.n1 [0]
    ·intro b0_ b1_ b3_ b4_ b5_ b6_ b7_ b8_ b9_ b10_ b11_ b12_ b13_ g1
     exact TL.mv (SV.v s2) <| TL.done <| TC.n1 [0]
    ·intro b0_ b1_ b2_ b4_ b5_ b6_ b7_ b8_ b9_ b10_ b11_ b12_ b13_ g1
     exact TL.mv (.int .i64 j1) <| TL.done <| TC.n1 [0]
    ·intro b0_ b1_ b2_ b3_ b5_ b8_ b9_ b10_ b11_ g1
     exact TL.mv (SV.v s2) <| TL.done <| TC.n1 [0]
    ·intro b0_ b1_ b2_ b3_ b4_ b8_ b9_ b10_ b11_ g1
     exact TL.mv (.int .i64 j1) <| TL.done <| TC.n1 [0]
    ·intro b0_ b1_ b2_ b3_ b8_ b9_ b10_ b11_ g1
     exact TL.ll [row Es 9 s2 s3] <| TL.ixs j1 j1.toNat (Rd.row 0 rfl) h1 Tryz.underlying49 Tryz.sizeOf9 rfl rfl rfl rfl (by omega) <| TL.done <| TC.n1 [0]
    ·intro b0_ b1_ b2_ b3_ b8_ b9_ b10_ b11_ g1
     refine TL.ll [row Es 9 s2 s3] ?_
     refine TL.loadE (Rd.row 0 rfl) Tryz.isAgg9 j1.toNat 0 (gt_spec h1) (v := strv (gt s3 j1)) rfl (by simp only [show Es.sz = 1 from rfl] <;> omega) rfl rfl rfl ?_
     exact TL.done <| TC.n1 [0]
    ·intro b0_ b1_ b2_ b3_ b4_ b5_ b6_ b7_ b9_ g1
     exact TL.mv (SV.v s2) <| TL.done <| TC.n1 [0]
    ·intro b0_ b1_ b2_ b3_ b4_ b5_ b6_ b7_ b8_ g1
     exact TL.mv (.int .i64 i1) <| TL.done <| TC.n1 [0]
    ·intro b0_ b1_ b2_ b3_ b4_ b5_ b6_ b7_ g1
     exact TL.ll [row Es 9 s2 s3] <| TL.ixs i1 i1.toNat (Rd.row 0 rfl) h2 Tryz.underlying49 Tryz.sizeOf9 rfl rfl rfl rfl (by omega) <| TL.done <| TC.n1 [0]
    ·intro b0_ b1_ b2_ b3_ b4_ b5_ b6_ b7_ g1
     refine TL.ll [row Es 9 s2 s3] ?_
     refine TL.loadE (Rd.row 0 rfl) Tryz.isAgg9 i1.toNat 0 (gt_spec h2) (v := strv (gt s3 i1)) rfl (by simp only [show Es.sz = 1 from rfl] <;> omega) rfl rfl rfl ?_
     exact TL.done <| TC.n1 [0]
    ·intro b2_ b3_ g1
     exact TL.ll [row Es 9 s2 s3] <| TL.ixs i1 i1.toNat (Rd.row 0 rfl) h2 Tryz.underlying49 Tryz.sizeOf9 rfl rfl rfl rfl (by omega) <| TL.done <| TC.n1 [0]
    ·intro b2_ b3_ g1
     refine TL.ll [row Es 9 s2 s3] ?_
     refine TL.stE 0 (i1.toNat) (gt s3 j1) (v := strv (gt s3 j1)) rfl Tryz.sizeOf9 rfl rfl rfl (by have h_ := h2; omega) (by simp only [show Es.sz = 1 from rfl] <;> omega) rfl rfl rfl ?_
     exact TL.done <| TC.nrm () [] trivial [0] (by kernel_rfl)
    ·intro g1
     exact TL.ll [row Es 9 s2 (s3.set i1.toNat (gt s3 j1))] <| TL.ixs j1 j1.toNat (Rd.row 0 rfl) h3 Tryz.underlying49 Tryz.sizeOf9 rfl rfl rfl rfl (by omega) <| TL.done <| TC.n1 [0]
    intro g1
    refine TL.ll [row Es 9 s2 (s3.set i1.toNat (gt s3 j1))] ?_
    refine TL.stE 0 (j1.toNat) (gt s3 i1) (v := strv (gt s3 i1)) rfl Tryz.sizeOf9 rfl rfl rfl (by have h_ := h3; omega) (by simp only [show Es.sz = 1 from rfl] <;> omega) rfl rfl rfl ?_
    exact TL.done <| TC.nrm () [] trivial [0] (by kernel_rfl)
   intro g1
   refine TC.ll [row Es 9 s2 ((s3.set i1.toNat (gt s3 j1)).set j1.toNat (gt s3 i1))] <| TC.region <| TL.mv (.int .i64 i1) <| TL.bn .i64 i1 1 (.int .i64 (w64 (i1 + 1))) <| TL.mv (.int .i64 j1) <| TL.bn .i64 j1 1 (.int .i64 (w64 (j1 - 1))) ?_
   refine TL.as (.int .i64 (w64 (i1 + 1))) <| TL.as (.int .i64 (w64 (j1 - 1))) <| TL.done ?_
   exact TC.next1 ((((s3.set i1.toNat (gt s3 j1)).set j1.toNat (gt s3 i1)), (w64 (i1 + 1)), (w64 (j1 - 1)))) (()) ⟨rfl, rfl, rfl, trivial⟩ [0] rfl
  exact TC.brk1 ((s3, i1, j1)) (()) ⟨rfl, rfl, rfl, trivial⟩ [0] rfl
 rintro ⟨s3, i1, j1⟩ _
 exact TC.nilF (Fin.body (fin0 (.inl rfl) rfl [0] rfl ⟨rfl, rfl⟩))
theorem raceDisable (w : World) : (callFunc 141 #[]).run Tryz.prog w = .ok (.value (.tuple #[])) w := run_call_mark0 Tryz.func141 (by kernel_rfl) (by kernel_rfl) (by kernel_rfl) .disable (by kernel_rfl) w
theorem raceEnable (w : World) : (callFunc 143 #[]).run Tryz.prog w = .ok (.value (.tuple #[])) w := run_call_mark0 Tryz.func143 (by kernel_rfl) (by kernel_rfl) (by kernel_rfl) .enable (by kernel_rfl) w
theorem raceAcquire (a : Addr) (w : World) : (callFunc 144 #[.pointer (some a)]).run Tryz.prog w = .ok (.value (.tuple #[])) w := run_call_marked Tryz.func144 (by kernel_rfl) (by kernel_rfl) (by kernel_rfl) .acquire (by kernel_rfl) a w
theorem raceRelease (a : Addr) (w : World) : (callFunc 146 #[.pointer (some a)]).run Tryz.prog w = .ok (.value (.tuple #[])) w := run_call_marked Tryz.func146 (by kernel_rfl) (by kernel_rfl) (by kernel_rfl) .releaseMerge (by kernel_rfl) a w
theorem store_deferred (a : Addr) (x : Value) (u : FrameMode) (w : World) (hc : w.cell? a = some x) (hz : w.frozen? a = false) :
  CallsD Tryz.prog 114 #[.pointer (some a), .bool true] u w fun e u' w' => u' = u ∧ (e = .returned (.tuple #[]) ∧ w' = w.drew.setCell a (.int .u32 1)) := by
 have hc' : w.drew.cell? a = some x := by go_simp
 have hz' : w.drew.frozen? a = false := by go_simp
 have hst := run_call_store (P := Tryz.prog) Tryz.func131 (by kernel_rfl) (by kernel_rfl) (by kernel_rfl) (by kernel_rfl) (k := .u32) (y := 1) hc' hz'
 go_enter_d Tryz.func114, Tryz.ntmps114
 go_wp2
 go_region_calls
 all_goals (go_end0; exact ⟨rfl, rfl⟩)
theorem unlock_deferred (a : Addr) (u : FrameMode) (w : World) (hc : w.cell? a = some (.int .i32 1)) (hz : w.frozen? a = false) :
  CallsD Tryz.prog 113 #[.pointer (some a)] u w fun e u' w' => u' = u ∧ (e = .returned (.tuple #[]) ∧ w' = w.setCell a (.int .i32 0)) := by
 have hd := raceDisable
 have he := raceEnable
 have hr := raceRelease
 have hadd := run_call_add (P := Tryz.prog) Tryz.func147 (by kernel_rfl) (by kernel_rfl) (by kernel_rfl) .i32 (by kernel_rfl) (y := -1) (s := 0) hc hz (by simp [go_sem]; rfl)
 have hcv := run_convert_to_unsafe (P := Tryz.prog) (src := 209) (dst := 177) Tryz.underlying209 Tryz.underlying177 (by kernel_rfl) hc
 go_enter_d Tryz.func113, Tryz.ntmps113
 go_wp2
 go_end0
 go_wp2
 go_end0
 exact ⟨rfl, rfl⟩
theorem lock_free (a : Addr) (w : World) (hc : w.cell? a = some (.int .i32 0)) (hz : w.frozen? a = false) :
  Calls Tryz.prog 112 #[.pointer (some a)] w fun e w' => e = .returned (.tuple #[]) ∧ w' = w.setCell a (.int .i32 1) := by
 have hd := raceDisable
 have he := raceEnable
 have ha := raceAcquire
 have hcas := run_call_cas_hit (P := Tryz.prog) Tryz.func142 (by kernel_rfl) (by kernel_rfl) (by kernel_rfl) .i32 (by kernel_rfl) (y := 1) hc hz
 have hc' : (w.setCell a (.int .i32 1)).cell? a = some (.int .i32 1) := World.cell?_setCell_same w a _ hc
 have hcv := run_convert_to_unsafe (P := Tryz.prog) (src := 209) (dst := 177) Tryz.underlying209 Tryz.underlying177 (by kernel_rfl) hc'
 go_enter Tryz.func112, Tryz.ntmps112
 go_wp2
 first | go_end0 | (simp only [Exit.inBlock, Exit.then]; refine bodyPost_ret (results_none rfl _ _ _) rfl ?_) | refine bodyPost_ret (results_none rfl _ _ _) rfl ?_
 go_wp2
 go_end0
 exact ⟨rfl, rfl⟩
theorem load_none (a : Addr) (w : World) (hc : w.cell? a = some (.int .u32 0)) : Calls Tryz.prog 87 #[.pointer (some a)] w fun e w' => e = .returned (.bool false) ∧ w' = w := by
 have hl := run_call_load (P := Tryz.prog) Tryz.func111 (by kernel_rfl) (by kernel_rfl) (by kernel_rfl) .u32 (by kernel_rfl) hc
 go_enter Tryz.func87, Tryz.ntmps87
 go_wp2
 go_ret
 exact ⟨rfl, rfl⟩
def segsR (d st : Int) (se rv ov : Value) : List Seg := [.one (.int .u32 d), .one (.int .i32 st), .one se, .one rv, .one ov]
theorem boxR_cell {w0 : World} {I : Hp} {LB : List Asn} {w : World} {b : Nat} {d st : Int} {se rv ov : Value} (hS : St w0 I (box b 113 (segsR d st se rv ov) :: LB) w) :
  w.cell? ⟨b, 0, none⟩ = some (.int .u32 d) ∧ w.cell? ⟨b, 1, none⟩ = some (.int .i32 st) ∧ w.frozen? ⟨b, 0, none⟩ = false ∧ w.frozen? ⟨b, 1, none⟩ = false := by
 have hb := hS.boxAt 0 rfl
 refine ⟨by rw [cell_at hb]; rfl, by rw [cell_at hb]; rfl, ?_, ?_⟩ <;> (unfold World.frozen?; simp only; rw [hb]; simp)
theorem slow_st {w0 : World} {I : Hp} {LB : List Asn} {b : Nat} {se rv ov : Value} {Q : Value → Value → List Asn → Prop} (w : World) (hS : St w0 I (box b 113 (segsR 0 0 se rv ov) :: LB) w)
  (hbo : ∀ w1, St w0 I (box b 113 (segsR 0 1 se rv ov) :: LB) w1 → Calls Tryz.prog 69 #[.pointer (some ⟨b, 0, none⟩)] w1 (RetM w0 I fun v L => v = .tuple #[] ∧ ∃ rv' ov' LB', Q rv' ov' LB' ∧ L = box b 113 (segsR 0 1 se rv' ov') :: LB')) :
  Calls Tryz.prog 88 #[.pointer (some ⟨b, 0, none⟩), .func (.func 69) #[.pointer (some ⟨b, 0, none⟩)] #[]] w (RetM w0 I fun v L => v = .tuple #[] ∧ ∃ rv' ov' LB', Q rv' ov' LB' ∧ L = box b 113 (segsR 1 0 se rv' ov') :: LB') := by
 obtain ⟨h0, h1, f0, f1⟩ := boxR_cell hS
 have hS1 : St w0 I (box b 113 (segsR 0 1 se rv ov) :: LB) (w.setCell ⟨b, 1, none⟩ (.int .i32 1)) := hS.store1 0 rfl rfl
 have hnot : ∀ (x : Bool) (w : World), (Op.unary .not (.bool x)).run Tryz.prog w = .ok (.bool (!x)) w := fun _ _ => rfl
 go_enter_defers Tryz.func88, Tryz.ntmps88
 go_wp2_with (first | (go_at_call 112; refine (lock_free ⟨b, 1, none⟩ _ h1 f1).mono ?_; rintro e w' ⟨rfl, rfl⟩) | (go_at_call 87; refine (load_none ⟨b, 0, none⟩ _ (boxR_cell hS1).1).mono ?_; rintro e w' ⟨rfl, rfl⟩) | (go_at_call 69; refine (hbo _ hS1).mono ?_; rintro e w2 ⟨v, L2, rfl, ⟨rfl, rv', ov', LB', hQ, rfl⟩, hS2⟩))
 go_wp2
 refine leaves_cons (f := 114) (args := #[.pointer (some ⟨b, 0, none⟩), .bool true]) (by simp) (by simp [go_sem]) ?_
 refine (store_deferred ⟨b, 0, none⟩ (.int .u32 0) .returning _ (boxR_cell hS2).1 (boxR_cell hS2).2.2.1).mono ?_
 rintro e u' w'' ⟨rfl, rfl, rfl⟩
 have hS3 : St w0 I (box b 113 (segsR 1 1 se rv' ov') :: LB') (w2.drew.setCell ⟨b, 0, none⟩ (.int .u32 1)) := hS2.drew.store1 0 rfl rfl
 refine leaves_cons (f := 113) (args := #[.pointer (some ⟨b, 1, none⟩)]) (by simp [settle]) (by simp [go_sem]) ?_
 refine (unlock_deferred ⟨b, 1, none⟩ _ _ (boxR_cell hS3).2.1 (boxR_cell hS3).2.2.2).mono ?_
 rintro e u' w'' ⟨rfl, rfl, rfl⟩
 have hS4 : St w0 I (box b 113 (segsR 1 0 se rv' ov') :: LB') ((w2.drew.setCell ⟨b, 0, none⟩ (.int .u32 1)).setCell ⟨b, 1, none⟩ (.int .i32 0)) := hS3.store1 0 rfl rfl
 have hfin : RetM w0 I (fun v L => v = .tuple #[] ∧ ∃ rv' ov' LB', Q rv' ov' LB' ∧ L = box b 113 (segsR 1 0 se rv' ov') :: LB') (.returned (.tuple #[])) ((w2.drew.setCell ⟨b, 0, none⟩ (.int .u32 1)).setCell ⟨b, 1, none⟩ (.int .i32 0)) := ⟨_, _, rfl, ⟨rfl, rv', ov', LB', hQ, rfl⟩, hS4⟩
 simpa [Leaves, settle, results, Tryz.results88] using hfin
theorem once_st {w0 : World} {I : Hp} {LB : List Asn} {b : Nat} {se rv ov : Value} {Q : Value → Value → List Asn → Prop} (w : World) (hS : St w0 I (box b 113 (segsR 0 0 se rv ov) :: LB) w)
  (hbo : ∀ w1, St w0 I (box b 113 (segsR 0 1 se rv ov) :: LB) w1 → Calls Tryz.prog 69 #[.pointer (some ⟨b, 0, none⟩)] w1 (RetM w0 I fun v L => v = .tuple #[] ∧ ∃ rv' ov' LB', Q rv' ov' LB' ∧ L = box b 113 (segsR 0 1 se rv' ov') :: LB')) :
  Calls Tryz.prog 68 #[.pointer (some ⟨b, 0, none⟩), .func (.func 69) #[.pointer (some ⟨b, 0, none⟩)] #[]] w (RetM w0 I fun v L => v = .tuple #[] ∧ ∃ rv' ov' LB', Q rv' ov' LB' ∧ L = box b 113 (segsR 1 0 se rv' ov') :: LB') := by
 have hnot : ∀ (x : Bool) (w : World), (Op.unary .not (.bool x)).run Tryz.prog w = .ok (.bool (!x)) w := fun _ _ => rfl
 go_enter Tryz.func68, Tryz.ntmps68
 go_wp2_with (first | (go_at_call 87; refine (load_none ⟨b, 0, none⟩ _ (boxR_cell hS).1).mono ?_; rintro e w' ⟨rfl, hw⟩; rw [hw]) | (go_at_call 88; refine (slow_st w hS hbo).mono ?_; rintro e w2 ⟨v, L2, rfl, ⟨rfl, rv', ov', LB', hQ, rfl⟩, hS2⟩))
 go_end0
 exact ⟨_, _, rfl, ⟨rfl, rv', ov', LB', hQ, rfl⟩, hS2⟩
end Go.Proofs.YtpejnjpckacciaaGreatDoor.G
namespace Go.Sx
section
variable {P : Program} {w0 : World} {n : Nat} {I : Hp} {Γ : Gm} {L : List Asn} {cs : List Code} {β : Type} {m : Option β} {D : β → Post} {ops : Array Oper} {os : List Oper}
variable {d : Nat} {ty : TypeId} {pos : String} {af : Array Edge} {g : Option (Nat × Bool)}
theorem TL.mkIface {T e : TypeId} {x : Operand} {v : Value} (hT : P.underlying T = some (.pointer e)) (hg : gd ops Γ ⟨some d, .makeInterface T x, ty, pos, af, g⟩ = some true) (hn : Nat.blt d n = true) (hx : ev Γ x = some v)
  (k : TL P w0 n I ((d, .iface T v) :: Γ) L ops os cs m D) : TL P w0 n I Γ L ops (⟨some d, .makeInterface T x, ty, pos, af, g⟩ :: os) cs m D := by
 refine .val hg rfl (by simpa using hn) (fun a w hF _ => run_v ?_) k
 rw [hF.eval hx]
 simp [Instr.makeInterface, run_underlying hT]
end
end Go.Sx
namespace Go.Proofs.YtpejnjpckacciaaGreatDoor.G
open Go Go.Sx Go.Proofs
def olds : List Str := [[109], [115], [115], [109], [117], [101], [101], [117]]
def prs : List (UInt8 × UInt8) := [(101, 117), (117, 101), (115, 109), (109, 115)]
def tab (k : Nat) (c : UInt8) : UInt8 := ((prs.take k).find? (·.1 == c)).elim c (·.2)
def up2 (n : Nat) : Nat → Option (LB Nat) := fun k => bif decide (2 * (k : Int) < n) then some (.next (k + 1)) else some (.brk k)
def up1 (n : Nat) : Nat → Option (LB Nat) := fun k => bif decide ((k : Int) < n) then some (.next (k + 1)) else some (.brk k)
def dn2 : Nat → Option (LB Nat) := fun k => bif decide (6 - 2 * (k : Int) ≥ 0) then some (.next (k + 1)) else some (.brk k)
def buildM : Option Unit := (loop1 (up2 8) 0).bind fun _ => (loop1 (up1 256) 0).bind fun _ => (loop1 dn2 0).bind fun _ => some ()
theorem four {k : Nat} (h : decide (2 * (k : Int) < (8 : Nat)) = true) : k = 0 ∨ k = 1 ∨ k = 2 ∨ k = 3 := by
 have := of_decide_eq_true h
 omega
theorem four' {k : Nat} (h : decide (6 - 2 * (k : Int) ≥ 0) = true) : k = 0 ∨ k = 1 ∨ k = 2 ∨ k = 3 := by
 have := of_decide_eq_true h
 omega
theorem u8_of {k : Nat} (h : k < 256) : Value.int .u8 (IntKind.u8.wrap (k : Int)) = u8v (UInt8.ofNat k) := by
 unfold u8v
 have e : (UInt8.ofNat k).toNat = k := by simp; omega
 rw [e, show IntKind.u8.wrap (k : Int) = (k : Int) from IntWalk.u8_in _ (by omega)]
theorem tab_up {k : Nat} {o n : UInt8} {t : Nat → UInt8} (hp : prs[k]? = some (o, n)) (hf : ∀ c : UInt8, t c.toNat = tab k c) : ∀ c : UInt8, upd t o.toNat n c.toNat = tab (k + 1) c := by
 intro c
 have hk : k < 4 := (List.getElem?_eq_some_iff.1 hp).1
 have e : prs.take (k + 1) = prs.take k ++ [(o, n)] := by
  rw [List.take_add_one, hp]; rfl
 unfold upd
 by_cases h : c = o
 ·subst h
  rw [if_pos rfl, tab, e]
  have hno : (prs.take k).find? (·.1 == c) = none := by
   rw [List.find?_eq_none]
   have hd : (prs.map (·.1)).Nodup := by decide
   intro x hx hc
   obtain ⟨j, hj⟩ := List.mem_iff_getElem?.1 hx
   rw [List.getElem?_take] at hj
   split at hj
   ·rename_i hjk
    have h1 : (prs.map (·.1))[j]? = some c := by rw [List.getElem?_map, hj]; simpa using hc
    have h2 : (prs.map (·.1))[k]? = some c := by rw [List.getElem?_map, hp]; rfl
    have := (List.getElem?_inj (i := j) (j := k) (by rw [List.length_map]; exact Nat.lt_trans hjk hk) hd).1 (h1.trans h2.symm)
    omega
   cases hj
  rw [List.find?_append, hno]
  simp
 have hne : c.toNat ≠ o.toNat := fun he => h (UInt8.toNat_inj.1 he)
 rw [if_neg hne, hf c, tab, tab, e, List.find?_append]
 have : (o == c) = false := by rw [beq_eq_false_iff_ne]; exact fun e => h e.symm
 simp [this]
theorem tab_all {k : Nat} (h : 4 ≤ k) (c : UInt8) : tab k c = tab 4 c := by
 unfold tab
 rw [List.take_of_length_le (by simp [prs]; omega), List.take_of_length_le (l := prs) (i := 4) (by simp [prs])]
def buildR (b : Nat) (d st : Int) (se rv : Value) (s : SV) (_ : Unit) (v : Value) (L : List Asn) : Prop := ∃ rb t, v = .iface 172 (bp rb 0) ∧ (∀ c : UInt8, t c.toNat = tab 4 c) ∧ L = [box b 113 (segsR d st se rv (SV.v s)), row Es 9 s olds, box rb 171 [.arr 256 (enf u8v t)]]
theorem build_st (w0 : World) (I : Hp) (w : World) (b : Nat) (d st : Int) (se rv : Value) (s : SV) (hS : St w0 I [box b 113 (segsR d st se rv (SV.v s)), row Es 9 s olds] w) :
  ∀ r, buildM = some r → Calls Tryz.prog 89 #[bp b 0] w (RetM w0 I (buildR b d st se rv s r)) := by
 refine calls_TM (w0 := w0) (I := I) (L := [box b 113 (segsR d st se rv (SV.v s)), row Es 9 s olds]) (n := 132) (Γ := [(0, bp b 0)]) (R := buildR b d st se rv s) Tryz.func89 rfl rfl (Nat.le_of_ble_eq_true rfl) ⟨rfl, trivial⟩ ?_ w hS
 unfold buildM
 (repeat refine TC.seq ?_)
 refine TC.region <| TL.as (.nilIface) <| TL.done ?_
 (repeat refine TC.seq ?_)
 refine TC.region <| TL.mv (bp b 0) ?_
 refine TL.nilCheck rfl rfl rfl ?_
 refine TL.fa Tryz.underlying113 rfl Tryz.sizeOf49 rfl 4 rfl rfl rfl rfl <| TL.load1 4 (Src.box 0 rfl) Tryz.isAgg49 rfl rfl rfl rfl rfl <| TL.as (SV.v s) <| TL.done ?_
 (repeat refine TC.seq ?_)
 refine TC.region <| TL.mv (SV.v s) <| TL.len (Rd.row 1 rfl) Tryz.underlying49 rfl rfl rfl <| TL.bn .i64 8 2 (.bool false) <| TL.mv (.bool false) <| TL.sk ?_
 refine TL.sk <| TL.sk <| TL.sk <| TL.sk <| TL.pk false (.bool false) <| TL.done ?_
 (repeat refine TC.seq ?_)
 refine TC.cond_false rfl ?_
 refine TC.skip ?_
 (repeat refine TC.seq ?_)
 refine TC.region <| TL.as (.bool true) <| TL.done ?_
 (repeat refine TC.seq ?_)
 refine TC.region <| TL.as (.int .i64 0) <| TL.done ?_
 refine TC.loop1 (σ := Nat) (γ := Unit) (Γ' := fun k _ => [(3, SV.v s), (4, .bool true), (5, .int .i64 (2 * (k : Int)))]) (L' := fun _ _ => [box b 113 (segsR d st se rv (SV.v s)), row Es 9 s olds]) (Γb := fun k _ => [(3, SV.v s), (4, .bool true)]) (Lb := fun _ _ => [box b 113 (segsR d st se rv (SV.v s)), row Es 9 s olds]) 0 () ⟨rfl, rfl, rfl, trivial⟩ [0, 0] rfl ?_ ?_
 ·rintro k ⟨⟩
  unfold up2
  (repeat refine TC.seq ?_)
  refine TC.region <| TL.mv (.int .i64 (2 * (k : Int))) <| TL.mv (SV.v s) <| TL.len (Rd.row 1 rfl) Tryz.underlying49 rfl rfl rfl <| TL.bn .i64 (2 * (k : Int)) 8 (.bool (decide (2 * (k : Int) < (8 : Nat)))) <| TL.done ?_
  (repeat refine TC.seq ?_)
  refine TC.cond (b := decide (2 * (k : Int) < (8 : Nat))) rfl (fun c1 => ?_) (fun c2 => ?_)
  ·refine TC.skip ?_
   have hk := four c1
   rcases hk with rfl | rfl | rfl | rfl
   ·(repeat refine TC.seq ?_)
    refine TC.block (NoEx.loop1 rfl) ?_
    (repeat refine TC.seq ?_)
    refine TC.region <| TL.mv (SV.v s) <| TL.mv (.int .i64 0) <| TL.ixs (0) 0 (Rd.row 1 rfl) (by decide) Tryz.underlying49 Tryz.sizeOf9 rfl rfl rfl rfl rfl <| TL.loadE (Rd.row 1 rfl) Tryz.isAgg9 0 0 (y := gt olds (0)) rfl (v := strv (gt olds (0))) rfl rfl rfl rfl rfl <| TL.lenstr Tryz.underlying9 rfl rfl rfl ?_
    refine TL.bn .i64 1 1 (.bool false) <| TL.done ?_
    (repeat refine TC.seq ?_)
    refine TC.cond_false rfl ?_
    refine TC.skip ?_
    (repeat refine TC.seq ?_)
    refine TC.region <| TL.mv (SV.v s) <| TL.mv (.int .i64 0) <| TL.bn .i64 0 1 (.int .i64 1) <| TL.ixs (1) 1 (Rd.row 1 rfl) (by decide) Tryz.underlying49 Tryz.sizeOf9 rfl rfl rfl rfl rfl <| TL.loadE (Rd.row 1 rfl) Tryz.isAgg9 1 0 (y := gt olds (1)) rfl (v := strv (gt olds (1))) rfl rfl rfl rfl rfl ?_
    refine TL.lenstr Tryz.underlying9 rfl rfl rfl <| TL.bn .i64 1 1 (.bool false) <| TL.done ?_
    (repeat refine TC.seq ?_)
    refine TC.cond_false rfl ?_
    refine TC.skip ?_
    (repeat refine TC.seq ?_)
    refine TC.region <| TL.mv (.int .i64 0) <| TL.bn .i64 0 2 (.int .i64 2) <| TL.as (.int .i64 2) <| TL.done ?_
    exact TC.next1 1 () ⟨rfl, rfl, rfl, trivial⟩ [0, 0] rfl
   ·(repeat refine TC.seq ?_)
    refine TC.block (NoEx.loop1 rfl) ?_
    (repeat refine TC.seq ?_)
    refine TC.region <| TL.mv (SV.v s) <| TL.mv (.int .i64 2) <| TL.ixs (2) 2 (Rd.row 1 rfl) (by decide) Tryz.underlying49 Tryz.sizeOf9 rfl rfl rfl rfl rfl <| TL.loadE (Rd.row 1 rfl) Tryz.isAgg9 2 0 (y := gt olds (2)) rfl (v := strv (gt olds (2))) rfl rfl rfl rfl rfl <| TL.lenstr Tryz.underlying9 rfl rfl rfl ?_
    refine TL.bn .i64 1 1 (.bool false) <| TL.done ?_
    (repeat refine TC.seq ?_)
    refine TC.cond_false rfl ?_
    refine TC.skip ?_
    (repeat refine TC.seq ?_)
    refine TC.region <| TL.mv (SV.v s) <| TL.mv (.int .i64 2) <| TL.bn .i64 2 1 (.int .i64 3) <| TL.ixs (3) 3 (Rd.row 1 rfl) (by decide) Tryz.underlying49 Tryz.sizeOf9 rfl rfl rfl rfl rfl <| TL.loadE (Rd.row 1 rfl) Tryz.isAgg9 3 0 (y := gt olds (3)) rfl (v := strv (gt olds (3))) rfl rfl rfl rfl rfl ?_
    refine TL.lenstr Tryz.underlying9 rfl rfl rfl <| TL.bn .i64 1 1 (.bool false) <| TL.done ?_
    (repeat refine TC.seq ?_)
    refine TC.cond_false rfl ?_
    refine TC.skip ?_
    (repeat refine TC.seq ?_)
    refine TC.region <| TL.mv (.int .i64 2) <| TL.bn .i64 2 2 (.int .i64 4) <| TL.as (.int .i64 4) <| TL.done ?_
    exact TC.next1 2 () ⟨rfl, rfl, rfl, trivial⟩ [0, 0] rfl
   ·(repeat refine TC.seq ?_)
    refine TC.block (NoEx.loop1 rfl) ?_
    (repeat refine TC.seq ?_)
    refine TC.region <| TL.mv (SV.v s) <| TL.mv (.int .i64 4) <| TL.ixs (4) 4 (Rd.row 1 rfl) (by decide) Tryz.underlying49 Tryz.sizeOf9 rfl rfl rfl rfl rfl <| TL.loadE (Rd.row 1 rfl) Tryz.isAgg9 4 0 (y := gt olds (4)) rfl (v := strv (gt olds (4))) rfl rfl rfl rfl rfl <| TL.lenstr Tryz.underlying9 rfl rfl rfl ?_
    refine TL.bn .i64 1 1 (.bool false) <| TL.done ?_
    (repeat refine TC.seq ?_)
    refine TC.cond_false rfl ?_
    refine TC.skip ?_
    (repeat refine TC.seq ?_)
    refine TC.region <| TL.mv (SV.v s) <| TL.mv (.int .i64 4) <| TL.bn .i64 4 1 (.int .i64 5) <| TL.ixs (5) 5 (Rd.row 1 rfl) (by decide) Tryz.underlying49 Tryz.sizeOf9 rfl rfl rfl rfl rfl <| TL.loadE (Rd.row 1 rfl) Tryz.isAgg9 5 0 (y := gt olds (5)) rfl (v := strv (gt olds (5))) rfl rfl rfl rfl rfl ?_
    refine TL.lenstr Tryz.underlying9 rfl rfl rfl <| TL.bn .i64 1 1 (.bool false) <| TL.done ?_
    (repeat refine TC.seq ?_)
    refine TC.cond_false rfl ?_
    refine TC.skip ?_
    (repeat refine TC.seq ?_)
    refine TC.region <| TL.mv (.int .i64 4) <| TL.bn .i64 4 2 (.int .i64 6) <| TL.as (.int .i64 6) <| TL.done ?_
    exact TC.next1 3 () ⟨rfl, rfl, rfl, trivial⟩ [0, 0] rfl
   (repeat refine TC.seq ?_)
   refine TC.block (NoEx.loop1 rfl) ?_
   (repeat refine TC.seq ?_)
   refine TC.region <| TL.mv (SV.v s) <| TL.mv (.int .i64 6) <| TL.ixs (6) 6 (Rd.row 1 rfl) (by decide) Tryz.underlying49 Tryz.sizeOf9 rfl rfl rfl rfl rfl <| TL.loadE (Rd.row 1 rfl) Tryz.isAgg9 6 0 (y := gt olds (6)) rfl (v := strv (gt olds (6))) rfl rfl rfl rfl rfl <| TL.lenstr Tryz.underlying9 rfl rfl rfl ?_
   refine TL.bn .i64 1 1 (.bool false) <| TL.done ?_
   (repeat refine TC.seq ?_)
   refine TC.cond_false rfl ?_
   refine TC.skip ?_
   (repeat refine TC.seq ?_)
   refine TC.region <| TL.mv (SV.v s) <| TL.mv (.int .i64 6) <| TL.bn .i64 6 1 (.int .i64 7) <| TL.ixs (7) 7 (Rd.row 1 rfl) (by decide) Tryz.underlying49 Tryz.sizeOf9 rfl rfl rfl rfl rfl <| TL.loadE (Rd.row 1 rfl) Tryz.isAgg9 7 0 (y := gt olds (7)) rfl (v := strv (gt olds (7))) rfl rfl rfl rfl rfl ?_
   refine TL.lenstr Tryz.underlying9 rfl rfl rfl <| TL.bn .i64 1 1 (.bool false) <| TL.done ?_
   (repeat refine TC.seq ?_)
   refine TC.cond_false rfl ?_
   refine TC.skip ?_
   (repeat refine TC.seq ?_)
   refine TC.region <| TL.mv (.int .i64 6) <| TL.bn .i64 6 2 (.int .i64 8) <| TL.as (.int .i64 8) <| TL.done ?_
   exact TC.next1 4 () ⟨rfl, rfl, rfl, trivial⟩ [0, 0] rfl
  exact TC.brk1 k () ⟨rfl, rfl, trivial⟩ [0, 0] rfl
 rintro k ⟨⟩
 (repeat refine TC.seq ?_)
 refine TC.region <| TL.mv (.bool true) <| TL.done ?_
 (repeat refine TC.seq ?_)
 refine TC.cond_true rfl ?_
 (repeat refine TC.seq ?_)
 refine TC.region ?_
 refine TL.buildA (segs0 := [.arr 256 (enf u8v fun _ => 0)]) (segs := [.arr 256 (enf u8v fun _ => 0)]) Tryz.underlying171 Tryz.sizeOf5 Tryz.zeroValue171 rfl [] rfl rfl rfl rfl ?_
 refine TL.alloc [.arr 256 (enf u8v fun _ => 0)] rfl rfl Tryz.zeroValue171 rfl fun rb => ?_
 refine TL.stM (news := [.arr 256 (enf u8v fun _ => 0)]) 0 0 1 rfl Tryz.sizeOf171 (ones_arr (fun _ => rfl) ones_nil) rfl rfl rfl rfl rfl rfl ?_
 refine TL.done ?_
 (repeat refine TC.seq ?_)
 refine TC.region <| TL.mv (.int .i64 0) <| TL.done ?_
 refine TC.addFact (φ := ∀ j, j < 0 → (fun _ => (0 : UInt8)) j = UInt8.ofNat j) (fun j hj => absurd hj (Nat.not_lt_zero j)) ?_
 refine TC.loop1 (σ := Nat) (γ := Nat → UInt8) (Γ' := fun k t => [(3, SV.v s), (6, bp rb 0), (61, .int .i64 (k : Int))]) (L' := fun k t => [box rb 171 [.arr 256 (enf u8v t)], fact (∀ j, j < k → t j = UInt8.ofNat j), box b 113 (segsR d st se rv (SV.v s)), row Es 9 s olds]) (Γb := fun k t => [(3, SV.v s), (6, bp rb 0)]) (Lb := fun _ t => [box rb 171 [.arr 256 (enf u8v t)], fact (∀ j, j < 256 → t j = UInt8.ofNat j), box b 113 (segsR d st se rv (SV.v s)), row Es 9 s olds]) 0 (fun _ => 0) ⟨rfl, rfl, rfl, trivial⟩ [1, 0, 0, 0] rfl ?_ ?_
 ·rintro k t
  unfold up1
  (repeat refine TC.seq ?_)
  refine TC.region <| TL.bn .i64 (k : Int) 256 (.bool (decide ((k : Int) < (256 : Nat)))) <| TL.done ?_
  refine TC.factOf 1 rfl fun hf => ?_
  (repeat refine TC.seq ?_)
  refine TC.cond (b := decide ((k : Int) < (256 : Nat))) rfl (fun c1 => ?_) (fun c2 => ?_)
  ·refine TC.skip ?_
   have hk : k < 256 := by have := of_decide_eq_true c1; omega
   (repeat refine TC.seq ?_)
   refine TC.block (NoEx.loop1 rfl) ?_
   (repeat refine TC.seq ?_)
   refine TC.region <| TL.mv (.int .i64 (k : Int)) <| TL.as (.int .i64 (k : Int)) <| TL.done ?_
   (repeat refine TC.seq ?_)
   refine TC.region <| TL.mv (.int .i64 (k : Int)) <| TL.mv (.int .i64 (k : Int)) <| TL.conv .i64 .u8 (k : Int) _ rfl rfl rfl Tryz.underlying3 Tryz.underlying5 (v := u8v (UInt8.ofNat k)) (u8_of hk) <| TL.ixa (k : Int) k (by omega) Tryz.underlying171 Tryz.sizeOf5 rfl rfl rfl rfl (by omega) ?_
   refine TL.stA (e := u8v) (z := UInt8.ofNat k) 0 0 k rfl Tryz.sizeOf5 rfl hk (s := 0) rfl (by omega) rfl rfl rfl rfl rfl ?_
   refine TL.done ?_
   (repeat refine TC.seq ?_)
   refine TC.region <| TL.bn .i64 (k : Int) 1 (.int .i64 (w64 ((k : Int) + 1))) <| TL.mv (.int .i64 (w64 ((k : Int) + 1))) <| TL.done ?_
   have hf2 : ∀ j, j < k + 1 → upd t k (UInt8.ofNat k) j = UInt8.ofNat j := fun j hj => by
    unfold upd
    by_cases h : j = k
    ·rw [if_pos h, h]
    rw [if_neg h]; exact hf j (by omega)
   refine TC.addFact hf2 ?_
   have hw : w64 ((k : Int) + 1) = ((k + 1 : Nat) : Int) := by rw [show w64 ((k : Int) + 1) = (k : Int) + 1 from IntWalk.i64_in _ (by omega)]; omega
   rw [hw]
   exact TC.next1 (k + 1) (upd t k (UInt8.ofNat k)) ⟨rfl, rfl, rfl, trivial⟩ [1, 0, 1, 1] rfl
  have hf2 : ∀ j, j < 256 → t j = UInt8.ofNat j := fun j hj => hf j (by have := of_decide_eq_false c2; omega)
  refine TC.addFact hf2 ?_
  exact TC.brk1 k t ⟨rfl, rfl, trivial⟩ [1, 0, 1, 1] rfl
 rintro k t
 refine TC.factOf 1 rfl fun hf => ?_
 (repeat refine TC.seq ?_)
 refine TC.region <| TL.mv (SV.v s) <| TL.len (Rd.row 3 rfl) Tryz.underlying49 rfl rfl rfl <| TL.bn .i64 8 2 (.int .i64 6) <| TL.as (.int .i64 6) <| TL.done ?_
 refine TC.addFact (φ := ∀ c : UInt8, t c.toNat = tab 0 c) (fun c => by rw [hf _ c.toNat_lt]; simp [tab]) ?_
 refine TC.loop1 (σ := Nat) (γ := Nat → UInt8) (Γ' := fun k t => [(3, SV.v s), (6, bp rb 0), (8, .int .i64 (6 - 2 * (k : Int)))]) (L' := fun k t => [box rb 171 [.arr 256 (enf u8v t)], fact (∀ c : UInt8, t c.toNat = tab k c), box b 113 (segsR d st se rv (SV.v s)), row Es 9 s olds]) (Γb := fun k t => [(3, SV.v s), (6, bp rb 0)]) (Lb := fun _ t => [box rb 171 [.arr 256 (enf u8v t)], fact (∀ c : UInt8, t c.toNat = tab 4 c), box b 113 (segsR d st se rv (SV.v s)), row Es 9 s olds]) 0 t ⟨rfl, rfl, rfl, trivial⟩ [1, 0, 1, 1] rfl ?_ ?_
 ·rintro k t
  unfold dn2
  refine TC.factOf 1 rfl fun hf => ?_
  (repeat refine TC.seq ?_)
  refine TC.region <| TL.mv (.int .i64 (6 - 2 * (k : Int))) <| TL.bn .i64 (6 - 2 * (k : Int)) 0 (.bool (decide (6 - 2 * (k : Int) ≥ 0))) <| TL.done ?_
  (repeat refine TC.seq ?_)
  refine TC.cond (b := decide (6 - 2 * (k : Int) ≥ 0)) rfl (fun c1 => ?_) (fun c2 => ?_)
  ·refine TC.skip ?_
   have hk := four' c1
   rcases hk with rfl | rfl | rfl | rfl
   ·(repeat refine TC.seq ?_)
    refine TC.block (NoEx.loop1 rfl) ?_
    (repeat refine TC.seq ?_)
    refine TC.region <| TL.mv (SV.v s) <| TL.mv (.int .i64 6) <| TL.ixs (6) 6 (Rd.row 3 rfl) (by decide) Tryz.underlying49 Tryz.sizeOf9 rfl rfl rfl rfl rfl <| TL.loadE (Rd.row 3 rfl) Tryz.isAgg9 6 0 (y := gt olds (6)) rfl (v := strv (gt olds (6))) rfl rfl rfl rfl rfl <| TL.ixstr 0 (by decide) Tryz.underlying9 rfl rfl rfl rfl ?_
    refine TL.as (u8v 101) <| TL.done ?_
    (repeat refine TC.seq ?_)
    refine TC.region <| TL.mv (SV.v s) <| TL.mv (.int .i64 6) <| TL.bn .i64 6 1 (.int .i64 7) <| TL.ixs (7) 7 (Rd.row 3 rfl) (by decide) Tryz.underlying49 Tryz.sizeOf9 rfl rfl rfl rfl rfl <| TL.loadE (Rd.row 3 rfl) Tryz.isAgg9 7 0 (y := gt olds (7)) rfl (v := strv (gt olds (7))) rfl rfl rfl rfl rfl ?_
    refine TL.ixstr 0 (by decide) Tryz.underlying9 rfl rfl rfl rfl <| TL.as (u8v 117) <| TL.done ?_
    (repeat refine TC.seq ?_)
    refine TC.region <| TL.mv (u8v 101) <| TL.mv (u8v 117) <| TL.ixa 101 101 (by decide) Tryz.underlying171 Tryz.sizeOf5 rfl rfl rfl rfl rfl ?_
    refine TL.stA (e := u8v) (z := 117) 0 0 101 rfl Tryz.sizeOf5 rfl (by decide) (s := 0) rfl rfl rfl rfl rfl rfl rfl ?_
    refine TL.done ?_
    (repeat refine TC.seq ?_)
    refine TC.region <| TL.mv (.int .i64 6) <| TL.bn .i64 6 2 (.int .i64 (4)) <| TL.as (.int .i64 (4)) <| TL.done ?_
    refine TC.addFact (tab_up (k := 0) (o := 101) (n := 117) rfl hf) ?_
    exact TC.next1 1 (upd t 101 117) ⟨rfl, rfl, rfl, trivial⟩ [1, 0, 1, 1] rfl
   ·(repeat refine TC.seq ?_)
    refine TC.block (NoEx.loop1 rfl) ?_
    (repeat refine TC.seq ?_)
    refine TC.region <| TL.mv (SV.v s) <| TL.mv (.int .i64 4) <| TL.ixs (4) 4 (Rd.row 3 rfl) (by decide) Tryz.underlying49 Tryz.sizeOf9 rfl rfl rfl rfl rfl <| TL.loadE (Rd.row 3 rfl) Tryz.isAgg9 4 0 (y := gt olds (4)) rfl (v := strv (gt olds (4))) rfl rfl rfl rfl rfl <| TL.ixstr 0 (by decide) Tryz.underlying9 rfl rfl rfl rfl ?_
    refine TL.as (u8v 117) <| TL.done ?_
    (repeat refine TC.seq ?_)
    refine TC.region <| TL.mv (SV.v s) <| TL.mv (.int .i64 4) <| TL.bn .i64 4 1 (.int .i64 5) <| TL.ixs (5) 5 (Rd.row 3 rfl) (by decide) Tryz.underlying49 Tryz.sizeOf9 rfl rfl rfl rfl rfl <| TL.loadE (Rd.row 3 rfl) Tryz.isAgg9 5 0 (y := gt olds (5)) rfl (v := strv (gt olds (5))) rfl rfl rfl rfl rfl ?_
    refine TL.ixstr 0 (by decide) Tryz.underlying9 rfl rfl rfl rfl <| TL.as (u8v 101) <| TL.done ?_
    (repeat refine TC.seq ?_)
    refine TC.region <| TL.mv (u8v 117) <| TL.mv (u8v 101) <| TL.ixa 117 117 (by decide) Tryz.underlying171 Tryz.sizeOf5 rfl rfl rfl rfl rfl ?_
    refine TL.stA (e := u8v) (z := 101) 0 0 117 rfl Tryz.sizeOf5 rfl (by decide) (s := 0) rfl rfl rfl rfl rfl rfl rfl ?_
    refine TL.done ?_
    (repeat refine TC.seq ?_)
    refine TC.region <| TL.mv (.int .i64 4) <| TL.bn .i64 4 2 (.int .i64 (2)) <| TL.as (.int .i64 (2)) <| TL.done ?_
    refine TC.addFact (tab_up (k := 1) (o := 117) (n := 101) rfl hf) ?_
    exact TC.next1 2 (upd t 117 101) ⟨rfl, rfl, rfl, trivial⟩ [1, 0, 1, 1] rfl
   ·(repeat refine TC.seq ?_)
    refine TC.block (NoEx.loop1 rfl) ?_
    (repeat refine TC.seq ?_)
    refine TC.region <| TL.mv (SV.v s) <| TL.mv (.int .i64 2) <| TL.ixs (2) 2 (Rd.row 3 rfl) (by decide) Tryz.underlying49 Tryz.sizeOf9 rfl rfl rfl rfl rfl <| TL.loadE (Rd.row 3 rfl) Tryz.isAgg9 2 0 (y := gt olds (2)) rfl (v := strv (gt olds (2))) rfl rfl rfl rfl rfl <| TL.ixstr 0 (by decide) Tryz.underlying9 rfl rfl rfl rfl ?_
    refine TL.as (u8v 115) <| TL.done ?_
    (repeat refine TC.seq ?_)
    refine TC.region <| TL.mv (SV.v s) <| TL.mv (.int .i64 2) <| TL.bn .i64 2 1 (.int .i64 3) <| TL.ixs (3) 3 (Rd.row 3 rfl) (by decide) Tryz.underlying49 Tryz.sizeOf9 rfl rfl rfl rfl rfl <| TL.loadE (Rd.row 3 rfl) Tryz.isAgg9 3 0 (y := gt olds (3)) rfl (v := strv (gt olds (3))) rfl rfl rfl rfl rfl ?_
    refine TL.ixstr 0 (by decide) Tryz.underlying9 rfl rfl rfl rfl <| TL.as (u8v 109) <| TL.done ?_
    (repeat refine TC.seq ?_)
    refine TC.region <| TL.mv (u8v 115) <| TL.mv (u8v 109) <| TL.ixa 115 115 (by decide) Tryz.underlying171 Tryz.sizeOf5 rfl rfl rfl rfl rfl ?_
    refine TL.stA (e := u8v) (z := 109) 0 0 115 rfl Tryz.sizeOf5 rfl (by decide) (s := 0) rfl rfl rfl rfl rfl rfl rfl ?_
    refine TL.done ?_
    (repeat refine TC.seq ?_)
    refine TC.region <| TL.mv (.int .i64 2) <| TL.bn .i64 2 2 (.int .i64 (0)) <| TL.as (.int .i64 (0)) <| TL.done ?_
    refine TC.addFact (tab_up (k := 2) (o := 115) (n := 109) rfl hf) ?_
    exact TC.next1 3 (upd t 115 109) ⟨rfl, rfl, rfl, trivial⟩ [1, 0, 1, 1] rfl
   (repeat refine TC.seq ?_)
   refine TC.block (NoEx.loop1 rfl) ?_
   (repeat refine TC.seq ?_)
   refine TC.region <| TL.mv (SV.v s) <| TL.mv (.int .i64 0) <| TL.ixs (0) 0 (Rd.row 3 rfl) (by decide) Tryz.underlying49 Tryz.sizeOf9 rfl rfl rfl rfl rfl <| TL.loadE (Rd.row 3 rfl) Tryz.isAgg9 0 0 (y := gt olds (0)) rfl (v := strv (gt olds (0))) rfl rfl rfl rfl rfl <| TL.ixstr 0 (by decide) Tryz.underlying9 rfl rfl rfl rfl ?_
   refine TL.as (u8v 109) <| TL.done ?_
   (repeat refine TC.seq ?_)
   refine TC.region <| TL.mv (SV.v s) <| TL.mv (.int .i64 0) <| TL.bn .i64 0 1 (.int .i64 1) <| TL.ixs (1) 1 (Rd.row 3 rfl) (by decide) Tryz.underlying49 Tryz.sizeOf9 rfl rfl rfl rfl rfl <| TL.loadE (Rd.row 3 rfl) Tryz.isAgg9 1 0 (y := gt olds (1)) rfl (v := strv (gt olds (1))) rfl rfl rfl rfl rfl ?_
   refine TL.ixstr 0 (by decide) Tryz.underlying9 rfl rfl rfl rfl <| TL.as (u8v 115) <| TL.done ?_
   (repeat refine TC.seq ?_)
   refine TC.region <| TL.mv (u8v 109) <| TL.mv (u8v 115) <| TL.ixa 109 109 (by decide) Tryz.underlying171 Tryz.sizeOf5 rfl rfl rfl rfl rfl ?_
   refine TL.stA (e := u8v) (z := 115) 0 0 109 rfl Tryz.sizeOf5 rfl (by decide) (s := 0) rfl rfl rfl rfl rfl rfl rfl ?_
   refine TL.done ?_
   (repeat refine TC.seq ?_)
   refine TC.region <| TL.mv (.int .i64 0) <| TL.bn .i64 0 2 (.int .i64 (-2)) <| TL.as (.int .i64 (-2)) <| TL.done ?_
   refine TC.addFact (tab_up (k := 3) (o := 109) (n := 115) rfl hf) ?_
   exact TC.next1 4 (upd t 109 115) ⟨rfl, rfl, rfl, trivial⟩ [1, 0, 1, 1] rfl
  refine TC.addFact (φ := ∀ c : UInt8, t c.toNat = tab 4 c) (fun c => by rw [hf c]; exact tab_all (by have := of_decide_eq_false c2; omega) c) ?_
  exact TC.brk1 k t ⟨rfl, rfl, trivial⟩ [1, 0, 1, 1] rfl
 rintro k t
 refine TC.factOf 1 rfl fun hf => ?_
 (repeat refine TC.seq ?_)
 refine TC.region ?_
 refine TL.mkIface Tryz.underlying172 rfl rfl rfl ?_
 exact TL.as (.iface 172 (bp rb 0)) <| TL.done <| TC.retF (Fin.body (fin1 (.inr rfl) rfl (.tmp rfl) [2, 2, 0] rfl ⟨rb, t, rfl, hf, rfl⟩))
end Go.Proofs.YtpejnjpckacciaaGreatDoor.G
namespace Go.Sx
def brow (g : Nat) (cap : Nat) (ys : List UInt8) : Asn := fun ρ => ∃ cur : Array Value, ρ = [(g, .cells cur 5 (cur.size, cur.size + 1))] ∧ ys.length ≤ cap ∧ cap ≤ maxLen ∧ cap ≤ cur.size ∧ cur.toList.take ys.length = encs Eu ys
def bsv (g cap n : Nat) : SV := ⟨some ⟨g, 0, none⟩, n, cap⟩
theorem encs_eu (ys : List UInt8) : encs Eu ys = ys.map u8v := by
 induction ys with
 | nil => rfl
 | cons y ys ih =>
  have e : encs Eu (y :: ys) = Eu.enc y ++ encs Eu ys := rfl
  rw [e, ih]; rfl
theorem brow_reads {g cap : Nat} {ys : List UInt8} {ρ : Frag} {I : Hp} (h : brow g cap ys ρ) (hh : ∀ p ∈ ρ, I p.1 = some p.2) : Reads Eu I (bsv g cap ys.length) ys := by
 obtain ⟨cur, rfl, h1, h2, h3, h4⟩ := h
 refine ⟨rfl, h1, h2, .inr ⟨g, 0, cur, 5, _, rfl, hh _ (List.mem_singleton.2 rfl), ?_⟩⟩
 intro j u hu
 rw [← h4, List.getElem?_take] at hu
 split at hu
 ·simpa using hu
 cases hu
theorem Rd.brow {w0 I L} {g cap n : Nat} {ys : List UInt8} (hn : ys.length = n) (i : Nat) (hi : L[i]? = some (brow g cap ys)) : Rd w0 I L Eu (bsv g cap n) ys := by
 subst hn
 intro w hS
 obtain ⟨ρA, hA, hh⟩ := hS.get hi
 exact brow_reads hA hh
section
variable {P : Program} {w0 : World} {n : Nat} {I : Hp} {Γ : Gm} {L : List Asn} {cs : List Code} {β : Type} {m : Option β} {D : β → Post} {ops : Array Oper} {os : List Oper}
variable {d : Nat} {ty : TypeId} {pos : String} {af : Array Edge} {g : Option (Nat × Bool)}
theorem TL.s2b {S T : TypeId} {x : Operand} {s : Str} (hlen : s.length ≤ maxLen) (hU : P.underlying S = some .string) (hT : P.underlying T = some (.slice 5)) (he : P.underlying 5 = some (.int .u8))
  (hg : gd ops Γ ⟨some d, .convert S T x, ty, pos, af, g⟩ = some true) (hn : Nat.blt d n = true) (hx : ev Γ x = some (strv s))
  (k : ∀ b cap, TL P w0 n I ((d, SV.v (bsv b cap s.length)) :: Γ) (brow b cap s :: L) ops os cs m D) : TL P w0 n I Γ L ops (⟨some d, .convert S T x, ty, pos, af, g⟩ :: os) cs m D := by
 refine .valW (γ := Nat × Nat) (vf := fun q => SV.v (bsv q.1 q.2 s.length)) (Lf := fun q => brow q.1 q.2 s :: L) hg rfl (by simpa using hn) (fun a w hF hS => ?_) (fun q => k q.1 q.2)
 have hsz : (ByteArray.mk s.toArray).size = s.length := by show s.toArray.size = _; simp
 refine ⟨(w.heap.size, grownCap w s.length 0 5), w.drew.alloc (.cells (bytesRow ⟨s.toArray⟩ (grownCap w s.length 0 5)) 5 ((bytesRow ⟨s.toArray⟩ (grownCap w s.length 0 5)).size, (bytesRow ⟨s.toArray⟩ (grownCap w s.length 0 5)).size + 1)), ?_, ?_⟩
 ·refine run_v ?_
  rw [hF.eval hx]
  have h := run_bytes_of_string (P := P) w S T 5 ⟨s.toArray⟩ hU hT he
  rw [hsz] at h
  exact h
 have hge : s.length ≤ grownCap w s.length 0 5 := grownCap_ge w s.length 0 5
 have hle : grownCap w s.length 0 5 ≤ maxLen := grownCap_le_maxLen w s.length 0 5 hlen
 obtain ⟨ρ, hs, ho⟩ := (hS.drew.alloc (.cells (bytesRow ⟨s.toArray⟩ (grownCap w s.length 0 5)) 5 ((bytesRow ⟨s.toArray⟩ (grownCap w s.length 0 5)).size, (bytesRow ⟨s.toArray⟩ (grownCap w s.length 0 5)).size + 1))).own
 obtain ⟨ρ1, ρ2, rfl, rfl, h2⟩ := hs
 have h3 := hS.drew.alloc (.cells (bytesRow ⟨s.toArray⟩ (grownCap w s.length 0 5)) 5 ((bytesRow ⟨s.toArray⟩ (grownCap w s.length 0 5)).size, (bytesRow ⟨s.toArray⟩ (grownCap w s.length 0 5)).size + 1))
 refine ⟨h3.below, h3.i0, h3.iw, _, ⟨_, ρ2, rfl, ⟨_, rfl, hge, hle, ?_, ?_⟩, h2⟩, ho⟩
 ·simp [bytesRow]; omega
 rw [encs_eu]
 unfold bytesRow
 rw [Array.toList_append, List.take_append_of_le_length (by simp), Array.toList_map, List.take_of_length_le (by simp)]
 rfl
theorem TL.stB {T : TypeId} {x y : Operand} {b cap nn : Nat} {ys : List UInt8} (hnn : ys.length = nn) (i q : Nat) (z : UInt8) (hi : L[i]? = some (brow b cap ys)) (hz : ∀ w, (sizeOf T).run P w = .ok 1 w)
  (hq : q < ys.length) (hg : gd ops Γ ⟨none, .store T x y, ty, pos, af, g⟩ = some true) (hx : ev Γ x = some (ep (bsv b cap nn) q)) (hy : ev Γ y = some (u8v z))
  (k : TL P w0 n I Γ (L.set i (brow b cap (ys.set q z))) ops os cs m D) : TL P w0 n I Γ L ops (⟨none, .store T x y, ty, pos, af, g⟩ :: os) cs m D := by
 refine .skipW hg rfl (fun a w hF hS => ?_) k
 obtain ⟨ρA, hA, hh⟩ := hS.get hi
 obtain ⟨cur, rfl, h2, h3, h4, h5⟩ := hA
 have hb := hh _ (List.mem_singleton.2 rfl)
 have hsz : q < cur.size := by omega
 refine ⟨w.setCell ⟨b, q, none⟩ (u8v z), ?_, ?_⟩
 ·refine run_u ?_
  rw [hF.eval hx, hF.eval hy]
  simp only [Instr.storeAt, ep, bsv, add_none, Instr.sureAddr, Sem.run_bind, Sem.run_pure, Result.andThen_ok]
  have hcell : w.cell? ⟨b, q, none⟩ = some cur[q] := by rw [cell_at hb]; simp [hsz]
  have hfro : w.frozen? ⟨b, q, none⟩ = false := by
   unfold World.frozen?
   simp only
   rw [hb]
   simp; omega
  have hst : (store (⟨b, q, none⟩ : Addr) (u8v z)).run P w = .ok () (w.setCell ⟨b, q, none⟩ (u8v z)) := by
   rw [run_store P w _ (u8v z) _ rfl, hcell]; simp [hfro]
  have hadd : (⟨b, q, none⟩ : Addr).add 0 = ⟨b, q, none⟩ := add_none b q 0
  simp only [Nat.zero_add]
  simp [storeVar, Sem.run_bind, hz w, show (u8v z).cells = #[u8v z] from rfl, storeCells, hadd, hst]
 refine hS.turn hi ?_ rfl rfl rfl (by simp [World.setCell])
 intro ρB hB hhB
 obtain ⟨cur', rfl, _, _, _, _⟩ := hB
 have hb' := hhB _ (List.mem_singleton.2 rfl)
 rw [hb] at hb'
 injection hb' with hb'
 injection hb' with hb'
 subst hb'
 refine ⟨[(b, .cells (cur.setIfInBounds q (u8v z)) 5 (cur.size, cur.size + 1))], ⟨cur.setIfInBounds q (u8v z), by simp, by rw [List.length_set]; exact h2, h3, by simpa using h4, ?_⟩, rfl, ?_, ?_⟩
 ·rw [List.length_set, encs_eu, Array.toList_setIfInBounds, List.take_set, h5, encs_eu, List.map_set]
 ·intro p hp
  obtain rfl := List.mem_singleton.1 hp
  exact setCell_heap hb
 intro k hk
 exact setCell_rest (by simpa using hk)
theorem run_invoke {x : Operand} {name : String} {args : Array Operand} {ts : Array TypeId} {vs : List Value} {dst : Option Nat} {t : TypeId} {v recv : Value} {f : FuncId} {w : World}
  (hm : ∀ w, (method (P.types.size + Made.depth) t v name).run P w = .ok (f, recv) w) (hc : ∀ (args : Array Value) (w : World), (callFunc f args).run P w = .ok (.enter f args) w) {a : Act} (hF : Fr n Γ a) (hr : ev Γ x = some (.iface t v)) (hx : evs Γ args.toList = some vs) :
  (execOp a.eval ⟨dst, .call { callee := .invoke x name, args := args, argTypes := ts }, ty, pos, af, g⟩).run P w = .ok (.enter f (recv :: vs).toArray) w := by
 have h1 : args.map a.eval = vs.toArray := by
  apply Array.ext'
  simp [hF.evals hx]
 have h2 : a.eval x = .iface t v := hF.eval hr
 have hp : (Sem.run P program w) = .ok P w := rfl
 unfold execOp
 simp only [resolve, h1, h2, Sem.run_bind, Sem.run_pure, Result.andThen_ok, invoke]
 have e1 : (#[Value.iface t v] ++ vs.toArray)[0]? = some (.iface t v) := by simp
 have e2 : (#[Value.iface t v] ++ vs.toArray).extract 1 (#[Value.iface t v] ++ vs.toArray).size = vs.toArray := by
  apply Array.ext'
  simp
 simp only [e1, e2, callMethod, Sem.run_bind, hp, Result.andThen_ok, hm]
 have e3 : (#[recv] ++ vs.toArray) = (recv :: vs).toArray := by simp
 rw [e3]
 exact hc _ w
theorem TL.invokeH {x : Operand} {name : String} {args : Array Operand} {ts : Array TypeId} {vs : List Value} {t : TypeId} {v recv : Value} {f : FuncId} {R : Value → List Asn → Prop}
  (hm : ∀ w, (method (P.types.size + Made.depth) t v name).run P w = .ok (f, recv) w) (hcall : ∀ (args : Array Value) (w : World), (callFunc f args).run P w = .ok (.enter f args) w)
  (hg : gd ops Γ ⟨some d, .call { callee := .invoke x name, args := args, argTypes := ts }, ty, pos, af, g⟩ = some true) (hn : Nat.blt d n = true) (hr : ev Γ x = some (.iface t v)) (hx : evs Γ args.toList = some vs)
  (hc : ∀ w, St w0 I L w → Calls P f (recv :: vs).toArray w (Ret w R))
  (k : ∀ u L', R u L' → TL P w0 n I ((d, u) :: Γ) (L' ++ L) ops os cs m D) :
  TL P w0 n I Γ L ops (⟨some d, .call { callee := .invoke x name, args := args, argTypes := ts }, ty, pos, af, g⟩ :: os) cs m D := by
 intro a w hF hS r hr'
 refine TL.core (m := some r) (D := D) hg (fun a w hF hS r' hr' => ?_) a w hF hS r rfl
 obtain rfl := Option.some.inj hr'
 unfold Oper.wp
 rw [run_invoke hm hcall hF hr hx, Oper.upon_enter]
 refine (hc w hS).mono ?_
 rintro e w' ⟨u, L', rfl, hR, hS'⟩
 exact k u L' hR _ _ (hF.put (by simpa using hn)) (hS.call hS') _ ‹_›
end
end Go.Sx
namespace Go.Sx
theorem loopN_mono {σ ρ : Type} {f : σ → Option (LR σ ρ)} : ∀ {k s o}, loopN f k s = some o → ∀ {k'}, k ≤ k' → loopN f k' s = some o
 | 0, _, _, h, _, _ => by cases h
 | k + 1, s, o, h, k', hk => by
  obtain ⟨j, rfl⟩ : ∃ j, k' = j + 1 := ⟨k' - 1, by omega⟩
  simp only [loopN] at h ⊢
  split at h
  ·cases h
  ·exact loopN_mono h (by omega)
  ·exact h
  exact h
theorem loop_run {σ ρ : Type} {f : σ → Option (LR σ ρ)} (Inv : σ → Prop) (m : σ → Nat) (Q : LO σ ρ → Prop)
  (h : ∀ s, Inv s → (∃ s', f s = some (.next s') ∧ Inv s' ∧ m s' < m s) ∨ (∃ s', f s = some (.brk s') ∧ Q (.brk s')) ∨ (∃ r, f s = some (.ret r) ∧ Q (.ret r)))
  (s : σ) (hs : Inv s) (hm : m s < 4611686018427387904) : ∃ o, loop f s = some o ∧ Q o := by
 have key : ∀ k s, Inv s → m s < k → ∃ o, loopN f k s = some o ∧ Q o := by
  intro k
  induction k with
  | zero => intro s _ h; omega
  | succ k ih =>
   intro s hs hm
   rcases h s hs with ⟨s', h1, h2, h3⟩ | ⟨s', h1, h2⟩ | ⟨r, h1, h2⟩
   ·obtain ⟨o, ho, hq⟩ := ih s' h2 (by omega)
    exact ⟨o, by simp only [loopN, h1]; exact ho, hq⟩
   ·exact ⟨_, by simp only [loopN, h1], h2⟩
   exact ⟨_, by simp only [loopN, h1], h2⟩
 obtain ⟨o, ho, hq⟩ := key (m s + 1) s hs (by omega)
 exact ⟨o, loopN_mono ho (by unfold FUEL; omega), hq⟩
theorem loop1_of {σ : Type} {f : σ → Option (LB σ)} {s s' : σ} (h : loop (ρ := Empty) (fun s => (f s).map LB.lr) s = some (.brk s')) : loop1 f s = some s' := by
 unfold loop1; rw [h]
theorem loop1_run {σ : Type} {f : σ → Option (LB σ)} (Inv : σ → Prop) (m : σ → Nat) (Q : σ → Prop)
  (h : ∀ s, Inv s → (∃ s', f s = some (.next s') ∧ Inv s' ∧ m s' < m s) ∨ (∃ s', f s = some (.brk s') ∧ Q s'))
  (s : σ) (hs : Inv s) (hm : m s < 4611686018427387904) : ∃ o, loop1 f s = some o ∧ Q o := by
 obtain ⟨o, ho, hq⟩ := loop_run (ρ := Empty) (f := fun s => (f s).map LB.lr) Inv m (fun o => match o with | .brk s => Q s | .ret r => nomatch r) (by
  intro s hs
  rcases h s hs with ⟨s', h1, h2, h3⟩ | ⟨s', h1, h2⟩
  ·exact .inl ⟨s', by rw [h1]; rfl, h2, h3⟩
  exact .inr (.inl ⟨s', by rw [h1]; rfl, h2⟩)) s hs hm
 cases o with
 | brk s' => exact ⟨s', loop1_of ho, hq⟩
 | ret r => exact nomatch r
theorem loop_of {σ ρ : Type} {f : σ → Option (LR σ ρ)} {s : σ} {o : LO σ ρ} {k : Nat} (h : loopN f k s = some o) (hk : k ≤ 4611686018427387904) : loop f s = some o :=
 loopN_mono h (by unfold FUEL; omega)
theorem loop_upto {σ ρ : Type} {f : σ → Option (LR σ ρ)} (S : Nat → σ) (n : Nat) (b : σ) (hn : n < 4611686018427387904) (step : ∀ i, i < n → f (S i) = some (.next (S (i + 1)))) (fin : f (S n) = some (.brk b)) : loop f (S 0) = some (.brk b) := by
  have key : ∀ d i, i + d = n → loopN f (d + 1) (S i) = some (.brk b) := by
    intro d
    induction d with
    | zero => intro i hi; obtain rfl : i = n := by omega
              simp only [loopN, fin]
    | succ d ih => intro i hi; rw [loopN, step i (by omega)]; exact ih (i + 1) (by omega)
  exact loop_of (key n 0 (by omega)) (by omega)
theorem loop1_upto {σ : Type} {f : σ → Option (LB σ)} (S : Nat → σ) (n : Nat) (b : σ) (hn : n < 4611686018427387904) (step : ∀ i, i < n → f (S i) = some (.next (S (i + 1)))) (fin : f (S n) = some (.brk b)) : loop1 f (S 0) = some b :=
 loop1_of (loop_upto (ρ := Empty) (f := fun s => (f s).map LB.lr) S n b hn (fun i hi => by rw [step i hi]; rfl) (by rw [fin]; rfl))
theorem loop_find {σ ρ : Type} {f : σ → Option (LR σ ρ)} (S : Nat → σ) (n : Nat) (bad : Nat → Bool) (r : Nat → ρ) (b : σ) (hn : n < 4611686018427387904)
    (step : ∀ i, i < n → f (S i) = some (bif bad i then .ret (r i) else .next (S (i + 1)))) (fin : f (S n) = some (.brk b)) :
    loop f (S 0) = some (match (List.range n).find? bad with | some i => .ret (r i) | none => .brk b) := by
  have key : ∀ d i, i + d = n → loopN f (d + 1) (S i) = some (match (List.range' i d).find? bad with | some i => .ret (r i) | none => .brk b) := by
    intro d
    induction d with
    | zero => intro i hi; obtain rfl : i = n := by omega
              simp only [loopN, fin]; rfl
    | succ d ih =>
      intro i hi
      rw [loopN, step i (by omega), List.range'_succ, List.find?_cons]
      cases hb : bad i with
      | true => rfl
      | false => exact ih (i + 1) (by omega)
  rw [List.range_eq_range']
  exact loop_of (key n 0 (by omega)) (by omega)
theorem loop_any {σ ρ : Type} {f : σ → Option (LR σ ρ)} (S : Nat → σ) (n : Nat) (bad : Nat → Bool) (r : ρ) (b : σ) (hn : n < 4611686018427387904)
  (step : ∀ i, i < n → f (S i) = some (bif bad i then .ret r else .next (S (i + 1)))) (fin : f (S n) = some (.brk b)) :
  loop f (S 0) = some (bif (List.range n).any bad then .ret r else .brk b) := by
 rw [loop_find S n bad (fun _ => r) b hn step fin]
 cases hf : (List.range n).find? bad with
 | none =>
  have : (List.range n).any bad = false := by
   rw [List.any_eq_false]; intro x hx; have := List.find?_eq_none.1 hf x hx; simpa using this
  rw [this]; rfl
 | some i =>
  have : (List.range n).any bad = true := List.any_eq_true.2 ⟨i, List.mem_of_find?_eq_some hf, List.find?_some hf⟩
  rw [this]; rfl
theorem w64_in {x : Int} (h : -9223372036854775808 ≤ x ∧ x ≤ 9223372036854775807) : w64 x = x := IntWalk.i64_in x h
theorem w64_succ {i : Nat} (h : i < 4611686018427387904) : w64 ((i : Int) + 1) = ((i + 1 : Nat) : Int) := by rw [w64_in (by omega)]; omega
theorem w64_pred {i : Nat} (h : i < 4611686018427387904) : w64 (((i + 1 : Nat) : Int) - 1) = (i : Int) := by rw [w64_in (by omega)]; omega
theorem chk_in {α : Type} {i : Int} {n : Nat} {k : Option α} (h : 0 ≤ i ∧ i < n) : chk i n k = k := if_pos h
theorem nz_in {α : Type} {b : Int} {k : Option α} (h : b ≠ 0) : nz b k = k := if_neg h
theorem small_in {α : Type} {n : Nat} {k : Option α} (h : n ≤ 1099511627776) : small n k = k := if_pos h
theorem dlt_nat (i n : Nat) : decide ((i : Int) < (n : Int)) = decide (i < n) := by simp
theorem beq_nat (a b : Nat) : ((a : Int) == (b : Int)) = decide (a = b) := by rw [Bool.eq_iff_iff]; simp; omega
theorem beq_nat0 (a : Nat) : ((a : Int) == 0) = decide (a = 0) := by rw [Bool.eq_iff_iff]; simp
theorem bne_nat (a b : Nat) : ((a : Int) != (b : Int)) = !decide (a = b) := by rw [bne, beq_nat]
theorem TC.addEmp {P : Program} {w0 : World} {n : Nat} {I : Hp} {Γ : Gm} {L : List Asn} {cs : List Code} {α : Type} {m : Option α} {D : α → Post} (k : TC P w0 n I Γ (emp :: L) cs m D) : TC P w0 n I Γ L cs m D := fun a w hF hS o ho => k a w hF hS.addEmp o ho
end Go.Sx
namespace Go.Proofs.YtpejnjpckacciaaGreatDoor.G
open Go Go.Sx Go.Proofs
def mixed (f : UInt8 → UInt8) (s : Str) (k : Nat) : Str := (s.take k).map f ++ s.drop k
theorem mixed_length (f : UInt8 → UInt8) (s : Str) (k : Nat) : (mixed f s k).length = s.length := by simp [mixed]; omega
theorem mixed_same {f : UInt8 → UInt8} {s : Str} {k : Nat} (hk : k < s.length) (h : f (gt s (k : Int)) = gt s (k : Int)) : mixed f s (k + 1) = mixed f s k := by
 have e : s[k]? = some (gt s (k : Int)) := by have := gt_spec (ys := s) (i := (k : Int)) ⟨by omega, by omega⟩; simpa using this
 obtain ⟨h1, h2⟩ := List.getElem?_eq_some_iff.1 e
 unfold mixed
 rw [List.take_add_one, e, List.map_append]
 rw [show s.drop k = s[k] :: s.drop (k + 1) from List.drop_eq_getElem_cons hk, h2]
 simp [h]
theorem mixed_put {f : UInt8 → UInt8} {s : Str} {k : Nat} (hk : k < s.length) : (mixed f s k).set k (f (gt s (k : Int))) = mixed f s (k + 1) := by
 have e : s[k]? = some (gt s (k : Int)) := by have := gt_spec (ys := s) (i := (k : Int)) ⟨by omega, by omega⟩; simpa using this
 unfold mixed
 have hl : ((s.take k).map f).length = k := by simp; omega
 rw [List.take_add_one, e, List.map_append, List.set_append_right _ _ (by omega), hl, Nat.sub_self]
 have hd : s.drop k = s[k] :: s.drop (k + 1) := List.drop_eq_getElem_cons hk
 rw [hd, List.set_cons_zero, List.append_assoc]
 rfl
theorem mixed_end (f : UInt8 → UInt8) (s : Str) : mixed f s s.length = s.map f := by simp [mixed]
def bufV (o : Option (Nat × Nat)) (n : Nat) : SV := match o with
  | none => ⟨none, 0, 0⟩
  | some q => bsv q.1 q.2 n
def bufP (o : Option (Nat × Nat)) (ys : Str) : Asn := match o with
  | none => emp
  | some q => brow q.1 q.2 ys
def bufF (o : Option (Nat × Nat)) (f : UInt8 → UInt8) (s : Str) (k : Nat) : Prop := k ≤ s.length ∧ (o = none → mixed f s k = s)
def replM (f : UInt8 → UInt8) (s : Str) : Option Str := (loop1 (up1 s.length) 0).bind fun _ => some (s.map f)
def strR (r : Str) (v : Value) (L : List Asn) : Prop := v = strv r ∧ L = []
theorem repl_calls (w : World) (rb : Nat) (t : Nat → UInt8) (s : Str) (hAt : At (hp w) rb [.arr 256 (enf u8v t)]) (hs : s.length ≤ 1000000) :
  ∀ r, replM (fun c => t c.toNat) s = some r → Calls Tryz.prog 183 #[bp rb 0, strv s] w (Ret w (strR r)) := by
 generalize hf : (fun c : UInt8 => t c.toNat) = f
 have hft : ∀ c : UInt8, t c.toNat = f c := fun c => by rw [← hf]
 refine calls_T (n := 41) (Γ := [(0, bp rb 0), (1, strv s)]) (R := strR) Tryz.func183 rfl rfl (Nat.le_of_ble_eq_true rfl) ⟨rfl, rfl, trivial⟩ ?_
 unfold replM
 (repeat refine TC.seq ?_)
 refine TC.region <| TL.as (strv []) <| TL.done ?_
 (repeat refine TC.seq ?_)
 refine TC.region <| TL.as (SV.v ⟨none, 0, 0⟩) <| TL.done ?_
 (repeat refine TC.seq ?_)
 refine TC.region <| TL.as (.int .i64 0) <| TL.done ?_
 refine TC.addEmp ?_
 refine TC.addFact (φ := bufF none f s 0) ⟨Nat.zero_le _, fun _ => by simp [mixed]⟩ ?_
 refine TC.loop1 (σ := Nat) (γ := Option (Nat × Nat)) (Γ' := fun k o => [(0, bp rb 0), (1, strv s), (5, SV.v (bufV o s.length)), (6, .int .i64 (k : Int))]) (L' := fun k o => [bufP o (mixed f s k), fact (bufF o f s k)]) (Γb := fun k o => [(1, strv s), (5, SV.v (bufV o s.length))]) (Lb := fun _ o => [bufP o (s.map f), fact (bufF o f s s.length)]) 0 none ⟨rfl, rfl, rfl, rfl, trivial⟩ [1, 0] rfl ?_ ?_
 ·rintro k o
  refine TC.factOf 1 rfl fun hfa => ?_
  obtain ⟨hkn, hno⟩ := hfa
  unfold up1
  (repeat refine TC.seq ?_)
  refine TC.region <| TL.mv (.int .i64 (k : Int)) <| TL.mv (strv s) <| TL.lenstr Tryz.underlying9 rfl rfl rfl <| TL.bn .i64 (k : Int) s.length (.bool (decide ((k : Int) < (s.length : Nat)))) <| TL.done ?_
  (repeat refine TC.seq ?_)
  refine TC.cond (b := decide ((k : Int) < (s.length : Nat))) rfl (fun c1 => ?_) (fun c2 => ?_)
  ·refine TC.skip ?_
   have hk : k < s.length := by have := of_decide_eq_true c1; omega
   have hki : 0 ≤ (k : Int) ∧ (k : Int) < s.length := ⟨by omega, by omega⟩
   have hw : w64 ((k : Int) + 1) = ((k + 1 : Nat) : Int) := by rw [show w64 ((k : Int) + 1) = (k : Int) + 1 from IntWalk.i64_in _ (by omega)]; omega
   generalize hc : gt s (k : Int) = c
   (repeat refine TC.seq ?_)
   refine TC.block (NoEx.loop1 rfl) ?_
   (repeat refine TC.seq ?_)
   refine TC.region <| TL.mv (strv s) <| TL.mv (.int .i64 (k : Int)) <| TL.ixstr (k : Int) hki Tryz.underlying9 rfl rfl rfl rfl <| TL.as (u8v (gt s (k : Int))) <| TL.done ?_
   rw [hc]
   have h256 : c.toNat < 256 := c.toNat_lt
   by_cases hne : f c = c
   ·(repeat refine TC.seq ?_)
    refine TC.region <| TL.mv (bp rb 0) <| TL.mv (u8v c) ?_
    refine TL.nilCheck rfl rfl rfl ?_
    refine TL.ixa (c.toNat : Int) c.toNat ⟨by omega, by omega⟩ Tryz.underlying171 Tryz.sizeOf5 rfl rfl rfl rfl (by omega) <| TL.loadA c.toNat 0 (Src.at hAt) Tryz.isAgg5 rfl h256 (v := u8v (f c)) (by show u8v (t c.toNat) = _; rw [hft]) (st := 0) rfl (by omega) rfl rfl rfl <| TL.mv (u8v c) <| TL.bin .u8 ((f c).toNat : Int) (c.toNat : Int) rfl rfl rfl rfl (v := .bool false) (by show some (Value.bool (((f c).toNat : Int) != (c.toNat : Int))) = _; rw [hne]; simp) <| TL.done ?_
    (repeat refine TC.seq ?_)
    refine TC.cond_false rfl ?_
    refine TC.skip ?_
    (repeat refine TC.seq ?_)
    refine TC.region <| TL.mv (.int .i64 (k : Int)) <| TL.bn .i64 (k : Int) 1 (.int .i64 (w64 ((k : Int) + 1))) <| TL.as (.int .i64 (w64 ((k : Int) + 1))) <| TL.done ?_
    rw [hw]
    have hmx : mixed f s (k + 1) = mixed f s k := mixed_same hk (by rw [hc]; exact hne)
    refine TC.addFact (φ := bufF o f s (k + 1)) ⟨by omega, fun h => by rw [hmx]; exact hno h⟩ ?_
    rw [← hmx]
    exact TC.next1 (k + 1) o ⟨rfl, rfl, rfl, rfl, trivial⟩ [1, 0] rfl
   have hnb : ((f c).toNat : Int) ≠ (c.toNat : Int) := fun h => hne (UInt8.toNat_inj.1 (by omega))
   (repeat refine TC.seq ?_)
   refine TC.region <| TL.mv (bp rb 0) <| TL.mv (u8v c) ?_
   refine TL.nilCheck rfl rfl rfl ?_
   refine TL.ixa (c.toNat : Int) c.toNat ⟨by omega, by omega⟩ Tryz.underlying171 Tryz.sizeOf5 rfl rfl rfl rfl (by omega) <| TL.loadA c.toNat 0 (Src.at hAt) Tryz.isAgg5 rfl h256 (v := u8v (f c)) (by show u8v (t c.toNat) = _; rw [hft]) (st := 0) rfl (by omega) rfl rfl rfl <| TL.mv (u8v c) <| TL.bin .u8 ((f c).toNat : Int) (c.toNat : Int) rfl rfl rfl rfl (v := .bool true) (by show some (Value.bool (((f c).toNat : Int) != (c.toNat : Int))) = _; rw [bne_iff_ne.2 hnb]) <| TL.done ?_
   (repeat refine TC.seq ?_)
   refine TC.cond_true rfl ?_
   cases o with
   | none =>
    (repeat refine TC.seq ?_)
    refine TC.region <| TL.mv (SV.v ⟨none, 0, 0⟩) ?_
    refine TL.isNil ⟨none, 0, 0⟩ Tryz.underlying22 rfl rfl rfl rfl ?_
    refine TL.done ?_
    (repeat refine TC.seq ?_)
    refine TC.cond_true rfl ?_
    (repeat refine TC.seq ?_)
    refine TC.region <| TL.mv (strv s) ?_
    refine TL.s2b (by simp only [maxLen]; omega) Tryz.underlying9 Tryz.underlying22 Tryz.underlying5 rfl rfl rfl fun g cap => ?_
    refine TL.as (SV.v (bsv g cap s.length)) <| TL.done ?_
    (repeat refine TC.seq ?_)
    refine TC.region <| TL.mv (SV.v (bsv g cap s.length)) <| TL.mv (.int .i64 (k : Int)) <| TL.mv (bp rb 0) <| TL.mv (u8v c) ?_
    refine TL.nilCheck rfl rfl rfl ?_
    refine TL.ixa (c.toNat : Int) c.toNat ⟨by omega, by omega⟩ Tryz.underlying171 Tryz.sizeOf5 rfl rfl rfl rfl (by omega) <| TL.loadA c.toNat 0 (Src.at hAt) Tryz.isAgg5 rfl h256 (v := u8v (f c)) (by show u8v (t c.toNat) = _; rw [hft]) (st := 0) rfl (by omega) rfl rfl rfl <| TL.ixs (k : Int) k (Rd.brow rfl 0 rfl) hki Tryz.underlying22 Tryz.sizeOf5 rfl rfl rfl rfl (by omega) ?_
    refine TL.stB (nn := s.length) rfl 0 k (f c) rfl Tryz.sizeOf5 hk rfl rfl rfl ?_
    refine TL.done ?_
    (repeat refine TC.seq ?_)
    refine TC.region <| TL.mv (.int .i64 (k : Int)) <| TL.bn .i64 (k : Int) 1 (.int .i64 (w64 ((k : Int) + 1))) <| TL.as (.int .i64 (w64 ((k : Int) + 1))) <| TL.done ?_
    rw [hw]
    have hmx : s.set k (f c) = mixed f s (k + 1) := by rw [← mixed_put hk, hno rfl, hc]
    refine TC.addFact (φ := bufF (some (g, cap)) f s (k + 1)) ⟨by omega, fun h => by cases h⟩ ?_
    refine TC.sel [1, 0] rfl ?_
    refine TC.asL [bufP (some (g, cap)) (mixed f s (k + 1)), fact (bufF (some (g, cap)) f s (k + 1))] (by rw [← hmx]; rfl) ?_
    exact TC.next1 (k + 1) (some (g, cap)) ⟨rfl, rfl, rfl, rfl, trivial⟩ [0, 0] rfl
   | some q =>
    obtain ⟨g, cap⟩ := q
    (repeat refine TC.seq ?_)
    refine TC.region <| TL.mv (SV.v (bsv g cap s.length)) ?_
    refine TL.isNil (bsv g cap s.length) Tryz.underlying22 rfl rfl rfl rfl ?_
    refine TL.done ?_
    (repeat refine TC.seq ?_)
    refine TC.cond_false rfl ?_
    refine TC.skip ?_
    (repeat refine TC.seq ?_)
    refine TC.region <| TL.mv (SV.v (bsv g cap s.length)) <| TL.mv (.int .i64 (k : Int)) <| TL.mv (bp rb 0) <| TL.mv (u8v c) ?_
    refine TL.nilCheck rfl rfl rfl ?_
    refine TL.ixa (c.toNat : Int) c.toNat ⟨by omega, by omega⟩ Tryz.underlying171 Tryz.sizeOf5 rfl rfl rfl rfl (by omega) <| TL.loadA c.toNat 0 (Src.at hAt) Tryz.isAgg5 rfl h256 (v := u8v (f c)) (by show u8v (t c.toNat) = _; rw [hft]) (st := 0) rfl (by omega) rfl rfl rfl <| TL.ixs (k : Int) k (Rd.brow (mixed_length f s k) 0 rfl) (by rw [(mixed_length f s k)]; exact hki) Tryz.underlying22 Tryz.sizeOf5 rfl rfl rfl rfl (by omega) ?_
    refine TL.stB (nn := s.length) (mixed_length f s k) 0 k (f c) rfl Tryz.sizeOf5 (by rw [(mixed_length f s k)]; exact hk) rfl rfl rfl ?_
    refine TL.done ?_
    (repeat refine TC.seq ?_)
    refine TC.region <| TL.mv (.int .i64 (k : Int)) <| TL.bn .i64 (k : Int) 1 (.int .i64 (w64 ((k : Int) + 1))) <| TL.as (.int .i64 (w64 ((k : Int) + 1))) <| TL.done ?_
    rw [hw]
    have hmx : (mixed f s k).set k (f c) = mixed f s (k + 1) := by rw [← mixed_put hk, hc]
    refine TC.addFact (φ := bufF (some (g, cap)) f s (k + 1)) ⟨by omega, fun h => by cases h⟩ ?_
    refine TC.sel [1, 0] rfl ?_
    refine TC.asL [bufP (some (g, cap)) (mixed f s (k + 1)), fact (bufF (some (g, cap)) f s (k + 1))] (by rw [← hmx]; rfl) ?_
    exact TC.next1 (k + 1) (some (g, cap)) ⟨rfl, rfl, rfl, rfl, trivial⟩ [0, 0] rfl
  have hk : k = s.length := by have := of_decide_eq_false c2; omega
  subst hk
  refine TC.asL [bufP o (s.map f), fact (bufF o f s s.length)] (by rw [← mixed_end]) ?_
  exact TC.brk1 s.length o ⟨rfl, rfl, trivial⟩ [0, 0] rfl
 rintro k o
 refine TC.factOf 1 rfl fun hfa => ?_
 obtain ⟨hkn, hno⟩ := hfa
 cases o with
 | none =>
  (repeat refine TC.seq ?_)
  refine TC.region <| TL.mv (SV.v ⟨none, 0, 0⟩) ?_
  refine TL.isNil ⟨none, 0, 0⟩ Tryz.underlying22 rfl rfl rfl rfl ?_
  refine TL.done ?_
  (repeat refine TC.seq ?_)
  refine TC.cond_true rfl ?_
  (repeat refine TC.seq ?_)
  refine TC.region <| TL.mv (strv s) <| TL.as (strv s) <| TL.done ?_
  have hm : s.map f = s := (mixed_end f s).symm.trans (hno rfl)
  rw [hm]
  exact TC.retF (Fin.body (fin1 (.inr rfl) rfl (.tmp rfl) [] rfl ⟨rfl, rfl⟩))
 | some q =>
  obtain ⟨g, cap⟩ := q
  (repeat refine TC.seq ?_)
  refine TC.region <| TL.mv (SV.v (bsv g cap s.length)) ?_
  refine TL.isNil (bsv g cap s.length) Tryz.underlying22 rfl rfl rfl rfl ?_
  refine TL.done ?_
  (repeat refine TC.seq ?_)
  refine TC.cond_false rfl ?_
  refine TC.skip ?_
  (repeat refine TC.seq ?_)
  refine TC.region <| TL.mv (SV.v (bsv g cap s.length)) ?_
  refine TL.b2s (Rd.brow (by simp) 0 rfl) Tryz.underlying22 Tryz.underlying5 Tryz.underlying9 rfl rfl rfl ?_
  exact TL.as (strv (s.map f)) <| TL.done <| TC.retF (Fin.body (fin1 (.inr rfl) rfl (.tmp rfl) [] rfl ⟨rfl, rfl⟩))
theorem up1_all {n : Nat} (hn : n < 4611686018427387904) : loop1 (up1 n) 0 = some n :=
 loop1_upto (fun k => k) n n hn (fun i hi => by unfold up1; rw [decide_eq_true (by omega)]; rfl) (by unfold up1; rw [decide_eq_false (by omega)]; rfl)
theorem up2_all : loop1 (up2 8) 0 = some 4 :=
 loop1_upto (fun k => k) 4 4 (by decide) (fun i hi => by unfold up2; rw [decide_eq_true (by omega)]; rfl) (by unfold up2; rw [decide_eq_false (by omega)]; rfl)
theorem dn2_all : loop1 dn2 0 = some 4 :=
 loop1_upto (fun k => k) 4 4 (by decide) (fun i hi => by unfold dn2; rw [decide_eq_true (by omega)]; rfl) (by unfold dn2; rw [decide_eq_false (by omega)]; rfl)
theorem buildM_eq : buildM = some () := by unfold buildM; rw [up2_all, up1_all (by decide), dn2_all]; rfl
theorem replM_eq (f : UInt8 → UInt8) {s : Str} (hs : s.length ≤ 1000000) : replM f s = some (s.map f) := by unfold replM; rw [up1_all (by omega)]; rfl
def onceQ (rv ov : Value) (LB : List Asn) : Prop := ∃ (s : SV) (rb : Nat) (t : Nat → UInt8), rv = .iface 172 (bp rb 0) ∧ ov = SV.v ⟨none, 0, 0⟩ ∧ (∀ c : UInt8, t c.toNat = tab 4 c) ∧ LB = [row Es 9 s olds, box rb 171 [.arr 256 (enf u8v t)]]
def onceR (b : Nat) (se : Value) (_ : Unit) (v : Value) (L : List Asn) : Prop := v = .tuple #[] ∧ ∃ rv' ov' LB', onceQ rv' ov' LB' ∧ L = box b 113 (segsR 0 1 se rv' ov') :: LB'
theorem bonce (w0 : World) (I : Hp) (w : World) (b : Nat) (se rv : Value) (s : SV) (hS : St w0 I [box b 113 (segsR 0 1 se rv (SV.v s)), row Es 9 s olds] w) :
  ∀ r, (buildM.bind fun _ => some ()) = some r → Calls Tryz.prog 69 #[bp b 0] w (RetM w0 I (onceR b se r)) := by
 refine calls_TM (w0 := w0) (I := I) (L := [box b 113 (segsR 0 1 se rv (SV.v s)), row Es 9 s olds]) (n := 10) (Γ := [(0, bp b 0)]) (R := onceR b se) Tryz.func69 rfl rfl (Nat.le_of_ble_eq_true rfl) ⟨rfl, trivial⟩ ?_ w hS
 (repeat refine TC.seq ?_)
 refine TC.region <| TL.mv (bp b 0) <| TL.mv (bp b 0) ?_
 refine TL.callX (R := buildR b 0 1 se rv s) [0, 0] [box b 113 (segsR 0 1 se rv (SV.v s)), row Es 9 s olds] [] rfl Tryz.call89 rfl rfl rfl (fun w I_ hle hB hS => build_st _ I_ w b 0 1 se rv s hS) ?_
 rintro _ _ _ ⟨rb, t, rfl, ht, rfl⟩
 refine TL.nilCheck rfl rfl rfl ?_
 refine TL.fa Tryz.underlying113 rfl Tryz.sizeOf111 rfl 3 rfl rfl rfl rfl ?_
 refine TL.st1 0 3 rfl Tryz.sizeOf111 rfl rfl rfl rfl rfl rfl rfl ?_
 refine TL.done ?_
 (repeat refine TC.seq ?_)
 refine TC.region <| TL.mv (bp b 0) ?_
 refine TL.nilCheck rfl rfl rfl ?_
 refine TL.fa Tryz.underlying113 rfl Tryz.sizeOf49 rfl 4 rfl rfl rfl rfl ?_
 refine TL.st1 0 4 (v := SV.v ⟨none, 0, 0⟩) rfl Tryz.sizeOf49 rfl rfl rfl rfl rfl rfl rfl ?_
 refine TL.done ?_
 exact TC.nilF (Fin.body (fin0 (.inl rfl) rfl [0, 0, 0] rfl ⟨rfl, _, _, _, ⟨s, rb, t, rfl, rfl, ht, rfl⟩, rfl⟩))
theorem buildM_eq' : (buildM.bind fun _ => some ()) = some () := by rw [buildM_eq]; rfl
theorem replace_st (w0 : World) (I : Hp) (w : World) (b : Nat) (se rv : Value) (s : SV) (x : Str) (hx : x.length ≤ 1000000) (hS : St w0 I [box b 113 (segsR 0 0 se rv (SV.v s)), row Es 9 s olds] w) :
  ∀ r, some (x.map (tab 4)) = some r → Calls Tryz.prog 40 #[bp b 0, strv x] w (RetM w0 I (strR r)) := by
 refine calls_TM (w0 := w0) (I := I) (L := [box b 113 (segsR 0 0 se rv (SV.v s)), row Es 9 s olds]) (n := 17) (Γ := [(0, bp b 0), (1, strv x)]) (R := strR) Tryz.func40 rfl rfl (Nat.le_of_ble_eq_true rfl) ⟨rfl, rfl, trivial⟩ ?_ w hS
 (repeat refine TC.seq ?_)
 refine TC.region <| TL.as (strv []) <| TL.done ?_
 (repeat refine TC.seq ?_)
 refine TC.region <| TL.mv (bp b 0) ?_
 refine TL.nilCheck rfl rfl rfl ?_
 refine TL.fa Tryz.underlying113 rfl Tryz.sizeOf109 rfl 0 rfl rfl rfl rfl <| TL.mv (bp b 0) ?_
 refine TL.makeFunc (us := [bp b 0]) (vs := []) rfl rfl rfl rfl ?_
 refine TL.callXH (mf := some ()) (r := ()) (R := fun _ v L => v = .tuple #[] ∧ ∃ rv' ov' LB', onceQ rv' ov' LB' ∧ L = box b 113 (segsR 1 0 se rv' ov') :: LB') rfl [0, 0] [box b 113 (segsR 0 0 se rv (SV.v s)), row Es 9 s olds] [] rfl Tryz.call68 rfl rfl rfl
  (fun w I_ hle hB hS r hr => once_st (Q := onceQ) w hS (fun w1 hS1 => bonce _ I_ w1 b se rv s hS1 () buildM_eq')) ?_
 rintro _ _ ⟨rfl, _, _, _, ⟨s', rb, t, rfl, rfl, ht, rfl⟩, rfl⟩
 refine TL.done ?_
 (repeat refine TC.seq ?_)
 refine TC.region <| TL.mv (bp b 0) ?_
 refine TL.nilCheck rfl rfl rfl ?_
 refine TL.fa Tryz.underlying113 rfl Tryz.sizeOf111 rfl 3 rfl rfl rfl rfl <| TL.load1 3 (Src.box 0 rfl) Tryz.isAgg111 rfl rfl rfl rfl rfl <| TL.mv (strv x) ?_
 have hm : ∀ w, (method (Tryz.prog.types.size + Made.depth) 172 (bp rb 0) "Replace").run Tryz.prog w = .ok (183, bp rb 0) w := fun _ => by kernel_rfl
 refine TL.invokeH (t := 172) (v := bp rb 0) (R := strR (x.map (tab 4))) hm Tryz.call183 rfl rfl rfl rfl (fun w hS => ?_) ?_
 ·have hmap : x.map (fun c => t c.toNat) = x.map (tab 4) := List.map_congr_left fun c _ => ht c
  have := repl_calls w rb t x ((Src.box 2 rfl) w hS) hx _ (replM_eq _ hx)
  rw [hmap] at this
  exact this
 rintro _ _ ⟨rfl, rfl⟩
 exact TL.as (strv (x.map (tab 4))) <| TL.done <| TC.retF (Fin.body (fin1 (.inr rfl) rfl (.tmp rfl) [] rfl ⟨rfl, rfl⟩))
def newR (_ : Unit) (v : Value) (L : List Asn) : Prop := ∃ (b : Nat) (s : SV), v = bp b 0 ∧ L = [box b 113 (segsR 0 0 (.int .u32 0) .nilIface (SV.v s)), row Es 9 s olds]
theorem newrep (w : World) (s0 : SV) (h : Reads Es (hp w) s0 olds) : ∀ r, some () = some r → Calls Tryz.prog 39 #[SV.v s0] w (Ret w (newR r)) := by
 refine calls_T (n := 12) (Γ := [(0, SV.v s0)]) (R := newR) Tryz.func39 rfl rfl (Nat.le_of_ble_eq_true rfl) ⟨rfl, trivial⟩ ?_
 (repeat refine TC.seq ?_)
 refine TC.region <| TL.as (.pointer none) <| TL.done ?_
 (repeat refine TC.seq ?_)
 refine TC.region <| TL.mv (SV.v s0) <| TL.len (Rd.old h) Tryz.underlying49 rfl rfl rfl ?_
 refine TL.rem .i64 8 2 (by decide) rfl rfl rfl rfl ?_
 refine TL.bn .i64 (Int.tmod 8 2) 1 (.bool false) <| TL.done ?_
 (repeat refine TC.seq ?_)
 refine TC.cond_false rfl ?_
 refine TC.skip ?_
 (repeat refine TC.seq ?_)
 refine TC.region ?_
 refine TL.nilrow Es 9 ?_
 refine TL.mv (SV.v s0) ?_
 refine TL.append 0 rfl (Rd.old h) Tryz.underlying49 (info_of Tryz.type9) (zv := (Tryz.t9.zero.getD (.bool false))) rfl rfl rfl (by decide) (by decide) rfl rfl rfl rfl fun s1 => ?_
 refine TL.buildS (segs0 := segsR 0 0 (.int .u32 0) .nilIface (SV.v ⟨none, 0, 0⟩)) (segs := segsR 0 0 (.int .u32 0) .nilIface (SV.v s1)) [3, 1, 1] Tryz.underlying113 ⟨Tryz.sizeOf109, Tryz.sizeOf111, Tryz.sizeOf49, trivial⟩ Tryz.zeroValue113 rfl [(2, SV.v s1)] rfl (fun pl hpl => by subst hpl; exact fill_one 4 rfl rfl rfl rfl (rfl)) rfl rfl ?_
 refine TL.box (segsR 0 0 (.int .u32 0) .nilIface (SV.v s1)) rfl rfl rfl rfl fun b => ?_
 exact TL.as (bp b 0) <| TL.done <| TC.retF (Fin.body (fin1 (.inr rfl) rfl (.tmp rfl) [0, 0] rfl ⟨b, s1, rfl, rfl⟩))
theorem join_len {xs : List Str} {sep r : Str} (h : strings_Join.f xs sep = some r) : r.length ≤ 1000000 := by
 unfold strings_Join.f at h
 split at h
 ·rename_i hh
  obtain rfl := Option.some.inj h
  exact hh.2
 cases h
def impl_FlipWord.f (word1 : Str) : Option (Str × Int) := (G.impl_IsWord.f word1).bind (fun r_1 => (bif (!r_1) then some (([] : Str), 1) else (G.impl_layers.f word1).bind (fun r_2 => (G.slices_Reverse_string_string.f r_2).bind (fun list_1 => (G.strings_Join.f list_1 [47]).bind (fun r_j => some (r_j.map (tab 4), 0))))))
def impl_FlipWord.R (r : Str × Int) (v : Value) (L : List Asn) : Prop := v = .tuple #[strv r.1, .int .i64 r.2] ∧ L = []
theorem impl_FlipWord.calls (w : World) (word1 : Str) :
  ∀ r, impl_FlipWord.f word1 = some r → Calls Tryz.prog 15 #[strv word1] w (Ret w (impl_FlipWord.R r)) := by
 refine calls_T (n := 17) (Γ := [(0, strv word1)]) (R := impl_FlipWord.R) Tryz.func15 rfl rfl (Nat.le_of_ble_eq_true rfl) ⟨rfl, trivial⟩ ?_
 unfold impl_FlipWord.f
 refine TC.seq <| TC.region <| TL.as (strv ([] : Str)) <| TL.as (.int .i64 0) <| TL.done <| TC.seq ?_
 refine TC.seq <| TC.region <| TL.mv (strv word1) ?_
 refine TL.call (R := G.impl_IsWord.R) Tryz.call9 rfl rfl rfl (fun w hS => G.impl_IsWord.calls w word1) ?_
 rintro r_1 _ _ ⟨rfl, rfl⟩
 refine TL.not r_1 rfl rfl rfl ?_
 refine TL.done ?_
 refine TC.cond (b := (!r_1)) rfl (fun c1 => ?_) (fun c2 => ?_)
 ·exact TC.seq <| TC.region <| TL.as (strv ([] : Str)) <| TL.as (.int .i64 1) <| TL.done <| TC.retF (Fin.body (fin2 (.inr rfl) rfl (.tmp rfl) (.tmp rfl) [] rfl ⟨rfl, rfl⟩))
 refine TC.skip <| TC.seq <| TC.region <| TL.mv (strv word1) ?_
 refine TL.call (R := G.impl_layers.R) Tryz.call31 rfl rfl rfl (fun w hS => G.impl_layers.calls w word1) ?_
 rintro r_2 _ _ ⟨s1, rfl, rfl⟩
 refine TL.as (SV.v s1) <| TL.done <| TC.seq <| TC.region <| TL.mv (SV.v s1) ?_
 refine TL.callX (R := G.slices_Reverse_string_string.R s1) [0] [row Es 9 s1 r_2] [] rfl Tryz.call38 rfl rfl rfl (fun w I_ hle hB hS => G.slices_Reverse_string_string.calls _ I_ w s1 r_2 hS) ?_
 rintro list_1 _ _ ⟨rfl, rfl⟩
 refine TL.done <| TC.seq ?_
 refine TC.sel [0] rfl ?_
 refine TC.bindE ?_
 rintro r_j hrj
 refine TC.region ?_
 refine TL.blit Es olds Tryz.underlying49 Tryz.sizeOf9 Tryz.zeroValue9 rfl rfl rfl [(0, strv [109]), (1, strv [115]), (2, strv [115]), (3, strv [109]), (4, strv [117]), (5, strv [101]), (6, strv [101]), (7, strv [117])] rfl ⟨rfl, rfl, rfl, rfl, rfl, rfl, rfl, rfl, rfl, rfl, rfl, rfl, rfl, rfl, rfl, rfl, trivial⟩ rfl rfl fun so_ => ?_
 refine TL.callH (R := newR) (mf := some ()) rfl Tryz.call39 rfl rfl rfl (fun w hS => newrep w so_ ((Rd.row 0 rfl) w hS)) ?_
 rintro _ _ ⟨b_, s_, rfl, rfl⟩
 refine TL.mv (SV.v s1) ?_
 refine TL.callH (R := G.strings_Join.R) hrj Tryz.call41 rfl rfl rfl (fun w hS => G.strings_Join.calls w s1 list_1 [47] ((Rd.row 3 rfl) w hS)) ?_
 rintro _ _ ⟨rfl, rfl⟩
 have hlj : r_j.length ≤ 1000000 := join_len hrj
 refine TL.callXH (mf := some (r_j.map (tab 4))) (r := r_j.map (tab 4)) (R := strR) rfl [0, 0, 0, 0] [box b_ 113 (segsR 0 0 (.int .u32 0) .nilIface (SV.v s_)), row Es 9 s_ olds] [row Es 9 so_ olds, row Es 9 s1 list_1] rfl Tryz.call40 rfl rfl rfl (fun w I_ hle hB hS => replace_st _ I_ w b_ (.int .u32 0) .nilIface s_ r_j hlj hS) ?_
 rintro _ _ ⟨rfl, rfl⟩
 exact TL.as (strv (r_j.map (tab 4))) <| TL.as (.int .i64 0) <| TL.done <| TC.retF (Fin.body (fin2 (.inr rfl) rfl (.tmp rfl) (.tmp rfl) [] rfl ⟨rfl, rfl⟩))
def spec_FlipWord.b0 (i1 : Int) (r_2 : List Str) : (List UInt8) × Int → Option (LB ((List UInt8) × Int)) := fun p => match p with | (own1, k_1) => chk i1 r_2.length ((bif (decide (k_1 < ((gt r_2 i1).length : Int))) then chk k_1 ((gt r_2 i1).length) (((bif (((gt (gt r_2 i1) k_1).toNat : Int) == ((109 : UInt8).toNat : Int)) then some (115 : UInt8) else (bif (((gt (gt r_2 i1) k_1).toNat : Int) == ((115 : UInt8).toNat : Int)) then some (109 : UInt8) else (bif (((gt (gt r_2 i1) k_1).toNat : Int) == ((117 : UInt8).toNat : Int)) then some (101 : UInt8) else (bif (((gt (gt r_2 i1) k_1).toNat : Int) == ((101 : UInt8).toNat : Int)) then some (117 : UInt8) else some (gt (gt r_2 i1) k_1)))))).bind (fun letter1 => small (own1.length + ([letter1] : List UInt8).length) (some (.next ((own1 ++ ([letter1] : List UInt8)), (w64 (k_1 + 1))))))) else some (.brk (own1, k_1))))
def spec_FlipWord.b1 (r_2 : List Str) : (List Str) × Int → Option (LB ((List Str) × Int)) := fun p => match p with | (out1, i1) => (bif (decide (i1 ≥ 0)) then (loop1 (spec_FlipWord.b0 i1 r_2) (([] : List UInt8), 0)).bind (fun p => match p with | (own1, k_1) => small (out1.length + ([own1] : List Str).length) (some (.next ((out1 ++ ([own1] : List Str)), (w64 (i1 - 1)))))) else some (.brk (out1, i1)))
def spec_FlipWord.f (word1 : Str) : Option (Str × Int) := (G.spec_l04Is.f word1).bind (fun r_1 => (bif (!r_1) then some (([] : Str), 1) else (G.spec_l01Split.f word1 (47 : UInt8)).bind (fun r_2 => (loop1 (spec_FlipWord.b1 r_2) (([] : List Str), (w64 ((r_2.length : Int) - 1)))).bind (fun p => match p with | (out1, i1) => (G.spec_l04Joined.f out1).bind (fun r_3 => some (r_3, 0))))))
def spec_FlipWord.R (r : Str × Int) (v : Value) (L : List Asn) : Prop := v = .tuple #[strv r.1, .int .i64 r.2] ∧ L = []
theorem spec_FlipWord.calls (w : World) (word1 : Str) :
  ∀ r, spec_FlipWord.f word1 = some r → Calls Tryz.prog 16 #[strv word1] w (Ret w (spec_FlipWord.R r)) := by
 refine calls_T (n := 59) (Γ := [(0, strv word1)]) (R := spec_FlipWord.R) Tryz.func16 rfl rfl (Nat.le_of_ble_eq_true rfl) ⟨rfl, trivial⟩ ?_
 unfold spec_FlipWord.f
 refine TC.seq <| TC.region <| TL.as (strv ([] : Str)) <| TL.as (.int .i64 0) <| TL.done <| TC.seq ?_
 refine TC.seq <| TC.region <| TL.mv (strv word1) ?_
 refine TL.call (R := G.spec_l04Is.R) Tryz.call29 rfl rfl rfl (fun w hS => G.spec_l04Is.calls w word1) ?_
 rintro r_1 _ _ ⟨rfl, rfl⟩
 refine TL.not r_1 rfl rfl rfl ?_
 refine TL.done ?_
 refine TC.cond (b := (!r_1)) rfl (fun c1 => ?_) (fun c2 => ?_)
 ·exact TC.seq <| TC.region <| TL.as (strv ([] : Str)) <| TL.as (.int .i64 1) <| TL.done <| TC.retF (Fin.body (fin2 (.inr rfl) rfl (.tmp rfl) (.tmp rfl) [] rfl ⟨rfl, rfl⟩))
 refine TC.skip <| TC.seq <| TC.region <| TL.mv (strv word1) ?_
 refine TL.call (R := G.spec_l01Split.R) Tryz.call42 rfl rfl rfl (fun w hS => G.spec_l01Split.calls w word1 (47 : UInt8)) ?_
 rintro r_2 _ _ ⟨s1, rfl, rfl⟩
 refine TL.bslice0 Es Tryz.underlying49 Tryz.sizeOf9 rfl rfl fun s2 => ?_
 refine TL.as (SV.v s1) <| TL.as (SV.v s2) <| TL.done <| TC.seq <| TC.seq <| TC.region ?_
 refine TL.mv (SV.v s1) <| TL.len (Rd.row 1 rfl) Tryz.underlying49 rfl rfl rfl <| TL.bn .i64 (r_2.length : Int) 1 (.int .i64 (w64 ((r_2.length : Int) - 1))) <| TL.as (.int .i64 (w64 ((r_2.length : Int) - 1))) <| TL.done ?_
 refine TC.loop1 (σ := (List Str) × Int) (γ := SV) (Γ' := (fun p q => match p, q with | (out1, i1), s3 => [(4, SV.v s1), (5, SV.v s3), (6, .int .i64 i1)])) (L' := (fun p q => match p, q with | (out1, i1), s3 => [row Es 9 s1 r_2, row Es 9 s3 out1])) (Γb := (fun p q => match p, q with | (out1, i1), s3 => [(4, SV.v s1), (5, SV.v s3), (6, .int .i64 i1)])) (Lb := (fun p q => match p, q with | (out1, i1), s3 => [row Es 9 s1 r_2, row Es 9 s3 out1])) ((([] : List Str), (w64 ((r_2.length : Int) - 1)))) (s2) ⟨rfl, rfl, rfl, trivial⟩ [1, 0] rfl ?_ ?_
 ·rintro ⟨out1, i1⟩ s3
  refine TC.seq <| TC.seq <| TC.region <| TL.mv (.int .i64 i1) <| TL.bn .i64 i1 0 (.bool (decide (i1 ≥ 0))) <| TL.done ?_
  refine TC.cond (b := (decide (i1 ≥ 0))) rfl (fun c3 => ?_) (fun c4 => ?_)
  ·refine TC.skip <| TC.seq <| TC.block (NoEx.loop1 rfl) <| TC.seq <| TC.region ?_
   refine TL.bslice0 Eu Tryz.underlying22 Tryz.sizeOf5 rfl rfl fun s4 => ?_
   refine TL.as (SV.v s4) <| TL.done <| TC.seq <| TC.seq <| TC.region <| TL.as (.int .i64 0) ?_
   refine TL.done ?_
   refine TC.loop1 (σ := (List UInt8) × Int) (γ := SV) (Γ' := (fun p q => match p, q with | (own1, k_1), s5 => [(4, SV.v s1), (5, SV.v s3), (6, .int .i64 i1), (7, SV.v s5), (8, .int .i64 k_1)])) (L' := (fun p q => match p, q with | (own1, k_1), s5 => [row Es 9 s1 r_2, row Es 9 s3 out1, row Eu 5 s5 own1])) (Γb := (fun p q => match p, q with | (own1, k_1), s5 => [(4, SV.v s1), (5, SV.v s3), (6, .int .i64 i1), (7, SV.v s5), (8, .int .i64 k_1)])) (Lb := (fun p q => match p, q with | (own1, k_1), s5 => [row Es 9 s1 r_2, row Es 9 s3 out1, row Eu 5 s5 own1])) ((([] : List UInt8), 0)) (s4) ⟨rfl, rfl, rfl, rfl, rfl, trivial⟩ [1, 1, 0] rfl ?_ ?_
   ·rintro ⟨own1, k_1⟩ s5
    refine TC.seq <| TC.seq <| TC.region <| TL.mv (.int .i64 k_1) <| TL.mv (SV.v s1) <| TL.mv (.int .i64 i1) ?_
    refine TL.chk fun h1 => ?_
    refine TL.ixs i1 i1.toNat (Rd.row 0 rfl) h1 Tryz.underlying49 Tryz.sizeOf9 rfl rfl rfl rfl (by omega) ?_
    refine TL.loadE (Rd.row 0 rfl) Tryz.isAgg9 i1.toNat 0 (gt_spec h1) (v := strv (gt r_2 i1)) rfl (by simp only [show Es.sz = 1 from rfl] <;> omega) rfl rfl rfl ?_
    refine TL.lenstr Tryz.underlying9 rfl rfl rfl <| TL.bn .i64 k_1 ((gt r_2 i1).length : Int) (.bool (decide (k_1 < ((gt r_2 i1).length : Int)))) <| TL.done ?_
    refine TC.cond (b := (decide (k_1 < ((gt r_2 i1).length : Int)))) rfl (fun c5 => ?_) (fun c6 => ?_)
    ·refine TC.skip <| TC.seq <| TC.block (NoEx.loop1 rfl) <| TC.seq <| TC.region <| TL.mv (SV.v s1) ?_
     refine TL.mv (.int .i64 i1) <| TL.ixs i1 i1.toNat (Rd.row 0 rfl) h1 Tryz.underlying49 Tryz.sizeOf9 rfl rfl rfl rfl (by omega) ?_
     refine TL.loadE (Rd.row 0 rfl) Tryz.isAgg9 i1.toNat 0 (gt_spec h1) (v := strv (gt r_2 i1)) rfl (by simp only [show Es.sz = 1 from rfl] <;> omega) rfl rfl rfl ?_
     refine TL.mv (.int .i64 k_1) ?_
     refine TL.chk fun h2 => ?_
     refine TL.ixstr k_1 h2 Tryz.underlying9 rfl rfl rfl rfl <| TL.as (u8v (gt (gt r_2 i1) k_1)) <| TL.done <| TC.seq <| TC.seq <| TC.region ?_
     refine TL.mv (u8v (gt (gt r_2 i1) k_1)) <| TL.done <| TC.block (NoEx.loop1 rfl) <| TC.seq <| TC.region <| TL.bn .u8 ((gt (gt r_2 i1) k_1).toNat : Int) ((109 : UInt8).toNat : Int) (.bool (((gt (gt r_2 i1) k_1).toNat : Int) == ((109 : UInt8).toNat : Int))) ?_
     refine TL.as (.bool (((gt (gt r_2 i1) k_1).toNat : Int) == ((109 : UInt8).toNat : Int))) <| TL.done ?_
     refine TC.join1 (σ := UInt8) (γ := Unit) (Γ' := (fun letter1 _ => [(4, SV.v s1), (5, SV.v s3), (6, .int .i64 i1), (7, SV.v s5), (8, .int .i64 k_1), (9, u8v letter1)])) (L' := (fun letter1 _ => [row Es 9 s1 r_2, row Es 9 s3 out1, row Eu 5 s5 own1])) ?_ ?_
     ·refine TC.cond (b := (((gt (gt r_2 i1) k_1).toNat : Int) == ((109 : UInt8).toNat : Int))) rfl (fun c7 => ?_) (fun c8 => ?_)
      ·exact TC.region <| TL.as (u8v (115 : UInt8)) <| TL.done <| TC.nrm ((115 : UInt8)) (()) ⟨rfl, rfl, rfl, rfl, rfl, rfl, trivial⟩ [0, 0, 0] rfl
      refine TC.seq <| TC.region <| TL.bn .u8 ((gt (gt r_2 i1) k_1).toNat : Int) ((115 : UInt8).toNat : Int) (.bool (((gt (gt r_2 i1) k_1).toNat : Int) == ((115 : UInt8).toNat : Int))) <| TL.as (.bool (((gt (gt r_2 i1) k_1).toNat : Int) == ((115 : UInt8).toNat : Int))) <| TL.done ?_
      refine TC.cond (b := (((gt (gt r_2 i1) k_1).toNat : Int) == ((115 : UInt8).toNat : Int))) rfl (fun c9 => ?_) (fun c10 => ?_)
      ·exact TC.region <| TL.as (u8v (109 : UInt8)) <| TL.done <| TC.nrm ((109 : UInt8)) (()) ⟨rfl, rfl, rfl, rfl, rfl, rfl, trivial⟩ [0, 0, 0] rfl
      refine TC.seq <| TC.region <| TL.bn .u8 ((gt (gt r_2 i1) k_1).toNat : Int) ((117 : UInt8).toNat : Int) (.bool (((gt (gt r_2 i1) k_1).toNat : Int) == ((117 : UInt8).toNat : Int))) <| TL.as (.bool (((gt (gt r_2 i1) k_1).toNat : Int) == ((117 : UInt8).toNat : Int))) <| TL.done ?_
      refine TC.cond (b := (((gt (gt r_2 i1) k_1).toNat : Int) == ((117 : UInt8).toNat : Int))) rfl (fun c11 => ?_) (fun c12 => ?_)
      ·exact TC.region <| TL.as (u8v (101 : UInt8)) <| TL.done <| TC.nrm ((101 : UInt8)) (()) ⟨rfl, rfl, rfl, rfl, rfl, rfl, trivial⟩ [0, 0, 0] rfl
      refine TC.seq <| TC.region <| TL.bn .u8 ((gt (gt r_2 i1) k_1).toNat : Int) ((101 : UInt8).toNat : Int) (.bool (((gt (gt r_2 i1) k_1).toNat : Int) == ((101 : UInt8).toNat : Int))) <| TL.as (.bool (((gt (gt r_2 i1) k_1).toNat : Int) == ((101 : UInt8).toNat : Int))) <| TL.done ?_
      refine TC.cond (b := (((gt (gt r_2 i1) k_1).toNat : Int) == ((101 : UInt8).toNat : Int))) rfl (fun c13 => ?_) (fun c14 => ?_)
      ·exact TC.region <| TL.as (u8v (117 : UInt8)) <| TL.done <| TC.nrm ((117 : UInt8)) (()) ⟨rfl, rfl, rfl, rfl, rfl, rfl, trivial⟩ [0, 0, 0] rfl
      exact TC.skip <| TC.nrm ((gt (gt r_2 i1) k_1)) (()) ⟨rfl, rfl, rfl, rfl, rfl, rfl, trivial⟩ [0, 0, 0] rfl
     rintro letter1 _
     refine TC.region <| TL.mv (SV.v s5) <| TL.mv (u8v letter1) ?_
     refine TL.blit Eu ([letter1] : List UInt8) Tryz.underlying22 Tryz.sizeOf5 Tryz.zeroValue5 rfl rfl rfl [(0, u8v letter1)] rfl ⟨rfl, rfl, trivial⟩ rfl rfl fun s6 => ?_
     refine TL.small fun h3 => ?_
     refine TL.append 3 rfl (Rd.row 0 rfl) Tryz.underlying22 (info_of Tryz.type5) (zv := (Tryz.t5.zero.getD (.bool false))) rfl rfl rfl (by decide) h3 rfl rfl rfl rfl fun s7 => ?_
     refine TL.as (SV.v s7) <| TL.done <| TC.region <| TL.mv (.int .i64 k_1) <| TL.bn .i64 k_1 1 (.int .i64 (w64 (k_1 + 1))) <| TL.as (.int .i64 (w64 (k_1 + 1))) ?_
     refine TL.done ?_
     exact TC.next1 (((own1 ++ ([letter1] : List UInt8)), (w64 (k_1 + 1)))) (s7) ⟨rfl, rfl, rfl, rfl, rfl, trivial⟩ [1, 1, 1] rfl
    exact TC.brk1 ((own1, k_1)) (s5) ⟨rfl, rfl, rfl, rfl, rfl, trivial⟩ [0, 0, 0] rfl
   rintro ⟨own1, k_1⟩ s5
   refine TC.region <| TL.mv (SV.v s3) <| TL.mv (SV.v s5) ?_
   refine TL.b2s (Rd.row 2 rfl) Tryz.underlying22 Tryz.underlying5 Tryz.underlying9 rfl rfl rfl ?_
   refine TL.blit Es ([own1] : List Str) Tryz.underlying49 Tryz.sizeOf9 Tryz.zeroValue9 rfl rfl rfl [(0, strv own1)] rfl ⟨rfl, rfl, trivial⟩ rfl rfl fun s8 => ?_
   refine TL.small fun h4 => ?_
   refine TL.append 2 rfl (Rd.row 0 rfl) Tryz.underlying49 (info_of Tryz.type9) (zv := (Tryz.t9.zero.getD (.bool false))) rfl rfl rfl (by decide) h4 rfl rfl rfl rfl fun s9 => ?_
   refine TL.as (SV.v s9) <| TL.done <| TC.region <| TL.mv (.int .i64 i1) <| TL.bn .i64 i1 1 (.int .i64 (w64 (i1 - 1))) <| TL.as (.int .i64 (w64 (i1 - 1))) ?_
   refine TL.done ?_
   exact TC.next1 (((out1 ++ ([own1] : List Str)), (w64 (i1 - 1)))) (s9) ⟨rfl, rfl, rfl, trivial⟩ [1, 1] rfl
  exact TC.brk1 ((out1, i1)) (s3) ⟨rfl, rfl, rfl, trivial⟩ [0, 0] rfl
 rintro ⟨out1, i1⟩ s3
 refine TC.seq <| TC.region <| TL.mv (SV.v s3) ?_
 refine TL.call (R := G.spec_l04Joined.R) Tryz.call43 rfl rfl rfl (fun w hS => G.spec_l04Joined.calls w s3 out1 ((Rd.row 1 rfl) w hS)) ?_
 rintro r_3 _ _ ⟨rfl, rfl⟩
 exact TL.as (strv r_3) <| TL.as (.int .i64 0) <| TL.done <| TC.retF (Fin.body (fin2 (.inr rfl) rfl (.tmp rfl) (.tmp rfl) [] rfl ⟨rfl, rfl⟩))
def signs : Str := [105, 120, 109, 115, 117, 101]
def impl_counts.b0 (word1 : Str) : List Int × Nat → Option (LB (List Int × Nat)) := fun p => match p with | (out1, q) => (bif (decide (q < 6)) then (G.strings_Count.f word1 ((signs.drop q).take (q + 1 - q))).bind (fun r => small (out1.length + ([r] : List Int).length) (some (.next (out1 ++ ([r] : List Int), q + 1)))) else some (.brk (out1, q)))
def impl_counts.f (word1 : Str) : Option (List Int) := (loop1 (impl_counts.b0 word1) (([] : List Int), 0)).bind (fun p => match p with | (out1, q) => some out1)
def impl_counts.R (r : List Int) (v : Value) (L : List Asn) : Prop := ∃ (s0 : SV), v = SV.v s0 ∧ L = [row Ei 2 s0 r]
theorem signs_decode : ∀ q, q < 6 → ∃ c, Utf8.decode ⟨signs.toArray⟩ q = (c, 1) := by
 intro q hq
 have : q = 0 ∨ q = 1 ∨ q = 2 ∨ q = 3 ∨ q = 4 ∨ q = 5 := by omega
 rcases this with rfl | rfl | rfl | rfl | rfl | rfl <;> exact ⟨_, rfl⟩
theorem impl_counts.calls (w : World) (word1 : Str) :
  ∀ r, impl_counts.f word1 = some r → Calls Tryz.prog 44 #[strv word1] w (Ret w (impl_counts.R r)) := by
 refine calls_T (n := 20) (Γ := [(0, strv word1)]) (R := impl_counts.R) Tryz.func44 rfl rfl (Nat.le_of_ble_eq_true rfl) ⟨rfl, trivial⟩ ?_
 unfold impl_counts.f
 refine TC.seq <| TC.region <| TL.as (SV.v ⟨none, 0, 0⟩) <| TL.done <| TC.seq <| TC.region ?_
 refine TL.bslice0 Ei Tryz.underlying36 Tryz.sizeOf2 rfl rfl fun s1 => ?_
 refine TL.as (SV.v s1) <| TL.done <| TC.seq <| TC.seq <| TC.region ?_
 refine TL.rangeS (s := signs) Tryz.underlying9 rfl rfl rfl fun r => ?_
 refine TL.done ?_
 refine TC.loop1 (σ := List Int × Nat) (γ := SV) (Γ' := (fun p s => match p with | (out1, q) => [(0, strv word1), (3, SV.v s), (6, bp r 0)])) (L' := (fun p s => match p with | (out1, q) => [ob r (.stringIter ⟨signs.toArray⟩ q), row Ei 2 s out1])) (Γb := (fun p s => match p with | (out1, q) => [(0, strv word1), (3, SV.v s), (6, bp r 0)])) (Lb := (fun p s => match p with | (out1, q) => [row Ei 2 s out1])) (([], 0)) s1 ⟨rfl, rfl, rfl, trivial⟩ [0, 0] rfl ?_ ?_
 ·rintro ⟨out1, q⟩ s
  refine TC.seq <| TC.region ?_
  unfold impl_counts.b0
  dsimp only
  refine TL.bifE (fun hq => ?_) (fun hq => ?_)
  ·have hq' : q < 6 := of_decide_eq_true hq
   obtain ⟨c, hc⟩ := signs_decode q hq'
   refine TL.nextS 0 rfl hq' hc rfl rfl rfl ?_
   refine TL.extract rfl rfl rfl (v := .bool true) rfl <| TL.done <| TC.seq ?_
   refine TC.cond_true rfl ?_
   refine TC.skip <| TC.block (NoEx.loop1 rfl) <| TC.seq <| TC.region <| TL.extract rfl rfl rfl (v := .int .i64 q) rfl <| TL.as (.int .i64 q) ?_
   refine TL.done <| TC.region <| TL.mv (SV.v s) <| TL.mv (strv word1) <| TL.mv (.int .i64 q) <| TL.mv (.int .i64 q) ?_
   have e1 : IntKind.i64.wrap ((q : Int) + 1) = ((q + 1 : Nat) : Int) := by rw [IntWalk.i64_in _ (by omega)]; rfl
   refine TL.bin .i64 q 1 rfl rfl rfl rfl (v := .int .i64 ((q + 1 : Nat) : Int)) (by show some (Value.int .i64 (IntKind.i64.wrap _)) = _; rw [e1]) <| TL.slicestr (s := signs) (li := some q) (hi' := some ((q + 1 : Nat) : Int)) (l := q) (h := q + 1) Tryz.underlying9 rfl rfl rfl rfl (by omega) (by show q + 1 ≤ 6; omega) rfl rfl rfl ?_
   refine TL.call (R := G.strings_Count.R) Tryz.call73 rfl rfl rfl (fun w hS => G.strings_Count.calls w word1 ((signs.drop q).take (q + 1 - q))) ?_
   rintro rr _ _ ⟨rfl, rfl⟩
   refine TL.blit Ei ([rr] : List Int) Tryz.underlying36 Tryz.sizeOf2 Tryz.zeroValue2 rfl rfl rfl [(0, .int .i64 rr)] rfl ⟨rfl, rfl, trivial⟩ rfl rfl fun s2 => ?_
   refine TL.small fun h1 => ?_
   refine TL.append 2 rfl (Rd.row 0 rfl) Tryz.underlying36 (info_of Tryz.type2) (zv := (Tryz.t2.zero.getD (.bool false))) rfl rfl rfl (by decide) h1 rfl rfl rfl rfl fun s3 => ?_
   refine TL.as (SV.v s3) <| TL.done ?_
   exact TC.next1 ((out1 ++ [rr], q + 1)) s3 ⟨rfl, rfl, rfl, trivial⟩ [1, 1] rfl
  have hq' : signs.length ≤ q := by have := of_decide_eq_false hq; show 6 ≤ q; omega
  refine TL.overS 0 rfl hq' rfl rfl rfl ?_
  refine TL.extract rfl rfl rfl (v := .bool false) rfl <| TL.done <| TC.seq ?_
  refine TC.cond_false rfl ?_
  exact TC.brk1 ((out1, q)) s ⟨rfl, rfl, rfl, trivial⟩ [1] rfl
 rintro ⟨out1, q⟩ s
 exact TC.seq <| TC.region <| TL.mv (SV.v s) <| TL.as (SV.v s) <| TL.done <| TC.retF (Fin.body (fin1 (.inr rfl) rfl (.tmp rfl) [0] rfl ⟨s, rfl, rfl⟩))
def impl_CountPieces.f (word1 : Str) : Option ((List Int) × Int) := (G.impl_IsWord.f word1).bind (fun r_1 => (bif (!r_1) then some (([] : List Int), 1) else (G.impl_counts.f word1).bind (fun r_2 => some (r_2, 0))))
def impl_CountPieces.R (r : (List Int) × Int) (v : Value) (L : List Asn) : Prop := ∃ (s0 : SV), v = .tuple #[SV.v s0, .int .i64 r.2] ∧ L = [row Ei 2 s0 r.1]
theorem impl_CountPieces.calls (w : World) (word1 : Str) :
  ∀ r, impl_CountPieces.f word1 = some r → Calls Tryz.prog 17 #[strv word1] w (Ret w (impl_CountPieces.R r)) := by
 refine calls_T (n := 9) (Γ := [(0, strv word1)]) (R := impl_CountPieces.R) Tryz.func17 rfl rfl (Nat.le_of_ble_eq_true rfl) ⟨rfl, trivial⟩ ?_
 unfold impl_CountPieces.f
 refine TC.seq <| TC.region <| TL.as (SV.v ⟨none, 0, 0⟩) <| TL.as (.int .i64 0) <| TL.done <| TC.seq ?_
 refine TC.seq <| TC.region <| TL.mv (strv word1) ?_
 refine TL.call (R := G.impl_IsWord.R) Tryz.call9 rfl rfl rfl (fun w hS => G.impl_IsWord.calls w word1) ?_
 rintro r_1 _ _ ⟨rfl, rfl⟩
 refine TL.not r_1 rfl rfl rfl ?_
 refine TL.done ?_
 refine TC.cond (b := (!r_1)) rfl (fun c1 => ?_) (fun c2 => ?_)
 ·refine TC.seq <| TC.region <| TL.as (SV.v ⟨none, 0, 0⟩) <| TL.as (.int .i64 1) <| TL.done ?_
  refine TC.nilrow Ei 2 ?_
  exact TC.retF (Fin.body (fin2 (.inr rfl) rfl (.tmp rfl) (.tmp rfl) [0] rfl ⟨⟨none, 0, 0⟩, rfl, rfl⟩))
 refine TC.skip <| TC.seq <| TC.region <| TL.mv (strv word1) ?_
 refine TL.call (R := G.impl_counts.R) Tryz.call44 rfl rfl rfl (fun w hS => G.impl_counts.calls w word1) ?_
 rintro r_2 _ _ ⟨s1, rfl, rfl⟩
 exact TL.as (SV.v s1) <| TL.as (.int .i64 0) <| TL.done <| TC.retF (Fin.body (fin2 (.inr rfl) rfl (.tmp rfl) (.tmp rfl) [0] rfl ⟨s1, rfl, rfl⟩))
end Go.Proofs.YtpejnjpckacciaaGreatDoor.G
