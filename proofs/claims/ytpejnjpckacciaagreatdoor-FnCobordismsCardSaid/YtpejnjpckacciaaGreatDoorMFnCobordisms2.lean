/- Functions of the program, as pure functions. -/
import Derived.Test.YtpejnjpckacciaaGreatDoorMFnCobordisms1
import Derived.Test.YtpejnjpckacciaaGreatDoorProg
import Derived.Shelf.Strings.OnBuilder
import Derived.Shelf.Strings.Split
import Derived.Shelf.Strings.Repeat
import Derived.Shelf.SlSortCmp.WholeK
import Derived.Shelf.SlicesG.Cmp
import Derived.Shelf.Small.Bits
import Derived.WalkKit
import Derived.RangeFuncRecord
set_option linter.unusedVariables false
set_option maxRecDepth 100000
set_option maxHeartbeats 4000000
namespace Go.Proofs.YtpejnjpckacciaaGreatDoor.G
open Go Go.Sx Go.Proofs
def spec_l01From.b0 (code1 : List UInt8) : Int × Int → Option (LB (Int × Int)) := fun p => match p with | (s2, i1) => (bif ((decide (i1 < (code1.length : Int))) && (decide (i1 < 4096))) then chk i1 code1.length (some (.next ((IntKind.u64.wrap ((IntKind.u64.wrap ((IntKind.u64.wrap (s2 * 1099511628211)) + (IntKind.u64.wrap ((gt code1 i1).toNat : Int)))) + 83)), (w64 (i1 + 1))))) else some (.brk (s2, i1)))
def spec_l01From.f (code1 : List UInt8) : Option (Int × Int) := (loop1 (spec_l01From.b0 code1) ((IntKind.u64.wrap (12671 + (IntKind.u64.wrap (code1.length : Int)))), 0)).bind (fun p => match p with | (s2, i1) => some (0, s2))
def spec_l01From.R (s1 : SV) (r : Int × Int) (v : Value) (L : List Asn) : Prop := ∃ (b0 : Nat), v = bp b0 0 ∧ L = [box b0 71 [.one (SV.v s1), .one (.int .i64 r.1), .one (.int .u64 r.2)]]
theorem spec_l01From.calls (w : World) (s1 : SV) (code1 : List UInt8) (h1 : Reads Eu (hp w) s1 code1) :
  ∀ r, spec_l01From.f code1 = some r → Calls Tryz.prog 27 #[SV.v s1] w (Ret w (spec_l01From.R s1 r)) := by
 refine calls_T (n := 38) (Γ := [(0, SV.v s1)]) (R := (spec_l01From.R s1)) Tryz.func27 rfl rfl (Nat.le_of_ble_eq_true rfl) ⟨rfl, trivial⟩ ?_
 unfold spec_l01From.f
 refine TC.seq <| TC.region <| TL.as (.pointer none) <| TL.done <| TC.seq <| TC.region ?_
 refine TL.mv (SV.v s1) <| TL.mv (SV.v s1) <| TL.len (Rd.old h1) Tryz.underlying22 rfl rfl rfl <| TL.conv .i64 .u64 (code1.length : Int) _ rfl rfl rfl Tryz.underlying3 Tryz.underlying69 (v := .int .u64 (IntKind.u64.wrap (code1.length : Int))) rfl <| TL.bn .u64 12671 (IntKind.u64.wrap (code1.length : Int)) (.int .u64 (IntKind.u64.wrap (12671 + (IntKind.u64.wrap (code1.length : Int))))) ?_
 refine TL.buildS (segs0 := [.one (SV.v ⟨none, 0, 0⟩), .one (.int .i64 0), .one (.int .u64 0)]) (segs := [.one (SV.v s1), .one (.int .i64 0), .one (.int .u64 (IntKind.u64.wrap (12671 + (IntKind.u64.wrap (code1.length : Int)))))]) [1, 1, 1] Tryz.underlying71 ⟨Tryz.sizeOf22, Tryz.sizeOf3, Tryz.sizeOf69, trivial⟩ Tryz.zeroValue71 rfl [(0, SV.v s1), (2, .int .u64 (IntKind.u64.wrap (12671 + (IntKind.u64.wrap (code1.length : Int)))))] rfl (fun pl hpl => by subst hpl; exact fill_one 0 rfl rfl rfl rfl (fill_one 2 rfl rfl rfl rfl (rfl))) rfl rfl ?_
 refine TL.box [.one (SV.v s1), .one (.int .i64 0), .one (.int .u64 (IntKind.u64.wrap (12671 + (IntKind.u64.wrap (code1.length : Int)))))] rfl rfl rfl rfl fun b_1 => ?_
 refine TL.as (bp b_1 0) <| TL.done <| TC.seq <| TC.seq <| TC.region <| TL.as (.int .i64 0) ?_
 refine TL.done ?_
 refine TC.loop1 (σ := Int × Int) (γ := Unit) (Γ' := (fun p q => match p, q with | (s2, i1), _ => [(0, SV.v s1), (3, bp b_1 0), (4, .int .i64 i1)])) (L' := (fun p q => match p, q with | (s2, i1), _ => [box b_1 71 [.one (SV.v s1), .one (.int .i64 0), .one (.int .u64 s2)]])) (Γb := (fun p q => match p, q with | (s2, i1), _ => [(0, SV.v s1), (3, bp b_1 0), (4, .int .i64 i1)])) (Lb := (fun p q => match p, q with | (s2, i1), _ => [box b_1 71 [.one (SV.v s1), .one (.int .i64 0), .one (.int .u64 s2)]])) (((IntKind.u64.wrap (12671 + (IntKind.u64.wrap (code1.length : Int)))), 0)) (()) ⟨rfl, rfl, rfl, trivial⟩ [0] rfl ?_ ?_
 ·rintro ⟨s2, i1⟩ _
  refine TC.seq <| TC.seq <| TC.region <| TL.mv (.int .i64 i1) <| TL.mv (SV.v s1) <| TL.len (Rd.old h1) Tryz.underlying22 rfl rfl rfl ?_
  refine TL.bn .i64 i1 (code1.length : Int) (.bool (decide (i1 < (code1.length : Int)))) <| TL.mv (.bool (decide (i1 < (code1.length : Int)))) ?_
  refine TL.cutU 3 [(19, .bool ((decide (i1 < (code1.length : Int))) && (decide (i1 < 4096)))), (0, SV.v s1), (3, bp b_1 0), (4, .int .i64 i1), (12, .int .i64 i1), (13, SV.v s1), (14, .int .i64 (code1.length : Int)), (15, .bool (decide (i1 < (code1.length : Int)))), (16, .bool (decide (i1 < (code1.length : Int))))] [box b_1 71 [.one (SV.v s1), .one (.int .i64 0), .one (.int .u64 s2)]] ?_ ?_
  ·refine TL.cases (t := 16) (b := (decide (i1 < (code1.length : Int)))) rfl (fun c1 => ?_) (fun c2 => ?_)
   ·exact TL.mv (.int .i64 i1) <| TL.bn .i64 i1 4096 (.bool (decide (i1 < 4096))) <| TL.pk true (.bool (decide (i1 < 4096))) <| TL.done <| TC.nrm () () ⟨(by rw [c1]; rfl), rfl, rfl, rfl, rfl, rfl, rfl, rfl, (by rw [c1]; rfl), trivial⟩ [0] (by kernel_rfl)
   exact TL.sk <| TL.sk <| TL.pk false (.bool false) <| TL.done <| TC.nrm () () ⟨(by rw [c2]; rfl), rfl, rfl, rfl, rfl, rfl, rfl, rfl, (by rw [c2]; rfl), trivial⟩ [0] (by kernel_rfl)
  refine TL.done ?_
  refine TC.cond (b := ((decide (i1 < (code1.length : Int))) && (decide (i1 < 4096)))) rfl (fun c3 => ?_) (fun c4 => ?_)
  ·refine TC.skip <| TC.seq <| TC.block (NoEx.loop1 rfl) ?_
   refine TC.wk (Γ' := [(0, SV.v s1), (3, bp b_1 0), (4, .int .i64 i1), (12, .int .i64 i1), (13, SV.v s1), (14, .int .i64 (code1.length : Int)), (15, .bool (decide (i1 < (code1.length : Int)))), (16, .bool (decide (i1 < (code1.length : Int)))), (19, .bool ((decide (i1 < (code1.length : Int))) && (decide (i1 < 4096))))]) ⟨rfl, rfl, rfl, rfl, rfl, rfl, rfl, rfl, rfl, trivial⟩ ?_
   refine TC.chk fun h2 => ?_
   refine TC.drawG [(0, SV.v s1), (3, bp b_1 0), (4, .int .i64 i1), (12, .int .i64 i1), (13, SV.v s1), (14, .int .i64 (code1.length : Int)), (15, .bool (decide (i1 < (code1.length : Int)))), (16, .bool (decide (i1 < (code1.length : Int)))), (19, .bool ((decide (i1 < (code1.length : Int))) && (decide (i1 < 4096))))] [] ⟨rfl, rfl, rfl, rfl, rfl, rfl, rfl, rfl, rfl, trivial⟩ trivial (fun l_ g1 => [(bif nb l_ 15 then box b_1 71 [.one (SV.v s1), .one (.int .i64 0), .one (.int .u64 (IntKind.u64.wrap ((IntKind.u64.wrap ((IntKind.u64.wrap (s2 * 1099511628211)) + (IntKind.u64.wrap ((gt code1 i1).toNat : Int)))) + 83)))] else box b_1 71 [.one (SV.v s1), .one (.int .i64 0), .one (.int .u64 s2)])]) (fun g1 => [bp b_1 0, bp b_1 0, bp b_1 0, bp b_1 2, .int .u64 s2, .int .u64 (IntKind.u64.wrap (s2 * 1099511628211)), SV.v s1, .int .i64 i1, ep s1 i1.toNat, u8v (gt code1 i1), .int .u64 (IntKind.u64.wrap ((gt code1 i1).toNat : Int)), .int .u64 (IntKind.u64.wrap ((IntKind.u64.wrap (s2 * 1099511628211)) + (IntKind.u64.wrap ((gt code1 i1).toNat : Int)))), .int .u64 (IntKind.u64.wrap ((IntKind.u64.wrap ((IntKind.u64.wrap (s2 * 1099511628211)) + (IntKind.u64.wrap ((gt code1 i1).toNat : Int)))) + 83)), bp b_1 0, bp b_1 2, undef]) [[], [], [1], [1, 2], [1, 2, 3], [1, 2, 3, 4], [], [], [6, 7], [6, 7, 8], [6, 7, 8, 9], [1, 2, 3, 4, 5, 6, 7, 8, 9, 10], [1, 2, 3, 4, 5, 6, 7, 8, 9, 10, 11], [0, 1, 2, 3, 4, 5, 6, 7, 8, 9, 10, 11, 12], [0, 1, 2, 3, 4, 5, 6, 7, 8, 9, 10, 11, 12, 13], [0, 1, 2, 3, 4, 5, 6, 7, 8, 9, 10, 11, 12, 13, 14]] [[oF, none, none, none, none, none, none, none, none, none, none, none, none, oF, oF, oF], [none, oF, oF, oF, oF, oF, none, none, none, none, none, oF, oF, oF, oF, oF], [none, oT, oF, oF, oF, oF, none, none, none, none, none, oF, oF, oF, oF, oF], [none, oT, oT, oF, oF, oF, none, none, none, none, none, oF, oF, oF, oF, oF], [none, oT, oT, oT, oF, oF, none, none, none, none, none, oF, oF, oF, oF, oF], [none, oT, oT, oT, oT, oF, none, none, none, none, none, oF, oF, oF, oF, oF], [none, none, none, none, none, none, oF, none, oF, oF, oF, oF, oF, oF, oF, oF], [none, none, none, none, none, none, none, oF, oF, oF, oF, oF, oF, oF, oF, oF], [none, none, none, none, none, none, oT, oT, oF, oF, oF, oF, oF, oF, oF, oF], [none, none, none, none, none, none, oT, oT, oT, oF, oF, oF, oF, oF, oF, oF], [none, none, none, none, none, none, oT, oT, oT, oT, oF, oF, oF, oF, oF, oF], [none, oT, oT, oT, oT, oT, oT, oT, oT, oT, oT, oF, oF, oF, oF, oF], [none, oT, oT, oT, oT, oT, oT, oT, oT, oT, oT, oT, oF, oF, oF, oF], [oT, oT, oT, oT, oT, oT, oT, oT, oT, oT, oT, oT, oT, oF, oF, oF], [oT, oT, oT, oT, oT, oT, oT, oT, oT, oT, oT, oT, oT, oT, oF, oF], [oT, oT, oT, oT, oT, oT, oT, oT, oT, oT, oT, oT, oT, oT, oT, oF]] (by kernel_rfl) (fun _ => rfl) rfl rfl rfl rfl rfl (fun _ _ => ⟨⟨⟨⟨⟨⟨⟨⟨⟨⟨⟨⟨⟨⟨⟨⟨trivial, rfl⟩, rfl⟩, rfl⟩, rfl⟩, rfl⟩, rfl⟩, rfl⟩, rfl⟩, rfl⟩, rfl⟩, rfl⟩, rfl⟩, rfl⟩, rfl⟩, rfl⟩, rfl⟩) 0 [0] (fun _ => by kernel_rfl) ?_ ?_
   ·refine ⟨rfl, ?_, rfl, ?_, rfl, ?_, rfl, ?_, rfl, ?_, rfl, ?_, rfl, ?_, rfl, ?_, rfl, ?_, rfl, ?_, rfl, ?_, rfl, ?_, rfl, ?_, rfl, ?_, rfl, ?_, rfl, ?_, trivial⟩
    ·intro b1_ b2_ b3_ b4_ b5_ b6_ b7_ b8_ b9_ b10_ b11_ b12_ g1
     exact TL.mv (bp b_1 0) <| TL.done <| TC.n1 [0]
    ·intro b0_ b6_ b7_ b8_ b9_ b10_ g1
     exact TL.mv (bp b_1 0) <| TL.done <| TC.n1 [0]
    ·intro b0_ b6_ b7_ b8_ b9_ b10_ g1
     refine TL.nilCheck rfl rfl rfl ?_
     exact TL.done <| TC.n1 [0]
    ·intro b0_ b6_ b7_ b8_ b9_ b10_ g1
     exact TL.ll [box b_1 71 [.one (SV.v s1), .one (.int .i64 0), .one (.int .u64 s2)]] <| TL.fa Tryz.underlying71 rfl Tryz.sizeOf69 rfl 2 rfl rfl rfl rfl <| TL.done <| TC.n1 [0]
    ·intro b0_ b6_ b7_ b8_ b9_ b10_ g1
     exact TL.ll [box b_1 71 [.one (SV.v s1), .one (.int .i64 0), .one (.int .u64 s2)]] <| TL.load1 2 (Src.box 0 rfl) Tryz.isAgg69 rfl rfl rfl rfl rfl <| TL.done <| TC.n1 [0]
    ·intro b0_ b6_ b7_ b8_ b9_ b10_ g1
     exact TL.bn .u64 s2 1099511628211 (.int .u64 (IntKind.u64.wrap (s2 * 1099511628211))) <| TL.done <| TC.n1 [0]
    ·intro b0_ b1_ b2_ b3_ b4_ b5_ b7_ g1
     exact TL.mv (SV.v s1) <| TL.done <| TC.n1 [0]
    ·intro b0_ b1_ b2_ b3_ b4_ b5_ b6_ g1
     exact TL.mv (.int .i64 i1) <| TL.done <| TC.n1 [0]
    ·intro b0_ b1_ b2_ b3_ b4_ b5_ g1
     exact TL.ll [box b_1 71 [.one (SV.v s1), .one (.int .i64 0), .one (.int .u64 s2)]] <| TL.ixs i1 i1.toNat (Rd.old h1) h2 Tryz.underlying22 Tryz.sizeOf5 rfl rfl rfl rfl (by omega) <| TL.done <| TC.n1 [0]
    ·intro b0_ b1_ b2_ b3_ b4_ b5_ g1
     refine TL.ll [box b_1 71 [.one (SV.v s1), .one (.int .i64 0), .one (.int .u64 s2)]] ?_
     refine TL.loadE (Rd.old h1) Tryz.isAgg5 i1.toNat 0 (gt_spec h2) (v := u8v (gt code1 i1)) rfl (by simp only [show Eu.sz = 1 from rfl] <;> omega) rfl rfl rfl ?_
     exact TL.done <| TC.n1 [0]
    ·intro b0_ b1_ b2_ b3_ b4_ b5_ g1
     exact TL.conv .u8 .u64 ((gt code1 i1).toNat : Int) _ rfl rfl rfl Tryz.underlying5 Tryz.underlying69 (v := .int .u64 (IntKind.u64.wrap ((gt code1 i1).toNat : Int))) rfl <| TL.done <| TC.n1 [0]
    ·intro b0_ g1
     exact TL.bn .u64 (IntKind.u64.wrap (s2 * 1099511628211)) (IntKind.u64.wrap ((gt code1 i1).toNat : Int)) (.int .u64 (IntKind.u64.wrap ((IntKind.u64.wrap (s2 * 1099511628211)) + (IntKind.u64.wrap ((gt code1 i1).toNat : Int))))) <| TL.done <| TC.n1 [0]
    ·intro b0_ g1
     exact TL.bn .u64 (IntKind.u64.wrap ((IntKind.u64.wrap (s2 * 1099511628211)) + (IntKind.u64.wrap ((gt code1 i1).toNat : Int)))) 83 (.int .u64 (IntKind.u64.wrap ((IntKind.u64.wrap ((IntKind.u64.wrap (s2 * 1099511628211)) + (IntKind.u64.wrap ((gt code1 i1).toNat : Int)))) + 83))) <| TL.done <| TC.n1 [0]
    ·intro g1
     refine TL.nilCheck rfl rfl rfl ?_
     exact TL.done <| TC.n1 [0]
    ·intro g1
     exact TL.ll [box b_1 71 [.one (SV.v s1), .one (.int .i64 0), .one (.int .u64 s2)]] <| TL.fa Tryz.underlying71 rfl Tryz.sizeOf69 rfl 2 rfl rfl rfl rfl <| TL.done <| TC.n1 [0]
    intro g1
    refine TL.ll [box b_1 71 [.one (SV.v s1), .one (.int .i64 0), .one (.int .u64 s2)]] ?_
    refine TL.st1 0 2 rfl Tryz.sizeOf69 rfl rfl rfl rfl rfl rfl rfl ?_
    exact TL.done <| TC.nrm () [] trivial [0] (by kernel_rfl)
   intro g1
   refine TC.ll [box b_1 71 [.one (SV.v s1), .one (.int .i64 0), .one (.int .u64 (IntKind.u64.wrap ((IntKind.u64.wrap ((IntKind.u64.wrap (s2 * 1099511628211)) + (IntKind.u64.wrap ((gt code1 i1).toNat : Int)))) + 83)))]] <| TC.region <| TL.mv (.int .i64 i1) <| TL.bn .i64 i1 1 (.int .i64 (w64 (i1 + 1))) <| TL.as (.int .i64 (w64 (i1 + 1))) <| TL.done ?_
   exact TC.next1 (((IntKind.u64.wrap ((IntKind.u64.wrap ((IntKind.u64.wrap (s2 * 1099511628211)) + (IntKind.u64.wrap ((gt code1 i1).toNat : Int)))) + 83)), (w64 (i1 + 1)))) (()) ⟨rfl, rfl, rfl, trivial⟩ [0] rfl
  exact TC.brk1 ((s2, i1)) (()) ⟨rfl, rfl, rfl, trivial⟩ [0] rfl
 rintro ⟨s2, i1⟩ _
 exact TC.seq <| TC.region <| TL.mv (bp b_1 0) <| TL.as (bp b_1 0) <| TL.done <| TC.retF (Fin.body (fin1 (.inr rfl) rfl (.tmp rfl) [0] rfl ⟨b_1, rfl, rfl⟩))
def spec_DrawPartsOf.f (code1 : List UInt8) : Option Str := (G.spec_l01From.f code1).bind (fun p => match p with | (r_1, r_2) => (G.spec_l04Draw.f code1 r_1 r_2).bind (fun p => match p with | (r_3, y1, y2) => some r_3))
def spec_DrawPartsOf.R (r : Str) (v : Value) (L : List Asn) : Prop := v = strv r ∧ L = []
theorem spec_DrawPartsOf.calls (w : World) (s1 : SV) (code1 : List UInt8) (h1 : Reads Eu (hp w) s1 code1) :
  ∀ r, spec_DrawPartsOf.f code1 = some r → Calls Tryz.prog 5 #[SV.v s1] w (Ret w (spec_DrawPartsOf.R r)) := by
 refine calls_T (n := 6) (Γ := [(0, SV.v s1)]) (R := spec_DrawPartsOf.R) Tryz.func5 rfl rfl (Nat.le_of_ble_eq_true rfl) ⟨rfl, trivial⟩ ?_
 unfold spec_DrawPartsOf.f
 refine TC.seq <| TC.region <| TL.as (strv ([] : Str)) <| TL.done <| TC.seq <| TC.region ?_
 refine TL.mv (SV.v s1) ?_
 refine TL.call (R := G.spec_l01From.R s1) Tryz.call27 rfl rfl rfl (fun w hS => G.spec_l01From.calls w s1 code1 ((Rd.old h1) w hS)) ?_
 rintro ⟨r_1, r_2⟩ _ _ ⟨b_1, rfl, rfl⟩
 refine TL.callX (R := G.spec_l04Draw.R b_1 s1) [0] [box b_1 71 [.one (SV.v s1), .one (.int .i64 r_1), .one (.int .u64 r_2)]] [] rfl Tryz.call26 rfl rfl rfl (fun w I_ hle hB hS => G.spec_l04Draw.calls _ I_ w b_1 s1 code1 r_1 r_2 hS (h1.mono hle)) ?_
 rintro ⟨r_3, y1, y2⟩ _ _ ⟨rfl, rfl⟩
 exact TL.as (strv r_3) <| TL.done <| TC.retF (Fin.body (fin1 (.inr rfl) rfl (.tmp rfl) [] rfl ⟨rfl, rfl⟩))
open Go Go.Proofs Go.Shelf
def lays156_ren : Go.Shelf.Ren := ⟨fun | 156 => 41 | 165 => 70 | 166 => 71 | 169 => 72 | 240 => 90 | 241 => 91 | 276 => 117 | 277 => 118 | n => n, fun | 31 => 49 | 9 => 9 | 3 => 3 | 4 => 4 | 0 => 0 | 20 => 20 | 72 => 117 | 76 => 121 | 70 => 115 | 37 => 22 | 75 => 120 | 127 => 144 | 164 => 177 | 5 => 5 | 80 => 123 | n => n, fun | n => n⟩
theorem lays156 : Go.Proofs.Lays.n156 Tryz.prog lays156_ren := {
 mixed := by kernel_rfl
 f156 := Tryz.func41.trans (congrArg some (by kernel_rfl))
 f165 := Tryz.func70.trans (congrArg some (by kernel_rfl))
 f166 := Tryz.func71.trans (congrArg some (by kernel_rfl))
 f169 := Tryz.func72.trans (congrArg some (by kernel_rfl))
 f240 := Tryz.func90.trans (congrArg some (by kernel_rfl))
 f241 := Tryz.func91.trans (congrArg some (by kernel_rfl))
 f276 := Tryz.func117.trans (congrArg some (by kernel_rfl))
 f277 := Tryz.func118.trans (congrArg some (by kernel_rfl))
 t0 := Tryz.underlying0
 a0 := Tryz.isAgg0
 z0 := Tryz.sizeOf0
 v0 := Tryz.zeroValue0
 t3 := Tryz.underlying3
 a3 := Tryz.isAgg3
 z3 := Tryz.sizeOf3
 v3 := Tryz.zeroValue3
 t4 := Tryz.underlying4
 a4 := Tryz.isAgg4
 z4 := Tryz.sizeOf4
 v4 := Tryz.zeroValue4
 t9 := Tryz.underlying9
 a9 := Tryz.isAgg9
 z9 := Tryz.sizeOf9
 v9 := Tryz.zeroValue9
 t20 := Tryz.underlying20
 a20 := Tryz.isAgg20
 z20 := Tryz.sizeOf20
 v20 := Tryz.zeroValue20
 t31 := Tryz.underlying49
 a31 := Tryz.isAgg49
 z31 := Tryz.sizeOf49
 v31 := Tryz.zeroValue49
 t37 := Tryz.underlying22
 a37 := Tryz.isAgg22
 z37 := Tryz.sizeOf22
 v37 := Tryz.zeroValue22
 t70 := Tryz.underlying115
 a70 := Tryz.isAgg115
 z70 := Tryz.sizeOf115
 v70 := Tryz.zeroValue115
 t72 := Tryz.underlying117
 a72 := Tryz.isAgg117
 z72 := Tryz.sizeOf117
 v72 := Tryz.zeroValue117
 t75 := Tryz.underlying120
 a75 := Tryz.isAgg120
 z75 := Tryz.sizeOf120
 v75 := Tryz.zeroValue120
 t76 := Tryz.underlying121
 a76 := Tryz.isAgg121
 z76 := Tryz.sizeOf121
 v76 := Tryz.zeroValue121
 t127 := Tryz.underlying144
 a127 := Tryz.isAgg144
 z127 := Tryz.sizeOf144
 v127 := Tryz.zeroValue144
 t164 := Tryz.underlying177
 a164 := Tryz.isAgg177
 z164 := Tryz.sizeOf177
 v164 := Tryz.zeroValue177 }
theorem Builder_Extra_156 : Builder.Extra Tryz.prog lays156_ren := {
 sizeBuilder := by kernel_rfl
 liesBuilder := by kernel_rfl
 t5 := Tryz.underlying5
 a5 := Tryz.isAgg5
 z5 := Tryz.sizeOf5
 v5 := Tryz.zeroValue5
 infoByte := by kernel_rfl
 cellsByte := by kernel_rfl
 sizeByte := by kernel_rfl
 neB5 := by decide }
def lays143_ren : Go.Shelf.Ren := ⟨fun | 143 => 94 | 219 => 119 | 217 => 135 | 225 => 136 | 224 => 137 | 267 => 138 | 266 => 150 | 314 => 151 | n => n, fun | 9 => 9 | 3 => 3 | 4 => 4 | 5 => 5 | 46 => 127 | 146 => 180 | 51 => 101 | n => n, fun | 1 => 0 | n => n⟩
theorem lays143 : Go.Proofs.Lays.n143 Tryz.prog lays143_ren := {
 mixed := by kernel_rfl
 f143 := Tryz.func94.trans (congrArg some (by kernel_rfl))
 f217 := Tryz.func135.trans (congrArg some (by kernel_rfl))
 f219 := Tryz.func119.trans (congrArg some (by kernel_rfl))
 f224 := Tryz.func137.trans (congrArg some (by kernel_rfl))
 f225 := Tryz.func136.trans (congrArg some (by kernel_rfl))
 f266 := Tryz.func150.trans (congrArg some (by kernel_rfl))
 f267 := Tryz.func138.trans (congrArg some (by kernel_rfl))
 f314 := Tryz.func151.trans (congrArg some (by kernel_rfl))
 t3 := Tryz.underlying3
 a3 := Tryz.isAgg3
 z3 := Tryz.sizeOf3
 v3 := Tryz.zeroValue3
 t4 := Tryz.underlying4
 a4 := Tryz.isAgg4
 z4 := Tryz.sizeOf4
 v4 := Tryz.zeroValue4
 t5 := Tryz.underlying5
 a5 := Tryz.isAgg5
 z5 := Tryz.sizeOf5
 v5 := Tryz.zeroValue5
 t9 := Tryz.underlying9
 a9 := Tryz.isAgg9
 z9 := Tryz.sizeOf9
 v9 := Tryz.zeroValue9
 t46 := Tryz.underlying127
 a46 := Tryz.isAgg127
 z46 := Tryz.sizeOf127
 v46 := Tryz.zeroValue127
 t51 := Tryz.underlying101
 a51 := Tryz.isAgg101
 z51 := Tryz.sizeOf101
 v51 := Tryz.zeroValue101
 t146 := Tryz.underlying180
 a146 := Tryz.isAgg180
 z146 := Tryz.sizeOf180
 v146 := Tryz.zeroValue180
 g1 := by kernel_rfl }
def lays138_ren : Go.Shelf.Ren := ⟨fun | 138 => 73 | 195 => 92 | 218 => 93 | 143 => 94 | 219 => 119 | 217 => 135 | 225 => 136 | 224 => 137 | 267 => 138 | 266 => 150 | 314 => 151 | n => n, fun | 9 => 9 | 3 => 3 | 4 => 4 | 5 => 5 | 0 => 0 | 46 => 127 | 146 => 180 | 51 => 101 | n => n, fun | 1 => 0 | n => n⟩
theorem lays138 : Go.Proofs.Lays.n138 Tryz.prog lays138_ren := {
 mixed := by kernel_rfl
 f138 := Tryz.func73.trans (congrArg some (by kernel_rfl))
 f143 := Tryz.func94.trans (congrArg some (by kernel_rfl))
 f195 := Tryz.func92.trans (congrArg some (by kernel_rfl))
 f217 := Tryz.func135.trans (congrArg some (by kernel_rfl))
 f218 := Tryz.func93.trans (congrArg some (by kernel_rfl))
 f219 := Tryz.func119.trans (congrArg some (by kernel_rfl))
 f224 := Tryz.func137.trans (congrArg some (by kernel_rfl))
 f225 := Tryz.func136.trans (congrArg some (by kernel_rfl))
 f266 := Tryz.func150.trans (congrArg some (by kernel_rfl))
 f267 := Tryz.func138.trans (congrArg some (by kernel_rfl))
 f314 := Tryz.func151.trans (congrArg some (by kernel_rfl))
 t0 := Tryz.underlying0
 a0 := Tryz.isAgg0
 z0 := Tryz.sizeOf0
 v0 := Tryz.zeroValue0
 t3 := Tryz.underlying3
 a3 := Tryz.isAgg3
 z3 := Tryz.sizeOf3
 v3 := Tryz.zeroValue3
 t4 := Tryz.underlying4
 a4 := Tryz.isAgg4
 z4 := Tryz.sizeOf4
 v4 := Tryz.zeroValue4
 t5 := Tryz.underlying5
 a5 := Tryz.isAgg5
 z5 := Tryz.sizeOf5
 v5 := Tryz.zeroValue5
 t9 := Tryz.underlying9
 a9 := Tryz.isAgg9
 z9 := Tryz.sizeOf9
 v9 := Tryz.zeroValue9
 t46 := Tryz.underlying127
 a46 := Tryz.isAgg127
 z46 := Tryz.sizeOf127
 v46 := Tryz.zeroValue127
 t51 := Tryz.underlying101
 a51 := Tryz.isAgg101
 z51 := Tryz.sizeOf101
 v51 := Tryz.zeroValue101
 t146 := Tryz.underlying180
 a146 := Tryz.isAgg180
 z146 := Tryz.sizeOf180
 v146 := Tryz.zeroValue180
 g1 := by kernel_rfl }
def lays105_ren : Go.Shelf.Ren := ⟨fun | 105 => 74 | 212 => 95 | 99 => 96 | 165 => 70 | 166 => 71 | 170 => 97 | 169 => 72 | 263 => 120 | 264 => 121 | 206 => 122 | 240 => 90 | 241 => 91 | 276 => 117 | 277 => 118 | n => n, fun | 9 => 9 | 3 => 3 | 4 => 4 | 20 => 20 | 0 => 0 | 46 => 127 | 109 => 146 | 5 => 5 | 72 => 117 | 76 => 121 | 51 => 101 | 146 => 180 | 53 => 69 | 148 => 182 | 70 => 115 | 37 => 22 | 75 => 120 | 127 => 144 | 164 => 177 | 80 => 123 | n => n, fun | n => n⟩
theorem lays105 : Go.Proofs.Lays.n105 Tryz.prog lays105_ren := {
 mixed := by kernel_rfl
 f99 := Tryz.func96.trans (congrArg some (by kernel_rfl))
 f105 := Tryz.func74.trans (congrArg some (by kernel_rfl))
 f165 := Tryz.func70.trans (congrArg some (by kernel_rfl))
 f166 := Tryz.func71.trans (congrArg some (by kernel_rfl))
 f169 := Tryz.func72.trans (congrArg some (by kernel_rfl))
 f170 := Tryz.func97.trans (congrArg some (by kernel_rfl))
 f206 := Tryz.func122.trans (congrArg some (by kernel_rfl))
 f212 := Tryz.func95.trans (congrArg some (by kernel_rfl))
 f240 := Tryz.func90.trans (congrArg some (by kernel_rfl))
 f241 := Tryz.func91.trans (congrArg some (by kernel_rfl))
 f263 := Tryz.func120.trans (congrArg some (by kernel_rfl))
 f264 := Tryz.func121.trans (congrArg some (by kernel_rfl))
 f276 := Tryz.func117.trans (congrArg some (by kernel_rfl))
 f277 := Tryz.func118.trans (congrArg some (by kernel_rfl))
 t0 := Tryz.underlying0
 a0 := Tryz.isAgg0
 z0 := Tryz.sizeOf0
 v0 := Tryz.zeroValue0
 t3 := Tryz.underlying3
 a3 := Tryz.isAgg3
 z3 := Tryz.sizeOf3
 v3 := Tryz.zeroValue3
 t4 := Tryz.underlying4
 a4 := Tryz.isAgg4
 z4 := Tryz.sizeOf4
 v4 := Tryz.zeroValue4
 t5 := Tryz.underlying5
 a5 := Tryz.isAgg5
 z5 := Tryz.sizeOf5
 v5 := Tryz.zeroValue5
 t9 := Tryz.underlying9
 a9 := Tryz.isAgg9
 z9 := Tryz.sizeOf9
 v9 := Tryz.zeroValue9
 t20 := Tryz.underlying20
 a20 := Tryz.isAgg20
 z20 := Tryz.sizeOf20
 v20 := Tryz.zeroValue20
 t37 := Tryz.underlying22
 a37 := Tryz.isAgg22
 z37 := Tryz.sizeOf22
 v37 := Tryz.zeroValue22
 t46 := Tryz.underlying127
 a46 := Tryz.isAgg127
 z46 := Tryz.sizeOf127
 v46 := Tryz.zeroValue127
 t51 := Tryz.underlying101
 a51 := Tryz.isAgg101
 z51 := Tryz.sizeOf101
 v51 := Tryz.zeroValue101
 t53 := Tryz.underlying69
 a53 := Tryz.isAgg69
 z53 := Tryz.sizeOf69
 v53 := Tryz.zeroValue69
 t70 := Tryz.underlying115
 a70 := Tryz.isAgg115
 z70 := Tryz.sizeOf115
 v70 := Tryz.zeroValue115
 t72 := Tryz.underlying117
 a72 := Tryz.isAgg117
 z72 := Tryz.sizeOf117
 v72 := Tryz.zeroValue117
 t75 := Tryz.underlying120
 a75 := Tryz.isAgg120
 z75 := Tryz.sizeOf120
 v75 := Tryz.zeroValue120
 t76 := Tryz.underlying121
 a76 := Tryz.isAgg121
 z76 := Tryz.sizeOf121
 v76 := Tryz.zeroValue121
 t109 := Tryz.underlying146
 a109 := Tryz.isAgg146
 z109 := Tryz.sizeOf146
 v109 := Tryz.zeroValue146
 t127 := Tryz.underlying144
 a127 := Tryz.isAgg144
 z127 := Tryz.sizeOf144
 v127 := Tryz.zeroValue144
 t146 := Tryz.underlying180
 a146 := Tryz.isAgg180
 z146 := Tryz.sizeOf180
 v146 := Tryz.zeroValue180
 t148 := Tryz.underlying182
 a148 := Tryz.isAgg182
 z148 := Tryz.sizeOf182
 v148 := Tryz.zeroValue182
 t164 := Tryz.underlying177
 a164 := Tryz.isAgg177
 z164 := Tryz.sizeOf177
 v164 := Tryz.zeroValue177 }
theorem Builder_Extra_105 : Builder.Extra Tryz.prog lays105_ren := {
 sizeBuilder := by kernel_rfl
 liesBuilder := by kernel_rfl
 t5 := Tryz.underlying5
 a5 := Tryz.isAgg5
 z5 := Tryz.sizeOf5
 v5 := Tryz.zeroValue5
 infoByte := by kernel_rfl
 cellsByte := by kernel_rfl
 sizeByte := by kernel_rfl
 neB5 := by decide }
def bitsLen2_ren : Go.Shelf.Ren := ⟨fun | 125 => 79 | 128 => 106 | 129 => 107 | n => n, fun | 46 => 127 | 3 => 3 | 51 => 101 | 53 => 69 | 4 => 4 | 5 => 5 | 9 => 9 | n => n, fun | n => n⟩
theorem bitsLen2 : Go.Proofs.Lays.n125 Tryz.prog bitsLen2_ren := {
 mixed := by kernel_rfl
 f125 := Tryz.func79.trans (congrArg some (by kernel_rfl))
 f128 := Tryz.func106.trans (congrArg some (by kernel_rfl))
 f129 := Tryz.func107.trans (congrArg some (by kernel_rfl))
 t3 := Tryz.underlying3
 a3 := Tryz.isAgg3
 z3 := Tryz.sizeOf3
 v3 := Tryz.zeroValue3
 t4 := Tryz.underlying4
 a4 := Tryz.isAgg4
 z4 := Tryz.sizeOf4
 v4 := Tryz.zeroValue4
 t5 := Tryz.underlying5
 a5 := Tryz.isAgg5
 z5 := Tryz.sizeOf5
 v5 := Tryz.zeroValue5
 t9 := Tryz.underlying9
 a9 := Tryz.isAgg9
 z9 := Tryz.sizeOf9
 v9 := Tryz.zeroValue9
 t46 := Tryz.underlying127
 a46 := Tryz.isAgg127
 z46 := Tryz.sizeOf127
 v46 := Tryz.zeroValue127
 t51 := Tryz.underlying101
 a51 := Tryz.isAgg101
 z51 := Tryz.sizeOf101
 v51 := Tryz.zeroValue101
 t53 := Tryz.underlying69
 a53 := Tryz.isAgg69
 z53 := Tryz.sizeOf69
 v53 := Tryz.zeroValue69 }
def sortF_ren : Go.Shelf.Ren := ⟨fun | 6 => 59 | 15 => 79 | 14 => 78 | 28 => 106 | 29 => 107 | 20 => 98 | 21 => 99 | 22 => 100 | 23 => 101 | 24 => 102 | 25 => 103 | 26 => 104 | 27 => 105 | 46 => 123 | 47 => 124 | 48 => 125 | 49 => 126 | 50 => 127 | 57 => 139 | n => n, fun | 22 => 25 | 24 => 44 | 25 => 86 | 3 => 3 | 39 => 127 | 0 => 0 | 53 => 101 | 55 => 69 | 4 => 4 | 46 => 151 | 45 => 150 | 50 => 155 | 5 => 5 | 9 => 9 | 66 => 184 | 70 => 188 | 76 => 206 | 77 => 207 | n => n, fun | n => n⟩
theorem sortF : Go.Proofs.SlLaysF0.n6 Tryz.prog sortF_ren := {
 mixed := by kernel_rfl
 f6 := ⟨Tryz.f59.name, by decide, Tryz.func59.trans (congrArg some (by kernel_rfl))⟩
 f14 := ⟨Tryz.f78.name, by decide, Tryz.func78.trans (congrArg some (by kernel_rfl))⟩
 f15 := Tryz.func79.trans (congrArg some (by kernel_rfl))
 f20 := ⟨Tryz.f98.name, by decide, Tryz.func98.trans (congrArg some (by kernel_rfl))⟩
 f21 := ⟨Tryz.f99.name, by decide, Tryz.func99.trans (congrArg some (by kernel_rfl))⟩
 f22 := ⟨Tryz.f100.name, by decide, Tryz.func100.trans (congrArg some (by kernel_rfl))⟩
 f23 := ⟨Tryz.f101.name, by decide, Tryz.func101.trans (congrArg some (by kernel_rfl))⟩
 f24 := ⟨Tryz.f102.name, by decide, Tryz.func102.trans (congrArg some (by kernel_rfl))⟩
 f25 := ⟨Tryz.f103.name, by decide, Tryz.func103.trans (congrArg some (by kernel_rfl))⟩
 f26 := ⟨Tryz.f104.name, by decide, Tryz.func104.trans (congrArg some (by kernel_rfl))⟩
 f27 := ⟨Tryz.f105.name, by decide, Tryz.func105.trans (congrArg some (by kernel_rfl))⟩
 f28 := Tryz.func106.trans (congrArg some (by kernel_rfl))
 f29 := Tryz.func107.trans (congrArg some (by kernel_rfl))
 f46 := ⟨Tryz.f123.name, by decide, Tryz.func123.trans (congrArg some (by kernel_rfl))⟩
 f47 := Tryz.func124.trans (congrArg some (by kernel_rfl))
 f48 := Tryz.func125.trans (congrArg some (by kernel_rfl))
 f49 := ⟨Tryz.f126.name, by decide, Tryz.func126.trans (congrArg some (by kernel_rfl))⟩
 f50 := ⟨Tryz.f127.name, by decide, Tryz.func127.trans (congrArg some (by kernel_rfl))⟩
 f57 := ⟨Tryz.f139.name, by decide, Tryz.func139.trans (congrArg some (by kernel_rfl))⟩
 t0 := Tryz.underlying0
 a0 := Tryz.isAgg0
 z0 := Tryz.sizeOf0
 v0 := Tryz.zeroValue0
 t3 := Tryz.underlying3
 a3 := Tryz.isAgg3
 z3 := Tryz.sizeOf3
 v3 := Tryz.zeroValue3
 t4 := Tryz.underlying4
 a4 := Tryz.isAgg4
 z4 := Tryz.sizeOf4
 v4 := Tryz.zeroValue4
 t5 := Tryz.underlying5
 a5 := Tryz.isAgg5
 z5 := Tryz.sizeOf5
 v5 := Tryz.zeroValue5
 t9 := Tryz.underlying9
 a9 := Tryz.isAgg9
 z9 := Tryz.sizeOf9
 v9 := Tryz.zeroValue9
 t22 := Tryz.underlying25
 a22 := Tryz.isAgg25
 z22 := Tryz.sizeOf25
 v22 := Tryz.zeroValue25
 t25 := Tryz.underlying86
 a25 := Tryz.isAgg86
 z25 := Tryz.sizeOf86
 v25 := Tryz.zeroValue86
 t39 := Tryz.underlying127
 a39 := Tryz.isAgg127
 z39 := Tryz.sizeOf127
 v39 := Tryz.zeroValue127
 t45 := Tryz.underlying150
 a45 := Tryz.isAgg150
 z45 := Tryz.sizeOf150
 v45 := Tryz.zeroValue150
 t46 := Tryz.underlying151
 a46 := Tryz.isAgg151
 z46 := Tryz.sizeOf151
 v46 := Tryz.zeroValue151
 t50 := Tryz.underlying155
 a50 := Tryz.isAgg155
 z50 := Tryz.sizeOf155
 v50 := Tryz.zeroValue155
 t53 := Tryz.underlying101
 a53 := Tryz.isAgg101
 z53 := Tryz.sizeOf101
 v53 := Tryz.zeroValue101
 t55 := Tryz.underlying69
 a55 := Tryz.isAgg69
 z55 := Tryz.sizeOf69
 v55 := Tryz.zeroValue69
 t66 := Tryz.underlying184
 a66 := Tryz.isAgg184
 z66 := Tryz.sizeOf184
 v66 := Tryz.zeroValue184
 t70 := Tryz.underlying188
 a70 := Tryz.isAgg188
 z70 := Tryz.sizeOf188
 v70 := Tryz.zeroValue188
 t76 := Tryz.underlying206
 a76 := Tryz.isAgg206
 z76 := Tryz.sizeOf206
 v76 := Tryz.zeroValue206
 t77 := Tryz.underlying207
 a77 := Tryz.isAgg207
 z77 := Tryz.sizeOf207
 v77 := Tryz.zeroValue207 }
open Go Go.Sx Go.Proofs Go.RowKit Go.Shelf
theorem ret_below {w W' : World} {R : Value → List Asn → Prop} {v : Value} (hb : Below w.heap.size w W') (hR : R v []) : Ret w R (.returned v) W' := by
 refine ⟨v, [], rfl, hR, ⟨hb, .refl _, ?_, [], rfl, by simp, by simp⟩⟩
 intro b o hbo
 have hbl : b < w.heap.size := (Array.getElem?_eq_some_iff.1 hbo).1
 exact (hb.block b hbl).trans hbo
def strings_Repeat.f (s : Str) (n : Int) : Option Str := if 0 ≤ n ∧ n ≤ 1000000 ∧ s.length ≤ 1000000 then some (Lib.repeatL s n.toNat) else none
def strings_Repeat.R (r : Str) (v : Value) (L : List Asn) : Prop := v = strv r ∧ L = []
theorem strings_Repeat.calls (w : World) (s : Str) (n : Int) : ∀ v, strings_Repeat.f s n = some v → Calls Tryz.prog 74 #[strv s, .int .i64 n] w (Ret w (strings_Repeat.R v)) := by
 intro v hv
 unfold strings_Repeat.f at hv
 split at hv
 case isFalse => cases hv
 case isTrue h =>
  obtain ⟨h0, h1, h2⟩ := h
  obtain rfl := Option.some.inj hv
  obtain ⟨c, rfl⟩ := Int.eq_ofNat_of_zero_le h0
  have hmul : s.length * c ≤ 1000000 * 1000000 := Nat.mul_le_mul h2 (by omega)
  have := Any.strings_Repeat lays105 Builder_Extra_105 ⟨s.toArray⟩ c w (by omega) (by show s.toArray.size * c ≤ _; rw [List.size_toArray]; omega)
  refine this.mono ?_
  rintro e W' ⟨rfl, hb⟩
  exact ret_below hb ⟨rfl, rfl⟩
def strings_Count.f (s sep : Str) : Option Int := match sep with
  | [c] => some ((s.count c : Nat) : Int)
  | _ => none
def strings_Count.R (r : Int) (v : Value) (L : List Asn) : Prop := v = .int .i64 r ∧ L = []
theorem strings_Count.calls (w : World) (s sep : Str) : ∀ v, strings_Count.f s sep = some v → Calls Tryz.prog 73 #[strv s, strv sep] w (Ret w (strings_Count.R v)) := by
 intro v hv
 unfold strings_Count.f at hv
 split at hv
 case h_2 => cases hv
 case h_1 c =>
  obtain rfl := Option.some.inj hv
  refine (Any.strings_Count_one lays138 ⟨s.toArray⟩ c w).mono ?_
  rintro e W' ⟨rfl, rfl⟩
  exact ret_below (Below.refl _ _) ⟨rfl, rfl⟩
def strings_Join.f (xs : List Str) (sep : Str) : Option Str := if xs.length ≤ 1000000 ∧ (Lib.join xs sep).length ≤ 1000000 then some (Lib.join xs sep) else none
def strings_Join.R (r : Str) (v : Value) (L : List Asn) : Prop := v = strv r ∧ L = []
theorem strings_Join.calls (w : World) (s : SV) (xs : List Str) (sep : Str) (h1 : Reads Es (hp w) s xs) : ∀ v, strings_Join.f xs sep = some v → Calls Tryz.prog 41 #[SV.v s, strv sep] w (Ret w (strings_Join.R v)) := by
 intro v hv
 unfold strings_Join.f at hv
 split at hv
 case isFalse => cases hv
 case isTrue h =>
  obtain ⟨hn, hl⟩ := h
  obtain rfl := Option.some.inj hv
  obtain ⟨r0, r1, r2, r3⟩ := h1
  obtain ⟨sa, sn, sc⟩ := s
  simp only at r0 r1 r2 r3
  subst r0
  rcases r3 with rfl | ⟨b, o, cs, T, fr, rfl, hb, hcs⟩
  ·refine (Any.strings_Join_none lays156 Builder_Extra_156 sa sc ⟨sep.toArray⟩ w).mono ?_
   rintro e W' ⟨rfl, rfl⟩
   exact ret_below (Below.refl _ _) ⟨rfl, rfl⟩
  have hmap : (xs.map fun x => (⟨x.toArray⟩ : ByteArray)).map (·.data.toList) = xs := by
   rw [List.map_map]
   exact List.map_id'' (fun x => rfl) xs
  have hcell : ∀ (j : Nat) x, (xs.map fun x => (⟨x.toArray⟩ : ByteArray))[j]? = some x → w.cell? ⟨b, o + j, none⟩ = some (.string x) := by
   intro j x hx
   rw [cell_at (show w.heap[b]? = _ from hb)]
   rw [List.getElem?_map] at hx
   cases hxj : xs[j]? with
   | none => rw [hxj] at hx; cases hx
   | some y =>
    rw [hxj] at hx
    obtain rfl := Option.some.inj hx
    refine hcs j _ ?_
    have := encs_get Es xs j 0 y hxj (by decide)
    have e : j * Es.sz + 0 = j := by simp [Es]
    rw [e] at this
    rw [this]
    rfl
  have := Any.strings_Join lays156 Builder_Extra_156 b o sc (xs.map fun x => ⟨x.toArray⟩) ⟨sep.toArray⟩ w hcell (Array.getElem?_eq_some_iff.1 hb).1 (by rw [List.length_map]; omega) (by rw [List.length_map]; exact r1) (by rw [hmap]; show (Lib.join xs sep).length ≤ _; omega)
  rw [hmap, List.length_map] at this
  refine this.mono ?_
  rintro e W' ⟨rfl, hb⟩
  exact ret_below hb ⟨rfl, rfl⟩
def spl (c : UInt8) : Str → List Str
  | [] => [[]]
  | x :: l => if x = c then [] :: spl c l else match spl c l with
    | h :: t => (x :: h) :: t
    | [] => [[x]]
theorem spl_ne (c : UInt8) : ∀ l, spl c l ≠ []
 | [] => by simp [spl]
 | x :: l => by
  unfold spl
  split
  ·simp
  cases h : spl c l with
  | nil => simp
  | cons _ _ => simp
theorem index_cons (c x : UInt8) (l : Str) : Lib.index (x :: l) [c] = if x = c then 0 else if Lib.index l [c] = -1 then -1 else Lib.index l [c] + 1 := by
 rw [Lib.index]
 have hp : List.isPrefixOf [c] (x :: l) = (c == x) := by simp [List.isPrefixOf]
 rw [hp]
 by_cases h : x = c
 ·subst h; simp
 have : (c == x) = false := by
  rw [beq_eq_false_iff_ne]; exact fun e => h e.symm
 rw [this, if_neg h]
 simp
theorem index_ge0 (c : UInt8) : ∀ l : Str, Lib.index l [c] = -1 ∨ 0 ≤ Lib.index l [c]
 | [] => .inl rfl
 | x :: l => by
  have := index_ge0 c l
  rw [index_cons]
  split
  ·exact .inr (by omega)
  split
  ·exact .inl rfl
  exact .inr (by omega)
theorem index_spl (c : UInt8) : ∀ l : Str, (Lib.index l [c] = -1 → spl c l = [l] ∧ l.count c = 0) ∧ ∀ i : Nat, Lib.index l [c] = i → spl c l = l.take i :: spl c (l.drop (i + 1)) ∧ l.count c = (l.drop (i + 1)).count c + 1
 | [] => ⟨fun _ => ⟨rfl, rfl⟩, fun i hi => by
   have : Lib.index [] [c] = -1 := rfl
   omega⟩
 | x :: l => by
  obtain ⟨ih1, ih2⟩ := index_spl c l
  have hg := index_ge0 c l
  rw [index_cons]
  by_cases hx : x = c
  ·subst hx
   rw [if_pos rfl]
   refine ⟨fun h => by omega, fun i hi => ?_⟩
   have : i = 0 := by omega
   subst this
   simp [spl]
  rw [if_neg hx]
  have hxc : (x :: l).count c = l.count c := by
   rw [List.count_cons]
   have : (x == c) = false := by rw [beq_eq_false_iff_ne]; exact hx
   rw [this]; simp
  by_cases hm : Lib.index l [c] = -1
  ·rw [if_pos hm]
   obtain ⟨a1, a2⟩ := ih1 hm
   refine ⟨fun _ => ⟨?_, by rw [hxc, a2]⟩, fun i hi => by omega⟩
   rw [spl, if_neg hx, a1]
  rw [if_neg hm]
  obtain ⟨j, hj⟩ : ∃ j : Nat, Lib.index l [c] = j := Int.eq_ofNat_of_zero_le (by omega)
  refine ⟨fun h => by omega, fun i hi => ?_⟩
  have : i = j + 1 := by omega
  subst this
  obtain ⟨a1, a2⟩ := ih2 j hj
  rw [spl, if_neg hx, a1, hxc, a2]
  exact ⟨rfl, rfl⟩
theorem index_byte (c : UInt8) : ∀ l : Str, Lib.index l [c] = Lib.indexByte l c
 | [] => rfl
 | x :: l => by
  rw [index_cons, Lib.indexByte, index_byte c l]
  by_cases h : x = c
  ·subst h; simp
  have : (x == c) = false := by rw [beq_eq_false_iff_ne]; exact h
  rw [this, if_neg h]; simp
def strings_Index.f (s sep : Str) : Option Int := match sep with
  | [c] => some (Lib.index s [c])
  | _ => none
def strings_Index.R (r : Int) (v : Value) (L : List Asn) : Prop := v = .int .i64 r ∧ L = []
theorem strings_Index.calls (w : World) (s sep : Str) : ∀ v, strings_Index.f s sep = some v → Calls Tryz.prog 94 #[strv s, strv sep] w (Ret w (strings_Index.R v)) := by
 intro v hv
 unfold strings_Index.f at hv
 split at hv
 case h_2 => cases hv
 case h_1 c =>
  obtain rfl := Option.some.inj hv
  refine (Any.strings_Index_one lays143 ⟨s.toArray⟩ c w).mono ?_
  rintro e W' ⟨rfl, rfl⟩
  rw [← index_byte]
  exact ret_below (Below.refl _ _) ⟨rfl, rfl⟩
def strings_explode.f (_s : Str) (_n : Int) : Option (List Str) := none
def strings_explode.R (r : List Str) (v : Value) (L : List Asn) : Prop := ∃ s0 : SV, v = SV.v s0 ∧ L = [row Es 9 s0 r]
theorem strings_explode.calls (w : World) (s : Str) (n : Int) : ∀ v, strings_explode.f s n = some v → Calls Tryz.prog 110 #[strv s, .int .i64 n] w (Ret w (strings_explode.R v)) := fun v hv => by cases hv
def strings_genSplit.b0 (x1 : Str) (x5 : Int) (x2 : Str) (x3 : Int) : Str × (List Str) × Int → Option (LB (Str × (List Str) × Int)) := fun p => match p with | (x6, l1, x7) => (bif (decide (x7 < (w64 ((if (w64 ((x1.length : Int) + 1)) < x5 then (w64 ((x1.length : Int) + 1)) else x5) - 1)))) then (G.strings_Index.f x6 x2).bind (fun r_3 => (bif (decide (r_3 < 0)) then some (.brk (x6, l1, x7)) else grd (decide (0 ≤ 0) && decide (0 ≤ (w64 (r_3 + x3))) && decide ((w64 (r_3 + x3)) ≤ (x6.length : Int))) (chk x7 l1.length (grd (decide (0 ≤ (w64 (r_3 + (x2.length : Int)))) && decide ((w64 (r_3 + (x2.length : Int))) ≤ (x6.length : Int)) && decide ((x6.length : Int) ≤ (x6.length : Int))) (some (.next (((x6.drop ((w64 (r_3 + (x2.length : Int))).toNat)).take (x6.length - ((w64 (r_3 + (x2.length : Int))).toNat))), (l1.set x7.toNat ((x6.drop 0).take (((w64 (r_3 + x3)).toNat) - 0))), (w64 (x7 + 1))))))))) else some (.brk (x6, l1, x7)))
def strings_genSplit.f (x1 : Str) (x2 : Str) (x3 : Int) (x4 : Int) : Option (List Str) := (bif (x4 == 0) then some ([] : List Str) else (bif (x2 == ([] : Str)) then (G.strings_explode.f x1 x4).bind (fun r_1 => some r_1) else ((bif (decide (x4 < 0)) then (G.strings_Count.f x1 x2).bind (fun r_2 => some (w64 (r_2 + 1))) else some x4)).bind (fun x5 => grd (decide (0 ≤ (if (w64 ((x1.length : Int) + 1)) < x5 then (w64 ((x1.length : Int) + 1)) else x5))) (small (if (w64 ((x1.length : Int) + 1)) < x5 then (w64 ((x1.length : Int) + 1)) else x5).toNat ((loop1 (strings_genSplit.b0 x1 x5 x2 x3) (x1, (List.replicate (if (w64 ((x1.length : Int) + 1)) < x5 then (w64 ((x1.length : Int) + 1)) else x5).toNat (([] : Str) : Str)), 0)).bind (fun p => match p with | (x6, l1, x7) => chk x7 l1.length (grd (decide (0 ≤ 0) && decide (0 ≤ (w64 (x7 + 1))) && decide ((w64 (x7 + 1)) ≤ ((l1.set x7.toNat x6).length : Int))) (some (((l1.set x7.toNat x6).drop 0).take (((w64 (x7 + 1)).toNat) - 0))))))))))
def strings_genSplit.R (r : List Str) (v : Value) (L : List Asn) : Prop := ∃ (s0 : SV), v = SV.v s0 ∧ L = [row Es 9 s0 r]
theorem strings_genSplit.calls (w : World) (x1 : Str) (x2 : Str) (x3 : Int) (x4 : Int) :
  ∀ r, strings_genSplit.f x1 x2 x3 x4 = some r → Calls Tryz.prog 86 #[strv x1, strv x2, .int .i64 x3, .int .i64 x4] w (Ret w (strings_genSplit.R r)) := by
 refine calls_T (n := 66) (Γ := [(0, strv x1), (1, strv x2), (2, .int .i64 x3), (3, .int .i64 x4)]) (R := strings_genSplit.R) Tryz.func86 rfl rfl (Nat.le_of_ble_eq_true rfl) ⟨rfl, rfl, rfl, rfl, trivial⟩ ?_
 unfold strings_genSplit.f
 refine TC.seq <| TC.region <| TL.as (SV.v ⟨none, 0, 0⟩) <| TL.done <| TC.seq <| TC.seq ?_
 refine TC.region <| TL.mv (.int .i64 x4) <| TL.bn .i64 x4 0 (.bool (x4 == 0)) <| TL.done ?_
 refine TC.cond (b := (x4 == 0)) rfl (fun c1 => ?_) (fun c2 => ?_)
 ·refine TC.seq <| TC.region <| TL.as (SV.v ⟨none, 0, 0⟩) <| TL.done ?_
  refine TC.nilrow Es 9 ?_
  exact TC.retF (Fin.body (fin1 (.inr rfl) rfl (.tmp rfl) [0] rfl ⟨⟨none, 0, 0⟩, rfl, rfl⟩))
 refine TC.skip <| TC.seq <| TC.seq <| TC.region <| TL.mv (strv x2) <| TL.strEq x2 ([] : Str) rfl rfl rfl rfl ?_
 refine TL.done ?_
 refine TC.cond (b := (x2 == ([] : Str))) rfl (fun c3 => ?_) (fun c4 => ?_)
 ·refine TC.seq <| TC.region <| TL.mv (strv x1) <| TL.mv (.int .i64 x4) ?_
  refine TL.call (R := G.strings_explode.R) Tryz.call110 rfl rfl rfl (fun w hS => G.strings_explode.calls w x1 x4) ?_
  rintro r_1 _ _ ⟨s1, rfl, rfl⟩
  exact TL.as (SV.v s1) <| TL.done <| TC.retF (Fin.body (fin1 (.inr rfl) rfl (.tmp rfl) [0] rfl ⟨s1, rfl, rfl⟩))
 refine TC.skip <| TC.seq <| TC.seq <| TC.region <| TL.mv (.int .i64 x4) <| TL.bn .i64 x4 0 (.bool (decide (x4 < 0))) ?_
 refine TL.done ?_
 refine TC.join1 (σ := Int) (γ := Unit) (Γ' := (fun x5 _ => [(0, strv x1), (1, strv x2), (2, .int .i64 x3), (3, .int .i64 x5)])) (L' := (fun x5 _ => [])) ?_ ?_
 ·refine TC.cond (b := (decide (x4 < 0))) rfl (fun c5 => ?_) (fun c6 => ?_)
  ·refine TC.region <| TL.mv (strv x1) <| TL.mv (strv x2) ?_
   refine TL.call (R := G.strings_Count.R) Tryz.call73 rfl rfl rfl (fun w hS => G.strings_Count.calls w x1 x2) ?_
   rintro r_2 _ _ ⟨rfl, rfl⟩
   exact TL.bn .i64 r_2 1 (.int .i64 (w64 (r_2 + 1))) <| TL.as (.int .i64 (w64 (r_2 + 1))) <| TL.done <| TC.nrm ((w64 (r_2 + 1))) (()) ⟨rfl, rfl, rfl, rfl, trivial⟩ [] rfl
  exact TC.skip <| TC.nrm (x4) (()) ⟨rfl, rfl, rfl, rfl, trivial⟩ [] rfl
 rintro x5 _
 refine TC.seq <| TC.region <| TL.mv (.int .i64 x5) <| TL.mv (strv x1) <| TL.lenstr Tryz.underlying9 rfl rfl rfl <| TL.bn .i64 (x1.length : Int) 1 (.int .i64 (w64 ((x1.length : Int) + 1))) ?_
 refine TL.min2 rfl rfl rfl rfl ?_
 refine TL.as (.int .i64 (if (w64 ((x1.length : Int) + 1)) < x5 then (w64 ((x1.length : Int) + 1)) else x5)) <| TL.done <| TC.seq <| TC.region <| TL.mv (.int .i64 (if (w64 ((x1.length : Int) + 1)) < x5 then (w64 ((x1.length : Int) + 1)) else x5)) ?_
 refine TL.grd fun h2 => ?_
 refine TL.small fun h1 => ?_
 refine TL.mkslice Es (([] : Str) : Str) (if (w64 ((x1.length : Int) + 1)) < x5 then (w64 ((x1.length : Int) + 1)) else x5) Tryz.underlying49 (info_of Tryz.type9) (zv := (Tryz.t9.zero.getD (.bool false))) rfl rfl rfl (by simp [Es]) (by decide) (by simpa using h2) (by omega) rfl rfl rfl rfl fun s2 => ?_
 refine TL.as (SV.v s2) <| TL.done <| TC.seq <| TC.region <| TL.mv (.int .i64 (if (w64 ((x1.length : Int) + 1)) < x5 then (w64 ((x1.length : Int) + 1)) else x5)) <| TL.bn .i64 (if (w64 ((x1.length : Int) + 1)) < x5 then (w64 ((x1.length : Int) + 1)) else x5) 1 (.int .i64 (w64 ((if (w64 ((x1.length : Int) + 1)) < x5 then (w64 ((x1.length : Int) + 1)) else x5) - 1))) ?_
 refine TL.as (.int .i64 (w64 ((if (w64 ((x1.length : Int) + 1)) < x5 then (w64 ((x1.length : Int) + 1)) else x5) - 1))) <| TL.done <| TC.seq <| TC.region <| TL.as (.int .i64 0) <| TL.done ?_
 refine TC.seq ?_
 refine TC.loop1 (σ := Str × (List Str) × Int) (γ := Unit) (Γ' := (fun p q => match p, q with | (x6, l1, x7), _ => [(0, strv x6), (1, strv x2), (2, .int .i64 x3), (3, .int .i64 (w64 ((if (w64 ((x1.length : Int) + 1)) < x5 then (w64 ((x1.length : Int) + 1)) else x5) - 1))), (9, SV.v s2), (10, .int .i64 x7)])) (L' := (fun p q => match p, q with | (x6, l1, x7), _ => [row Es 9 s2 l1])) (Γb := (fun p q => match p, q with | (x6, l1, x7), _ => [(0, strv x6), (1, strv x2), (2, .int .i64 x3), (3, .int .i64 (w64 ((if (w64 ((x1.length : Int) + 1)) < x5 then (w64 ((x1.length : Int) + 1)) else x5) - 1))), (9, SV.v s2), (10, .int .i64 x7)])) (Lb := (fun p q => match p, q with | (x6, l1, x7), _ => [row Es 9 s2 l1])) ((x1, (List.replicate (if (w64 ((x1.length : Int) + 1)) < x5 then (w64 ((x1.length : Int) + 1)) else x5).toNat (([] : Str) : Str)), 0)) (()) ⟨rfl, rfl, rfl, rfl, rfl, rfl, trivial⟩ [0] rfl ?_ ?_
 ·rintro ⟨x6, l1, x7⟩ _
  refine TC.seq <| TC.seq <| TC.region <| TL.mv (.int .i64 x7) <| TL.mv (.int .i64 (w64 ((if (w64 ((x1.length : Int) + 1)) < x5 then (w64 ((x1.length : Int) + 1)) else x5) - 1))) <| TL.bn .i64 x7 (w64 ((if (w64 ((x1.length : Int) + 1)) < x5 then (w64 ((x1.length : Int) + 1)) else x5) - 1)) (.bool (decide (x7 < (w64 ((if (w64 ((x1.length : Int) + 1)) < x5 then (w64 ((x1.length : Int) + 1)) else x5) - 1))))) ?_
  refine TL.done ?_
  refine TC.cond (b := (decide (x7 < (w64 ((if (w64 ((x1.length : Int) + 1)) < x5 then (w64 ((x1.length : Int) + 1)) else x5) - 1))))) rfl (fun c7 => ?_) (fun c8 => ?_)
  ·refine TC.skip <| TC.block (NoEx.loop1 rfl) <| TC.seq <| TC.region <| TL.mv (strv x6) <| TL.mv (strv x2) ?_
   refine TL.call (R := G.strings_Index.R) Tryz.call94 rfl rfl rfl (fun w hS => G.strings_Index.calls w x6 x2) ?_
   rintro r_3 _ _ ⟨rfl, rfl⟩
   refine TL.as (.int .i64 r_3) <| TL.done <| TC.seq <| TC.seq <| TC.region <| TL.mv (.int .i64 r_3) ?_
   refine TL.bn .i64 r_3 0 (.bool (decide (r_3 < 0))) <| TL.done ?_
   refine TC.cond (b := (decide (r_3 < 0))) rfl (fun c9 => ?_) (fun c10 => ?_)
   ·exact TC.brk1 ((x6, l1, x7)) (()) ⟨rfl, rfl, rfl, rfl, rfl, rfl, trivial⟩ [0] rfl
   refine TC.skip <| TC.seq <| TC.region <| TL.mv (SV.v s2) <| TL.mv (.int .i64 x7) <| TL.mv (strv x6) ?_
   refine TL.mv (.int .i64 r_3) <| TL.mv (.int .i64 x3) <| TL.bn .i64 r_3 x3 (.int .i64 (w64 (r_3 + x3))) ?_
   refine TL.grd fun h3 => ?_
   refine TL.slicestr (li := none) (hi' := (some (w64 (r_3 + x3)))) (l := 0) (h := ((w64 (r_3 + x3)).toNat)) Tryz.underlying9 rfl rfl (by have h_ := h3; simp only [Bool.and_eq_true, decide_eq_true_eq] at h_; first | rfl | omega | (simp only [Option.getD_some]; omega) | (simp only [Option.getD_none]; omega)) (by have h_ := h3; simp only [Bool.and_eq_true, decide_eq_true_eq] at h_; first | rfl | omega | (simp only [Option.getD_some]; omega) | (simp only [Option.getD_none]; omega)) (by have h_ := h3; simp only [Bool.and_eq_true, decide_eq_true_eq] at h_; first | rfl | omega | (simp only [Option.getD_some]; omega) | (simp only [Option.getD_none]; omega)) (by have h_ := h3; simp only [Bool.and_eq_true, decide_eq_true_eq] at h_; first | rfl | omega | (simp only [Option.getD_some]; omega) | (simp only [Option.getD_none]; omega)) rfl rfl rfl ?_
   refine TL.chk fun h4 => ?_
   refine TL.ixs x7 x7.toNat (Rd.row 0 rfl) h4 Tryz.underlying49 Tryz.sizeOf9 rfl rfl rfl rfl (by omega) ?_
   refine TL.stE 0 (x7.toNat) ((x6.drop 0).take (((w64 (r_3 + x3)).toNat) - 0)) (v := strv ((x6.drop 0).take (((w64 (r_3 + x3)).toNat) - 0))) rfl Tryz.sizeOf9 rfl rfl rfl (by have h_ := h4; omega) (by simp only [show Es.sz = 1 from rfl] <;> omega) rfl rfl rfl ?_
   refine TL.done <| TC.seq <| TC.region <| TL.mv (strv x6) <| TL.mv (.int .i64 r_3) <| TL.mv (strv x2) ?_
   refine TL.lenstr Tryz.underlying9 rfl rfl rfl <| TL.bn .i64 r_3 (x2.length : Int) (.int .i64 (w64 (r_3 + (x2.length : Int)))) ?_
   refine TL.grd fun h5 => ?_
   refine TL.slicestr (li := (some (w64 (r_3 + (x2.length : Int))))) (hi' := none) (l := ((w64 (r_3 + (x2.length : Int))).toNat)) (h := x6.length) Tryz.underlying9 rfl rfl (by have h_ := h5; simp only [Bool.and_eq_true, decide_eq_true_eq] at h_; first | rfl | omega | (simp only [Option.getD_some]; omega) | (simp only [Option.getD_none]; omega)) (by have h_ := h5; simp only [Bool.and_eq_true, decide_eq_true_eq] at h_; first | rfl | omega | (simp only [Option.getD_some]; omega) | (simp only [Option.getD_none]; omega)) (by have h_ := h5; simp only [Bool.and_eq_true, decide_eq_true_eq] at h_; first | rfl | omega | (simp only [Option.getD_some]; omega) | (simp only [Option.getD_none]; omega)) (by have h_ := h5; simp only [Bool.and_eq_true, decide_eq_true_eq] at h_; first | rfl | omega | (simp only [Option.getD_some]; omega) | (simp only [Option.getD_none]; omega)) rfl rfl rfl <| TL.as (strv ((x6.drop ((w64 (r_3 + (x2.length : Int))).toNat)).take (x6.length - ((w64 (r_3 + (x2.length : Int))).toNat)))) <| TL.done <| TC.region <| TL.mv (.int .i64 x7) <| TL.bn .i64 x7 1 (.int .i64 (w64 (x7 + 1))) ?_
   refine TL.as (.int .i64 (w64 (x7 + 1))) <| TL.done ?_
   exact TC.next1 ((((x6.drop ((w64 (r_3 + (x2.length : Int))).toNat)).take (x6.length - ((w64 (r_3 + (x2.length : Int))).toNat))), (l1.set x7.toNat ((x6.drop 0).take (((w64 (r_3 + x3)).toNat) - 0))), (w64 (x7 + 1)))) (()) ⟨rfl, rfl, rfl, rfl, rfl, rfl, trivial⟩ [0] rfl
  exact TC.brk1 ((x6, l1, x7)) (()) ⟨rfl, rfl, rfl, rfl, rfl, rfl, trivial⟩ [0] rfl
 rintro ⟨x6, l1, x7⟩ _
 refine TC.seq <| TC.region <| TL.mv (SV.v s2) <| TL.mv (.int .i64 x7) <| TL.mv (strv x6) ?_
 refine TL.chk fun h6 => ?_
 refine TL.ixs x7 x7.toNat (Rd.row 0 rfl) h6 Tryz.underlying49 Tryz.sizeOf9 rfl rfl rfl rfl (by omega) ?_
 refine TL.stE 0 (x7.toNat) x6 (v := strv x6) rfl Tryz.sizeOf9 rfl rfl rfl (by have h_ := h6; omega) (by simp only [show Es.sz = 1 from rfl] <;> omega) rfl rfl rfl ?_
 refine TL.done <| TC.seq <| TC.region <| TL.mv (SV.v s2) <| TL.mv (.int .i64 x7) <| TL.bn .i64 x7 1 (.int .i64 (w64 (x7 + 1))) ?_
 refine TL.grd fun h7 => ?_
 refine TL.slice (li := none) (hi' := (some (w64 (x7 + 1)))) (l := 0) (h := ((w64 (x7 + 1)).toNat)) (Rd.row 0 rfl) Tryz.underlying49 Tryz.sizeOf9 rfl rfl (by have h_ := h7; simp only [Bool.and_eq_true, decide_eq_true_eq] at h_; first | rfl | omega | (simp only [Option.getD_some]; omega) | (simp only [Option.getD_none]; omega)) (by have h_ := h7; simp only [Bool.and_eq_true, decide_eq_true_eq] at h_; first | rfl | omega | (simp only [Option.getD_some]; omega) | (simp only [Option.getD_none]; omega)) (by have h_ := h7; simp only [Bool.and_eq_true, decide_eq_true_eq] at h_; omega) (by have h_ := h7; simp only [Bool.and_eq_true, decide_eq_true_eq] at h_; omega) rfl rfl rfl <| TL.as (SV.v (SV.cut s2 0 ((w64 (x7 + 1)).toNat) s2.c Es.sz)) <| TL.done ?_
 refine TC.shrink (l := ((w64 (x7 + 1)).toNat)) 0 rfl (by have h_ := h7; simp only [Bool.and_eq_true, decide_eq_true_eq] at h_; omega) ?_
 exact TC.retF (Fin.body (fin1 (.inr rfl) rfl (.tmp rfl) [0] rfl ⟨(SV.cut s2 0 ((w64 (x7 + 1)).toNat) s2.c Es.sz), rfl, rfl⟩))
def strings_Split.f (s1 : Str) (sep1 : Str) : Option (List Str) := (G.strings_genSplit.f s1 sep1 0 (-1)).bind (fun r_1 => some r_1)
def strings_Split.R (r : List Str) (v : Value) (L : List Asn) : Prop := ∃ (s0 : SV), v = SV.v s0 ∧ L = [row Es 9 s0 r]
theorem strings_Split.calls (w : World) (s1 : Str) (sep1 : Str) :
  ∀ r, strings_Split.f s1 sep1 = some r → Calls Tryz.prog 64 #[strv s1, strv sep1] w (Ret w (strings_Split.R r)) := by
 refine calls_T (n := 8) (Γ := [(0, strv s1), (1, strv sep1)]) (R := strings_Split.R) Tryz.func64 rfl rfl (Nat.le_of_ble_eq_true rfl) ⟨rfl, rfl, trivial⟩ ?_
 unfold strings_Split.f
 refine TC.seq <| TC.region <| TL.as (SV.v ⟨none, 0, 0⟩) <| TL.done <| TC.seq <| TC.region ?_
 refine TL.mv (strv s1) <| TL.mv (strv sep1) ?_
 refine TL.call (R := G.strings_genSplit.R) Tryz.call86 rfl rfl rfl (fun w hS => G.strings_genSplit.calls w s1 sep1 0 (-1)) ?_
 rintro r_1 _ _ ⟨s2, rfl, rfl⟩
 exact TL.as (SV.v s2) <| TL.done <| TC.retF (Fin.body (fin1 (.inr rfl) rfl (.tmp rfl) [0] rfl ⟨s2, rfl, rfl⟩))
def impl_layers.f (word1 : Str) : Option (List Str) := (bif (word1 == ([] : Str)) then some ([] : List Str) else (G.strings_Split.f word1 ([47] : Str)).bind (fun r_1 => some r_1))
def impl_layers.R (r : List Str) (v : Value) (L : List Asn) : Prop := ∃ (s0 : SV), v = SV.v s0 ∧ L = [row Es 9 s0 r]
theorem impl_layers.calls (w : World) (word1 : Str) :
  ∀ r, impl_layers.f word1 = some r → Calls Tryz.prog 31 #[strv word1] w (Ret w (impl_layers.R r)) := by
 refine calls_T (n := 7) (Γ := [(0, strv word1)]) (R := impl_layers.R) Tryz.func31 rfl rfl (Nat.le_of_ble_eq_true rfl) ⟨rfl, trivial⟩ ?_
 unfold impl_layers.f
 refine TC.seq <| TC.region <| TL.as (SV.v ⟨none, 0, 0⟩) <| TL.done <| TC.seq <| TC.seq ?_
 refine TC.region <| TL.mv (strv word1) <| TL.strEq word1 ([] : Str) rfl rfl rfl rfl <| TL.done ?_
 refine TC.cond (b := (word1 == ([] : Str))) rfl (fun c1 => ?_) (fun c2 => ?_)
 ·refine TC.seq <| TC.region <| TL.as (SV.v ⟨none, 0, 0⟩) <| TL.done ?_
  refine TC.nilrow Es 9 ?_
  exact TC.retF (Fin.body (fin1 (.inr rfl) rfl (.tmp rfl) [0] rfl ⟨⟨none, 0, 0⟩, rfl, rfl⟩))
 refine TC.skip <| TC.seq <| TC.region <| TL.mv (strv word1) ?_
 refine TL.call (R := G.strings_Split.R) Tryz.call64 rfl rfl rfl (fun w hS => G.strings_Split.calls w word1 ([47] : Str)) ?_
 rintro r_1 _ _ ⟨s1, rfl, rfl⟩
 exact TL.as (SV.v s1) <| TL.done <| TC.retF (Fin.body (fin1 (.inr rfl) rfl (.tmp rfl) [0] rfl ⟨s1, rfl, rfl⟩))
def impl_legsOfPiece.f (c1 : UInt8) : Option (Int × Int × Bool) := (bif ((c1.toNat : Int) == ((105 : UInt8).toNat : Int)) then some (1, 1, true) else (bif ((c1.toNat : Int) == ((120 : UInt8).toNat : Int)) then some (2, 2, true) else (bif ((c1.toNat : Int) == ((109 : UInt8).toNat : Int)) then some (2, 1, true) else (bif ((c1.toNat : Int) == ((115 : UInt8).toNat : Int)) then some (1, 2, true) else (bif ((c1.toNat : Int) == ((117 : UInt8).toNat : Int)) then some (0, 1, true) else (bif ((c1.toNat : Int) == ((101 : UInt8).toNat : Int)) then some (1, 0, true) else some (0, 0, false)))))))
def impl_legsOfPiece.R (r : Int × Int × Bool) (v : Value) (L : List Asn) : Prop := v = .tuple #[.int .i64 r.1, .int .i64 r.2.1, .bool r.2.2] ∧ L = []
theorem impl_legsOfPiece.calls (w : World) (c1 : UInt8) :
  ∀ r, impl_legsOfPiece.f c1 = some r → Calls Tryz.prog 65 #[u8v c1] w (Ret w (impl_legsOfPiece.R r)) := by
 refine calls_T (n := 18) (Γ := [(0, u8v c1)]) (R := impl_legsOfPiece.R) Tryz.func65 rfl rfl (Nat.le_of_ble_eq_true rfl) ⟨rfl, trivial⟩ ?_
 unfold impl_legsOfPiece.f
 refine TC.seq <| TC.region <| TL.as (.int .i64 0) <| TL.as (.int .i64 0) <| TL.as (.bool false) <| TL.done ?_
 refine TC.seq <| TC.seq <| TC.region <| TL.mv (u8v c1) <| TL.done <| TC.block NoEx.body ?_
 refine TC.seq <| TC.region <| TL.bn .u8 (c1.toNat : Int) ((105 : UInt8).toNat : Int) (.bool ((c1.toNat : Int) == ((105 : UInt8).toNat : Int))) <| TL.as (.bool ((c1.toNat : Int) == ((105 : UInt8).toNat : Int))) <| TL.done ?_
 refine TC.cond (b := ((c1.toNat : Int) == ((105 : UInt8).toNat : Int))) rfl (fun c2 => ?_) (fun c3 => ?_)
 ·refine TC.seq <| TC.region <| TL.as (.int .i64 1) <| TL.as (.int .i64 1) <| TL.as (.bool true) <| TL.done ?_
  exact TC.retF (Fin.body (fin3 (.inr rfl) rfl (.tmp rfl) (.tmp rfl) (.tmp rfl) [] rfl ⟨rfl, rfl⟩))
 refine TC.seq <| TC.region <| TL.bn .u8 (c1.toNat : Int) ((120 : UInt8).toNat : Int) (.bool ((c1.toNat : Int) == ((120 : UInt8).toNat : Int))) <| TL.as (.bool ((c1.toNat : Int) == ((120 : UInt8).toNat : Int))) <| TL.done ?_
 refine TC.cond (b := ((c1.toNat : Int) == ((120 : UInt8).toNat : Int))) rfl (fun c4 => ?_) (fun c5 => ?_)
 ·refine TC.seq <| TC.region <| TL.as (.int .i64 2) <| TL.as (.int .i64 2) <| TL.as (.bool true) <| TL.done ?_
  exact TC.retF (Fin.body (fin3 (.inr rfl) rfl (.tmp rfl) (.tmp rfl) (.tmp rfl) [] rfl ⟨rfl, rfl⟩))
 refine TC.seq <| TC.region <| TL.bn .u8 (c1.toNat : Int) ((109 : UInt8).toNat : Int) (.bool ((c1.toNat : Int) == ((109 : UInt8).toNat : Int))) <| TL.as (.bool ((c1.toNat : Int) == ((109 : UInt8).toNat : Int))) <| TL.done ?_
 refine TC.cond (b := ((c1.toNat : Int) == ((109 : UInt8).toNat : Int))) rfl (fun c6 => ?_) (fun c7 => ?_)
 ·refine TC.seq <| TC.region <| TL.as (.int .i64 2) <| TL.as (.int .i64 1) <| TL.as (.bool true) <| TL.done ?_
  exact TC.retF (Fin.body (fin3 (.inr rfl) rfl (.tmp rfl) (.tmp rfl) (.tmp rfl) [] rfl ⟨rfl, rfl⟩))
 refine TC.seq <| TC.region <| TL.bn .u8 (c1.toNat : Int) ((115 : UInt8).toNat : Int) (.bool ((c1.toNat : Int) == ((115 : UInt8).toNat : Int))) <| TL.as (.bool ((c1.toNat : Int) == ((115 : UInt8).toNat : Int))) <| TL.done ?_
 refine TC.cond (b := ((c1.toNat : Int) == ((115 : UInt8).toNat : Int))) rfl (fun c8 => ?_) (fun c9 => ?_)
 ·refine TC.seq <| TC.region <| TL.as (.int .i64 1) <| TL.as (.int .i64 2) <| TL.as (.bool true) <| TL.done ?_
  exact TC.retF (Fin.body (fin3 (.inr rfl) rfl (.tmp rfl) (.tmp rfl) (.tmp rfl) [] rfl ⟨rfl, rfl⟩))
 refine TC.seq <| TC.region <| TL.bn .u8 (c1.toNat : Int) ((117 : UInt8).toNat : Int) (.bool ((c1.toNat : Int) == ((117 : UInt8).toNat : Int))) <| TL.as (.bool ((c1.toNat : Int) == ((117 : UInt8).toNat : Int))) <| TL.done ?_
 refine TC.cond (b := ((c1.toNat : Int) == ((117 : UInt8).toNat : Int))) rfl (fun c10 => ?_) (fun c11 => ?_)
 ·refine TC.seq <| TC.region <| TL.as (.int .i64 0) <| TL.as (.int .i64 1) <| TL.as (.bool true) <| TL.done ?_
  exact TC.retF (Fin.body (fin3 (.inr rfl) rfl (.tmp rfl) (.tmp rfl) (.tmp rfl) [] rfl ⟨rfl, rfl⟩))
 refine TC.seq <| TC.region <| TL.bn .u8 (c1.toNat : Int) ((101 : UInt8).toNat : Int) (.bool ((c1.toNat : Int) == ((101 : UInt8).toNat : Int))) <| TL.as (.bool ((c1.toNat : Int) == ((101 : UInt8).toNat : Int))) <| TL.done ?_
 refine TC.cond (b := ((c1.toNat : Int) == ((101 : UInt8).toNat : Int))) rfl (fun c12 => ?_) (fun c13 => ?_)
 ·refine TC.seq <| TC.region <| TL.as (.int .i64 1) <| TL.as (.int .i64 0) <| TL.as (.bool true) <| TL.done ?_
  exact TC.retF (Fin.body (fin3 (.inr rfl) rfl (.tmp rfl) (.tmp rfl) (.tmp rfl) [] rfl ⟨rfl, rfl⟩))
 refine TC.skip <| TC.seq <| TC.region <| TL.as (.int .i64 0) <| TL.as (.int .i64 0) <| TL.as (.bool false) ?_
 exact TL.done <| TC.retF (Fin.body (fin3 (.inr rfl) rfl (.tmp rfl) (.tmp rfl) (.tmp rfl) [] rfl ⟨rfl, rfl⟩))
def impl_legsOfLayer.b0 (layer1 : Str) : Int × Int × Int → Option (LR (Int × Int × Int) (Int × Int × Bool)) := fun p => match p with | (ins1, outs1, x1) => (bif (decide (x1 < (layer1.length : Int))) then chk x1 layer1.length ((G.impl_legsOfPiece.f (gt layer1 x1)).bind (fun p => match p with | (r_1, r_2, r_3) => (bif (!r_3) then some (.ret ((0, 0, false))) else some (.next ((w64 (ins1 + r_1)), (w64 (outs1 + r_2)), (w64 (x1 + 1))))))) else some (.brk (ins1, outs1, x1)))
def impl_legsOfLayer.f (layer1 : Str) : Option (Int × Int × Bool) := (loop (impl_legsOfLayer.b0 layer1) (0, 0, 0)).bind (ln (fun p => match p with | (ins1, outs1, x1) => some (ins1, outs1, (layer1 != ([] : Str)))))
def impl_legsOfLayer.R (r : Int × Int × Bool) (v : Value) (L : List Asn) : Prop := v = .tuple #[.int .i64 r.1, .int .i64 r.2.1, .bool r.2.2] ∧ L = []
theorem impl_legsOfLayer.calls (w : World) (layer1 : Str) :
  ∀ r, impl_legsOfLayer.f layer1 = some r → Calls Tryz.prog 32 #[strv layer1] w (Ret w (impl_legsOfLayer.R r)) := by
 refine calls_T (n := 37) (Γ := [(0, strv layer1)]) (R := impl_legsOfLayer.R) Tryz.func32 rfl rfl (Nat.le_of_ble_eq_true rfl) ⟨rfl, trivial⟩ ?_
 unfold impl_legsOfLayer.f
 refine TC.seq <| TC.region <| TL.as (.int .i64 0) <| TL.as (.int .i64 0) <| TL.as (.bool false) <| TL.done ?_
 refine TC.seq <| TC.region <| TL.as (.int .i64 0) <| TL.as (.int .i64 0) <| TL.done <| TC.seq ?_
 refine TC.seq <| TC.region <| TL.mv (strv layer1) <| TL.lenstr Tryz.underlying9 rfl rfl rfl <| TL.mv (.int .i64 0) <| TL.done ?_
 refine TC.loopK (σ := Int × Int × Int) (γ := Unit) (Γ' := (fun p q => match p, q with | (ins1, outs1, x1), _ => [(0, strv layer1), (5, .int .i64 ins1), (6, .int .i64 outs1), (12, .int .i64 (layer1.length : Int)), (13, .int .i64 x1)])) (L' := (fun p q => match p, q with | (ins1, outs1, x1), _ => [])) (Γb := (fun p q => match p, q with | (ins1, outs1, x1), _ => [(0, strv layer1), (5, .int .i64 ins1), (6, .int .i64 outs1), (12, .int .i64 (layer1.length : Int)), (13, .int .i64 x1)])) (Lb := (fun p q => match p, q with | (ins1, outs1, x1), _ => [])) ((0, 0, 0)) (()) ⟨rfl, rfl, rfl, rfl, rfl, trivial⟩ [] rfl ?_ ?_
 ·rintro ⟨ins1, outs1, x1⟩ _
  refine TC.seq <| TC.region <| TL.bn .i64 x1 (layer1.length : Int) (.bool (decide (x1 < (layer1.length : Int)))) <| TL.done <| TC.seq ?_
  refine TC.cond (b := (decide (x1 < (layer1.length : Int)))) rfl (fun c1 => ?_) (fun c2 => ?_)
  ·refine TC.skip <| TC.seq <| TC.block (NoEx.loop rfl NoEx.body) <| TC.seq <| TC.region <| TL.mv (.int .i64 x1) ?_
   refine TL.as (.int .i64 x1) <| TL.done <| TC.seq <| TC.region <| TL.mv (strv layer1) <| TL.mv (.int .i64 x1) ?_
   refine TL.chk fun h1 => ?_
   refine TL.ixstr x1 h1 Tryz.underlying9 rfl rfl rfl rfl ?_
   refine TL.call (R := G.impl_legsOfPiece.R) Tryz.call65 rfl rfl rfl (fun w hS => G.impl_legsOfPiece.calls w (gt layer1 x1)) ?_
   rintro ⟨r_1, r_2, r_3⟩ _ _ ⟨rfl, rfl⟩
   refine TL.mv (.tuple #[.int .i64 r_1, .int .i64 r_2, .bool r_3]) <| TL.extract rfl rfl rfl (v := .int .i64 r_1) rfl <| TL.extract rfl rfl rfl (v := .int .i64 r_2) rfl <| TL.extract rfl rfl rfl (v := .bool r_3) rfl <| TL.as (.int .i64 r_1) <| TL.as (.int .i64 r_2) ?_
   refine TL.as (.bool r_3) <| TL.done <| TC.seq <| TC.seq <| TC.region <| TL.mv (.bool r_3) ?_
   refine TL.not r_3 rfl rfl rfl ?_
   refine TL.done ?_
   refine TC.cond (b := (!r_3)) rfl (fun c3 => ?_) (fun c4 => ?_)
   ·refine TC.seq <| TC.region <| TL.as (.int .i64 0) <| TL.as (.int .i64 0) <| TL.as (.bool false) <| TL.done ?_
    exact TC.retF (Fin.loop Far.ret (Fin.body (fin3 (.inr rfl) rfl (.tmp rfl) (.tmp rfl) (.tmp rfl) [] rfl ⟨rfl, rfl⟩)))
   refine TC.skip <| TC.region <| TL.mv (.int .i64 ins1) <| TL.mv (.int .i64 r_1) <| TL.bn .i64 ins1 r_1 (.int .i64 (w64 (ins1 + r_1))) <| TL.mv (.int .i64 outs1) ?_
   refine TL.mv (.int .i64 r_2) <| TL.bn .i64 outs1 r_2 (.int .i64 (w64 (outs1 + r_2))) <| TL.as (.int .i64 (w64 (ins1 + r_1))) <| TL.as (.int .i64 (w64 (outs1 + r_2))) <| TL.done <| TC.region ?_
   refine TL.bn .i64 x1 1 (.int .i64 (w64 (x1 + 1))) <| TL.mv (.int .i64 (w64 (x1 + 1))) <| TL.done ?_
   exact TC.next (((w64 (ins1 + r_1)), (w64 (outs1 + r_2)), (w64 (x1 + 1)))) (()) ⟨rfl, rfl, rfl, rfl, rfl, trivial⟩ [] rfl
  exact TC.brk ((ins1, outs1, x1)) (()) ⟨rfl, rfl, rfl, rfl, rfl, trivial⟩ [] rfl
 rintro ⟨ins1, outs1, x1⟩ _
 refine TC.seq <| TC.region <| TL.mv (.int .i64 ins1) <| TL.mv (.int .i64 outs1) <| TL.mv (strv layer1) <| TL.strNe layer1 ([] : Str) rfl rfl rfl rfl ?_
 exact TL.as (.int .i64 ins1) <| TL.as (.int .i64 outs1) <| TL.as (.bool (layer1 != ([] : Str))) <| TL.done <| TC.retF (Fin.body (fin3 (.inr rfl) rfl (.tmp rfl) (.tmp rfl) (.tmp rfl) [] rfl ⟨rfl, rfl⟩))
def impl_letters.f (word1 : Str) : Option Int := (G.strings_Count.f word1 ([47] : Str)).bind (fun r_1 => some (w64 ((word1.length : Int) - r_1)))
def impl_letters.R (r : Int) (v : Value) (L : List Asn) : Prop := v = .int .i64 r ∧ L = []
theorem impl_letters.calls (w : World) (word1 : Str) :
  ∀ r, impl_letters.f word1 = some r → Calls Tryz.prog 66 #[strv word1] w (Ret w (impl_letters.R r)) := by
 refine calls_T (n := 8) (Γ := [(0, strv word1)]) (R := impl_letters.R) Tryz.func66 rfl rfl (Nat.le_of_ble_eq_true rfl) ⟨rfl, trivial⟩ ?_
 unfold impl_letters.f
 refine TC.seq <| TC.region <| TL.as (.int .i64 0) <| TL.done <| TC.seq <| TC.region ?_
 refine TL.mv (strv word1) <| TL.lenstr Tryz.underlying9 rfl rfl rfl <| TL.mv (strv word1) ?_
 refine TL.call (R := G.strings_Count.R) Tryz.call73 rfl rfl rfl (fun w hS => G.strings_Count.calls w word1 ([47] : Str)) ?_
 rintro r_1 _ _ ⟨rfl, rfl⟩
 exact TL.bn .i64 (word1.length : Int) r_1 (.int .i64 (w64 ((word1.length : Int) - r_1))) <| TL.as (.int .i64 (w64 ((word1.length : Int) - r_1))) <| TL.done <| TC.retF (Fin.body (fin1 (.inr rfl) rfl (.tmp rfl) [] rfl ⟨rfl, rfl⟩))
def impl_small.b0 (r_1 : List Str) : Int → Option (LR Int Bool) := fun x1 => (bif (decide (x1 < (r_1.length : Int))) then chk x1 r_1.length ((G.impl_legsOfLayer.f (gt r_1 x1)).bind (fun p => match p with | (r_2, r_3, r_4) => (bif ((decide (r_2 > 6)) || (decide (r_3 > 6))) then some (.ret (false)) else some (.next (w64 (x1 + 1)))))) else some (.brk x1))
def impl_small.f (word1 : Str) : Option Bool := (G.impl_layers.f word1).bind (fun r_1 => (loop (impl_small.b0 r_1) 0).bind (ln (fun x1 => (G.impl_letters.f word1).bind (fun r_5 => some (decide (r_5 ≤ 300))))))
def impl_small.R (r : Bool) (v : Value) (L : List Asn) : Prop := v = .bool r ∧ L = []
theorem impl_small.calls (w : World) (word1 : Str) :
  ∀ r, impl_small.f word1 = some r → Calls Tryz.prog 33 #[strv word1] w (Ret w (impl_small.R r)) := by
 refine calls_T (n := 31) (Γ := [(0, strv word1)]) (R := impl_small.R) Tryz.func33 rfl rfl (Nat.le_of_ble_eq_true rfl) ⟨rfl, trivial⟩ ?_
 unfold impl_small.f
 refine TC.seq <| TC.region <| TL.as (.bool false) <| TL.done <| TC.seq <| TC.seq ?_
 refine TC.region <| TL.mv (strv word1) ?_
 refine TL.call (R := G.impl_layers.R) Tryz.call31 rfl rfl rfl (fun w hS => G.impl_layers.calls w word1) ?_
 rintro r_1 _ _ ⟨s1, rfl, rfl⟩
 refine TL.len (Rd.row 0 rfl) Tryz.underlying49 rfl rfl rfl <| TL.mv (.int .i64 0) <| TL.done ?_
 refine TC.loopK (σ := Int) (γ := Unit) (Γ' := (fun x1 _ => [(0, strv word1), (9, SV.v s1), (10, .int .i64 (r_1.length : Int)), (11, .int .i64 x1)])) (L' := (fun x1 _ => [row Es 9 s1 r_1])) (Γb := (fun x1 _ => [(0, strv word1), (9, SV.v s1), (10, .int .i64 (r_1.length : Int)), (11, .int .i64 x1)])) (Lb := (fun x1 _ => [row Es 9 s1 r_1])) (0) (()) ⟨rfl, rfl, rfl, rfl, trivial⟩ [0] rfl ?_ ?_
 ·rintro x1 _
  refine TC.seq <| TC.region <| TL.bn .i64 x1 (r_1.length : Int) (.bool (decide (x1 < (r_1.length : Int)))) <| TL.done <| TC.seq ?_
  refine TC.cond (b := (decide (x1 < (r_1.length : Int)))) rfl (fun c1 => ?_) (fun c2 => ?_)
  ·refine TC.skip <| TC.seq <| TC.block (NoEx.loop rfl NoEx.body) <| TC.seq <| TC.region ?_
   refine TL.chk fun h1 => ?_
   refine TL.ixs x1 x1.toNat (Rd.row 0 rfl) h1 Tryz.underlying49 Tryz.sizeOf9 rfl rfl rfl rfl (by omega) ?_
   refine TL.loadE (Rd.row 0 rfl) Tryz.isAgg9 x1.toNat 0 (gt_spec h1) (v := strv (gt r_1 x1)) rfl (by simp only [show Es.sz = 1 from rfl] <;> omega) rfl rfl rfl ?_
   refine TL.as (strv (gt r_1 x1)) <| TL.done <| TC.seq <| TC.region <| TL.mv (strv (gt r_1 x1)) ?_
   refine TL.call (R := G.impl_legsOfLayer.R) Tryz.call32 rfl rfl rfl (fun w hS => G.impl_legsOfLayer.calls w (gt r_1 x1)) ?_
   rintro ⟨r_2, r_3, r_4⟩ _ _ ⟨rfl, rfl⟩
   refine TL.mv (.tuple #[.int .i64 r_2, .int .i64 r_3, .bool r_4]) <| TL.extract rfl rfl rfl (v := .int .i64 r_2) rfl <| TL.extract rfl rfl rfl (v := .int .i64 r_3) rfl <| TL.extract rfl rfl rfl (v := .bool r_4) rfl <| TL.as (.int .i64 r_2) <| TL.as (.int .i64 r_3) ?_
   refine TL.as (.bool r_4) <| TL.done <| TC.seq <| TC.region <| TL.mv (.int .i64 r_2) <| TL.bn .i64 r_2 6 (.bool (decide (r_2 > 6))) ?_
   refine TL.mv (.bool (decide (r_2 > 6))) ?_
   refine TL.cutU 3 [(26, .bool ((decide (r_2 > 6)) || (decide (r_3 > 6)))), (0, strv word1), (9, SV.v s1), (10, .int .i64 (r_1.length : Int)), (11, .int .i64 x1), (12, .bool (decide (x1 < (r_1.length : Int)))), (13, ep s1 x1.toNat), (14, strv (gt r_1 x1)), (4, strv (gt r_1 x1)), (16, strv (gt r_1 x1)), (17, .tuple #[.int .i64 r_2, .int .i64 r_3, .bool r_4]), (15, .tuple #[.int .i64 r_2, .int .i64 r_3, .bool r_4]), (18, .int .i64 r_2), (19, .int .i64 r_3), (20, .bool r_4), (5, .int .i64 r_2), (6, .int .i64 r_3), (7, .bool r_4), (21, .int .i64 r_2), (22, .bool (decide (r_2 > 6))), (23, .bool (decide (r_2 > 6)))] [row Es 9 s1 r_1] ?_ ?_
   ·refine TL.cases (t := 23) (b := (decide (r_2 > 6))) rfl (fun c3 => ?_) (fun c4 => ?_)
    ·exact TL.sk <| TL.sk <| TL.pk true (.bool true) <| TL.done <| TC.nrm () () ⟨(by rw [c3]; rfl), rfl, rfl, rfl, rfl, rfl, rfl, rfl, rfl, rfl, rfl, rfl, rfl, rfl, rfl, rfl, rfl, rfl, rfl, rfl, (by rw [c3]; rfl), trivial⟩ [0] (by kernel_rfl)
    exact TL.mv (.int .i64 r_3) <| TL.bn .i64 r_3 6 (.bool (decide (r_3 > 6))) <| TL.pk false (.bool (decide (r_3 > 6))) <| TL.done <| TC.nrm () () ⟨(by rw [c4]; rfl), rfl, rfl, rfl, rfl, rfl, rfl, rfl, rfl, rfl, rfl, rfl, rfl, rfl, rfl, rfl, rfl, rfl, rfl, rfl, (by rw [c4]; rfl), trivial⟩ [0] (by kernel_rfl)
   refine TL.done ?_
   refine TC.cond (b := ((decide (r_2 > 6)) || (decide (r_3 > 6)))) rfl (fun c5 => ?_) (fun c6 => ?_)
   ·exact TC.seq <| TC.region <| TL.as (.bool false) <| TL.done <| TC.retF (Fin.loop Far.ret (Fin.body (fin1 (.inr rfl) rfl (.tmp rfl) [] rfl ⟨rfl, rfl⟩)))
   refine TC.skip <| TC.region <| TL.bn .i64 x1 1 (.int .i64 (w64 (x1 + 1))) <| TL.mv (.int .i64 (w64 (x1 + 1))) <| TL.done ?_
   exact TC.next ((w64 (x1 + 1))) (()) ⟨rfl, rfl, rfl, rfl, trivial⟩ [0] rfl
  exact TC.brk (x1) (()) ⟨rfl, rfl, rfl, rfl, trivial⟩ [0] rfl
 rintro x1 _
 refine TC.seq <| TC.region <| TL.mv (strv word1) ?_
 refine TL.call (R := G.impl_letters.R) Tryz.call66 rfl rfl rfl (fun w hS => G.impl_letters.calls w word1) ?_
 rintro r_5 _ _ ⟨rfl, rfl⟩
 exact TL.bn .i64 r_5 300 (.bool (decide (r_5 ≤ 300))) <| TL.as (.bool (decide (r_5 ≤ 300))) <| TL.done <| TC.retF (Fin.body (fin1 (.inr rfl) rfl (.tmp rfl) [] rfl ⟨rfl, rfl⟩))
end Go.Proofs.YtpejnjpckacciaaGreatDoor.G
