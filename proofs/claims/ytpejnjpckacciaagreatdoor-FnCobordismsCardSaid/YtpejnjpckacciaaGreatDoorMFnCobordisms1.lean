/- Functions of the program, as pure functions. -/
import Derived.Test.YtpejnjpckacciaaGreatDoorMFnCobordismsS2
import Derived.Test.YtpejnjpckacciaaGreatDoorProg
set_option linter.unusedVariables false
set_option maxRecDepth 100000
set_option maxHeartbeats 4000000
namespace Go.Sx
open Go.RowKit
def tall {α : Type} (n : Nat) (k : Option α) : Option α := if n ≤ 9223372036854775807 then k else none
section
variable {P : Program} {w0 : World} {n : Nat} {I : Hp} {Γ : Gm} {L : List Asn} {cs : List Code} {β : Type} {m : Option β} {D : β → Post} {ops : Array Oper} {os : List Oper}
variable {d : Nat} {ty : TypeId} {pos : String} {af : Array Edge} {g : Option (Nat × Bool)}
theorem TL.tall {k : Nat} (kk : k ≤ 9223372036854775807 → TL P w0 n I Γ L ops os cs m D) : TL P w0 n I Γ L ops os cs (Sx.tall k m) D := by
 intro a w hF hS r hr
 unfold Sx.tall at hr
 split at hr
 ·rename_i hb
  exact kk hb a w hF hS r hr
 cases hr
theorem TC.tall {k : Nat} (kk : k ≤ 9223372036854775807 → TC P w0 n I Γ L cs m D) : TC P w0 n I Γ L cs (Sx.tall k m) D := by
 intro a w hF hS r hr
 unfold Sx.tall at hr
 split at hr
 ·rename_i hb
  exact kk hb a w hF hS r hr
 cases hr
theorem TL.catT {T T2 : TypeId} {x y : Operand} (a b : Str) (hsm : a.length + b.length ≤ 9223372036854775807) (hg : gd ops Γ ⟨some d, .binOp .add T x y T2, ty, pos, af, g⟩ = some true) (hn : Nat.blt d n = true)
  (hx : ev Γ x = some (strv a)) (hy : ev Γ y = some (strv b))
  (kk : TL P w0 n I ((d, strv (a ++ b)) :: Γ) L ops os cs m D) : TL P w0 n I Γ L ops (⟨some d, .binOp .add T x y T2, ty, pos, af, g⟩ :: os) cs m D := by
 refine .val hg rfl (by simpa using hn) (fun a' w hF _ => run_v ?_) kk
 rw [hF.eval hx, hF.eval hy]
 have h1 : ¬ (((ByteArray.mk a.toArray).size + (ByteArray.mk b.toArray).size : Nat) : Int) > IntKind.i64.max := by
  have e1 : (ByteArray.mk a.toArray).size = a.length := by show a.toArray.size = _; simp
  have e2 : (ByteArray.mk b.toArray).size = b.length := by show b.toArray.size = _; simp
  rw [e1, e2]
  have : IntKind.i64.max = 9223372036854775807 := rfl
  omega
 simp only [eqGuard, binOp, Op.stringOp, strv, Sem.run_bind, Sem.run_pure, if_neg h1, strv_append]
 rfl
end
end Go.Sx
namespace Go.Proofs.YtpejnjpckacciaaGreatDoor.G
open Go Go.Sx Go.Proofs
def laws_big.f (code1 : List UInt8) : Option Bool := some (decide ((code1.length : Int) > 4096))
def laws_big.R (r : Bool) (v : Value) (L : List Asn) : Prop := v = .bool r ∧ L = []
theorem laws_big.calls (w : World) (s1 : SV) (code1 : List UInt8) (h1 : Reads Eu (hp w) s1 code1) :
  ∀ r, laws_big.f code1 = some r → Calls Tryz.prog 4 #[SV.v s1] w (Ret w (laws_big.R r)) := by
 refine calls_T (n := 6) (Γ := [(0, SV.v s1)]) (R := laws_big.R) Tryz.func4 rfl rfl (Nat.le_of_ble_eq_true rfl) ⟨rfl, trivial⟩ ?_
 unfold laws_big.f
 refine TC.seq <| TC.region <| TL.as (.bool false) <| TL.done <| TC.seq <| TC.region ?_
 exact TL.mv (SV.v s1) <| TL.len (Rd.old h1) Tryz.underlying22 rfl rfl rfl <| TL.bn .i64 (code1.length : Int) 4096 (.bool (decide ((code1.length : Int) > 4096))) <| TL.as (.bool (decide ((code1.length : Int) > 4096))) <| TL.done <| TC.retF (Fin.body (fin1 (.inr rfl) rfl (.tmp rfl) [] rfl ⟨rfl, rfl⟩))
def spec_l04Joined.b0 (list_1 : List Str) : Str × Int → Option (LB (Str × Int)) := fun p => match p with | (out1, i1) => (bif (decide (i1 < (list_1.length : Int))) then ((bif (decide (i1 > 0)) then tall (out1.length + ([47] : Str).length) (some (out1 ++ ([47] : Str))) else some out1)).bind (fun out2 => chk i1 list_1.length (tall (out2.length + (gt list_1 i1).length) (some (.next ((out2 ++ (gt list_1 i1)), (w64 (i1 + 1))))))) else some (.brk (out1, i1)))
def spec_l04Joined.f (list_1 : List Str) : Option Str := (loop1 (spec_l04Joined.b0 list_1) (([] : Str), 0)).bind (fun p => match p with | (out1, i1) => some out1)
def spec_l04Joined.R (r : Str) (v : Value) (L : List Asn) : Prop := v = strv r ∧ L = []
theorem spec_l04Joined.calls (w : World) (s1 : SV) (list_1 : List Str) (h1 : Reads Es (hp w) s1 list_1) :
  ∀ r, spec_l04Joined.f list_1 = some r → Calls Tryz.prog 43 #[SV.v s1] w (Ret w (spec_l04Joined.R r)) := by
 refine calls_T (n := 22) (Γ := [(0, SV.v s1)]) (R := spec_l04Joined.R) Tryz.func43 rfl rfl (Nat.le_of_ble_eq_true rfl) ⟨rfl, trivial⟩ ?_
 unfold spec_l04Joined.f
 refine TC.seq <| TC.region <| TL.as (strv ([] : Str)) <| TL.done <| TC.seq <| TC.region ?_
 refine TL.as (strv ([] : Str)) <| TL.done <| TC.seq <| TC.seq <| TC.region <| TL.as (.int .i64 0) ?_
 refine TL.done ?_
 refine TC.loop1 (σ := Str × Int) (γ := Unit) (Γ' := (fun p q => match p, q with | (out1, i1), _ => [(0, SV.v s1), (3, strv out1), (4, .int .i64 i1)])) (L' := (fun p q => match p, q with | (out1, i1), _ => [])) (Γb := (fun p q => match p, q with | (out1, i1), _ => [(0, SV.v s1), (3, strv out1), (4, .int .i64 i1)])) (Lb := (fun p q => match p, q with | (out1, i1), _ => [])) ((([] : Str), 0)) (()) ⟨rfl, rfl, rfl, trivial⟩ [] rfl ?_ ?_
 ·rintro ⟨out1, i1⟩ _
  refine TC.seq <| TC.seq <| TC.region <| TL.mv (.int .i64 i1) <| TL.mv (SV.v s1) <| TL.len (Rd.old h1) Tryz.underlying49 rfl rfl rfl ?_
  refine TL.bn .i64 i1 (list_1.length : Int) (.bool (decide (i1 < (list_1.length : Int)))) <| TL.done ?_
  refine TC.cond (b := (decide (i1 < (list_1.length : Int)))) rfl (fun c1 => ?_) (fun c2 => ?_)
  ·refine TC.skip <| TC.seq <| TC.block (NoEx.loop1 rfl) <| TC.seq <| TC.seq <| TC.region ?_
   refine TL.mv (.int .i64 i1) <| TL.bn .i64 i1 0 (.bool (decide (i1 > 0))) <| TL.done ?_
   refine TC.join1 (σ := Str) (γ := Unit) (Γ' := (fun out2 _ => [(0, SV.v s1), (3, strv out2), (4, .int .i64 i1)])) (L' := (fun out2 _ => [])) ?_ ?_
   ·refine TC.cond (b := (decide (i1 > 0))) rfl (fun c3 => ?_) (fun c4 => ?_)
    ·refine TC.region <| TL.mv (strv out1) ?_
     refine TL.tall fun h2 => ?_
     refine TL.catT out1 ([47] : Str) h2 rfl rfl rfl rfl ?_
     exact TL.as (strv (out1 ++ ([47] : Str))) <| TL.done <| TC.nrm ((out1 ++ ([47] : Str))) (()) ⟨rfl, rfl, rfl, trivial⟩ [] rfl
    exact TC.skip <| TC.nrm (out1) (()) ⟨rfl, rfl, rfl, trivial⟩ [] rfl
   rintro out2 _
   refine TC.region <| TL.mv (strv out2) <| TL.mv (SV.v s1) <| TL.mv (.int .i64 i1) ?_
   refine TL.chk fun h3 => ?_
   refine TL.ixs i1 i1.toNat (Rd.old h1) h3 Tryz.underlying49 Tryz.sizeOf9 rfl rfl rfl rfl (by omega) ?_
   refine TL.loadE (Rd.old h1) Tryz.isAgg9 i1.toNat 0 (gt_spec h3) (v := strv (gt list_1 i1)) rfl (by simp only [show Es.sz = 1 from rfl] <;> omega) rfl rfl rfl ?_
   refine TL.tall fun h4 => ?_
   refine TL.catT out2 (gt list_1 i1) h4 rfl rfl rfl rfl ?_
   refine TL.as (strv (out2 ++ (gt list_1 i1))) <| TL.done <| TC.region <| TL.mv (.int .i64 i1) <| TL.bn .i64 i1 1 (.int .i64 (w64 (i1 + 1))) <| TL.as (.int .i64 (w64 (i1 + 1))) ?_
   refine TL.done ?_
   exact TC.next1 (((out2 ++ (gt list_1 i1)), (w64 (i1 + 1)))) (()) ⟨rfl, rfl, rfl, trivial⟩ [] rfl
  exact TC.brk1 ((out1, i1)) (()) ⟨rfl, rfl, rfl, trivial⟩ [] rfl
 rintro ⟨out1, i1⟩ _
 exact TC.seq <| TC.region <| TL.mv (strv out1) <| TL.as (strv out1) <| TL.done <| TC.retF (Fin.body (fin1 (.inr rfl) rfl (.tmp rfl) [] rfl ⟨rfl, rfl⟩))
def spec_l01Next.f (s1 : List UInt8) (s3 : Int) (s4 : Int) (n_1 : Int) : Option (Int × Int × Int) := (bif (decide (n_1 < 1)) then some (0, s3, s4) else ((bif (decide (s3 < (s1.length : Int))) then chk s3 s1.length (some ((w64 (s3 + 1)), (w64 ((w64 (bits .and .u64 (Int.fdiv (IntKind.u64.wrap ((IntKind.u64.wrap (s4 * 6364136223846793005)) + 1442695040888963407)) 8589934592) 16777215)) + ((gt s1 s3).toNat : Int))))) else some (s3, (w64 (bits .and .u64 (Int.fdiv (IntKind.u64.wrap ((IntKind.u64.wrap (s4 * 6364136223846793005)) + 1442695040888963407)) 8589934592) 16777215))))).bind (fun p => match p with | (s5, x2) => nz n_1 (some ((Int.tmod x2 n_1), s5, (IntKind.u64.wrap ((IntKind.u64.wrap (s4 * 6364136223846793005)) + 1442695040888963407))))))
def spec_l01Next.R (b_1 : Nat) (s2 : SV) (r : Int × Int × Int) (v : Value) (L : List Asn) : Prop := v = .int .i64 r.1 ∧ L = [box b_1 71 [.one (SV.v s2), .one (.int .i64 r.2.1), .one (.int .u64 r.2.2)]]
theorem spec_l01Next.calls (w0 : World) (I : Hp) (w : World) (b_1 : Nat) (s2 : SV) (s1 : List UInt8) (s3 : Int) (s4 : Int) (n_1 : Int) (hS : St w0 I [box b_1 71 [.one (SV.v s2), .one (.int .i64 s3), .one (.int .u64 s4)]] w) (h1 : Reads Eu I s2 s1) :
  ∀ r, spec_l01Next.f s1 s3 s4 n_1 = some r → Calls Tryz.prog 53 #[bp b_1 0, .int .i64 n_1] w (RetM w0 I ((spec_l01Next.R b_1 s2) r)) := by
 refine calls_TM (w0 := w0) (I := I) (L := [box b_1 71 [.one (SV.v s2), .one (.int .i64 s3), .one (.int .u64 s4)]]) (n := 58) (Γ := [(0, bp b_1 0), (1, .int .i64 n_1)]) (R := (spec_l01Next.R b_1 s2)) Tryz.func53 rfl rfl (Nat.le_of_ble_eq_true rfl) ⟨rfl, rfl, trivial⟩ ?_ w hS
 unfold spec_l01Next.f
 refine TC.seq <| TC.region <| TL.as (.int .i64 0) <| TL.done <| TC.seq <| TC.seq ?_
 refine TC.region <| TL.mv (.int .i64 n_1) <| TL.bn .i64 n_1 1 (.bool (decide (n_1 < 1))) <| TL.done ?_
 refine TC.cond (b := (decide (n_1 < 1))) rfl (fun c1 => ?_) (fun c2 => ?_)
 ·exact TC.seq <| TC.region <| TL.as (.int .i64 0) <| TL.done <| TC.retF (Fin.body (fin1 (.inr rfl) rfl (.tmp rfl) [0] rfl ⟨rfl, rfl⟩))
 refine TC.skip <| TC.seq <| TC.region <| TL.mv (bp b_1 0) <| TL.mv (bp b_1 0) ?_
 refine TL.nilCheck rfl rfl rfl ?_
 refine TL.fa Tryz.underlying71 rfl Tryz.sizeOf69 rfl 2 rfl rfl rfl rfl <| TL.load1 2 (Src.box 0 rfl) Tryz.isAgg69 rfl rfl rfl rfl rfl <| TL.bn .u64 s4 6364136223846793005 (.int .u64 (IntKind.u64.wrap (s4 * 6364136223846793005))) <| TL.bn .u64 (IntKind.u64.wrap (s4 * 6364136223846793005)) 1442695040888963407 (.int .u64 (IntKind.u64.wrap ((IntKind.u64.wrap (s4 * 6364136223846793005)) + 1442695040888963407))) ?_
 refine TL.nilCheck rfl rfl rfl ?_
 refine TL.fa Tryz.underlying71 rfl Tryz.sizeOf69 rfl 2 rfl rfl rfl rfl ?_
 refine TL.st1 0 2 rfl Tryz.sizeOf69 rfl rfl rfl rfl rfl rfl rfl ?_
 refine TL.done <| TC.seq <| TC.region <| TL.mv (bp b_1 0) ?_
 refine TL.nilCheck rfl rfl rfl ?_
 refine TL.fa Tryz.underlying71 rfl Tryz.sizeOf69 rfl 2 rfl rfl rfl rfl <| TL.load1 2 (Src.box 0 rfl) Tryz.isAgg69 rfl rfl rfl rfl rfl ?_
 refine TL.shr .u64 .u64 (IntKind.u64.wrap ((IntKind.u64.wrap (s4 * 6364136223846793005)) + 1442695040888963407)) 33 8589934592 (by decide) (by decide) rfl rfl rfl rfl ?_
 refine TL.bn .u64 (Int.fdiv (IntKind.u64.wrap ((IntKind.u64.wrap (s4 * 6364136223846793005)) + 1442695040888963407)) 8589934592) 16777215 (.int .u64 (bits .and .u64 (Int.fdiv (IntKind.u64.wrap ((IntKind.u64.wrap (s4 * 6364136223846793005)) + 1442695040888963407)) 8589934592) 16777215)) <| TL.conv .u64 .i64 (bits .and .u64 (Int.fdiv (IntKind.u64.wrap ((IntKind.u64.wrap (s4 * 6364136223846793005)) + 1442695040888963407)) 8589934592) 16777215) _ rfl rfl rfl Tryz.underlying69 Tryz.underlying2 (v := .int .i64 (w64 (bits .and .u64 (Int.fdiv (IntKind.u64.wrap ((IntKind.u64.wrap (s4 * 6364136223846793005)) + 1442695040888963407)) 8589934592) 16777215))) rfl <| TL.as (.int .i64 (w64 (bits .and .u64 (Int.fdiv (IntKind.u64.wrap ((IntKind.u64.wrap (s4 * 6364136223846793005)) + 1442695040888963407)) 8589934592) 16777215))) <| TL.done <| TC.seq <| TC.seq ?_
 refine TC.wk (Γ' := [(0, bp b_1 0), (1, .int .i64 n_1), (4, .int .i64 0), (6, .int .i64 n_1), (7, .bool (decide (n_1 < 1))), (8, bp b_1 0), (9, bp b_1 0), (10, bp b_1 0), (11, bp b_1 2), (12, .int .u64 s4), (13, .int .u64 (IntKind.u64.wrap (s4 * 6364136223846793005))), (14, .int .u64 (IntKind.u64.wrap ((IntKind.u64.wrap (s4 * 6364136223846793005)) + 1442695040888963407))), (15, bp b_1 0), (16, bp b_1 2), (17, bp b_1 0), (18, bp b_1 0), (19, bp b_1 2), (20, .int .u64 (IntKind.u64.wrap ((IntKind.u64.wrap (s4 * 6364136223846793005)) + 1442695040888963407))), (21, .int .u64 (Int.fdiv (IntKind.u64.wrap ((IntKind.u64.wrap (s4 * 6364136223846793005)) + 1442695040888963407)) 8589934592)), (22, .int .u64 (bits .and .u64 (Int.fdiv (IntKind.u64.wrap ((IntKind.u64.wrap (s4 * 6364136223846793005)) + 1442695040888963407)) 8589934592) 16777215)), (23, .int .i64 (w64 (bits .and .u64 (Int.fdiv (IntKind.u64.wrap ((IntKind.u64.wrap (s4 * 6364136223846793005)) + 1442695040888963407)) 8589934592) 16777215))), (5, .int .i64 (w64 (bits .and .u64 (Int.fdiv (IntKind.u64.wrap ((IntKind.u64.wrap (s4 * 6364136223846793005)) + 1442695040888963407)) 8589934592) 16777215)))]) ⟨rfl, rfl, rfl, rfl, rfl, rfl, rfl, rfl, rfl, rfl, rfl, rfl, rfl, rfl, rfl, rfl, rfl, rfl, rfl, rfl, rfl, rfl, trivial⟩ ?_
 refine TC.draw [bp b_1 0, bp b_1 0, bp b_1 1, .int .i64 s3, bp b_1 0, bp b_1 0, bp b_1 0, SV.v s2, .int .i64 (s1.length : Int), .bool (decide (s3 < (s1.length : Int)))] 10 [box b_1 71 [.one (SV.v s2), .one (.int .i64 s3), .one (.int .u64 (IntKind.u64.wrap ((IntKind.u64.wrap (s4 * 6364136223846793005)) + 1442695040888963407)))]] (by kernel_rfl) rfl rfl rfl rfl ?_ ?_
 ·refine ⟨?_, ?_, ?_, ?_, ?_, ?_, ?_, ?_, ?_, ?_, trivial⟩
  ·exact TL.mv (bp b_1 0) <| TL.done <| TC.n0 [0]
  ·refine TL.nilCheck rfl rfl rfl ?_
   exact TL.done <| TC.n0 [0]
  ·exact TL.fa Tryz.underlying71 rfl Tryz.sizeOf3 rfl 1 rfl rfl rfl rfl <| TL.done <| TC.n0 [0]
  ·exact TL.load1 1 (Src.box 0 rfl) Tryz.isAgg3 rfl rfl rfl rfl rfl <| TL.done <| TC.n0 [0]
  ·exact TL.mv (bp b_1 0) <| TL.done <| TC.n0 [0]
  ·refine TL.nilCheck rfl rfl rfl ?_
   exact TL.done <| TC.n0 [0]
  ·exact TL.fa Tryz.underlying71 rfl Tryz.sizeOf22 rfl 0 rfl rfl rfl rfl <| TL.done <| TC.n0 [0]
  ·exact TL.load1 0 (Src.box 0 rfl) Tryz.isAgg22 rfl rfl rfl rfl rfl <| TL.done <| TC.n0 [0]
  ·exact TL.len (Rd.old h1) Tryz.underlying22 rfl rfl rfl <| TL.done <| TC.n0 [0]
  exact TL.bn .i64 s3 (s1.length : Int) (.bool (decide (s3 < (s1.length : Int)))) <| TL.done <| TC.n0 [0]
 refine TC.join1 (σ := Int × Int) (γ := Unit) (Γ' := (fun p q => match p, q with | (s5, x2), _ => [(0, bp b_1 0), (1, .int .i64 n_1), (5, .int .i64 x2)])) (L' := (fun p q => match p, q with | (s5, x2), _ => [box b_1 71 [.one (SV.v s2), .one (.int .i64 s5), .one (.int .u64 (IntKind.u64.wrap ((IntKind.u64.wrap (s4 * 6364136223846793005)) + 1442695040888963407)))]])) ?_ ?_
 ·refine TC.cond (b := (decide (s3 < (s1.length : Int)))) rfl (fun c3 => ?_) (fun c4 => ?_)
  ·refine TC.seq ?_
   refine TC.wk (Γ' := [(0, bp b_1 0), (1, .int .i64 n_1), (4, .int .i64 0), (6, .int .i64 n_1), (7, .bool (decide (n_1 < 1))), (8, bp b_1 0), (9, bp b_1 0), (10, bp b_1 0), (11, bp b_1 2), (12, .int .u64 s4), (13, .int .u64 (IntKind.u64.wrap (s4 * 6364136223846793005))), (14, .int .u64 (IntKind.u64.wrap ((IntKind.u64.wrap (s4 * 6364136223846793005)) + 1442695040888963407))), (15, bp b_1 0), (16, bp b_1 2), (17, bp b_1 0), (18, bp b_1 0), (19, bp b_1 2), (20, .int .u64 (IntKind.u64.wrap ((IntKind.u64.wrap (s4 * 6364136223846793005)) + 1442695040888963407))), (21, .int .u64 (Int.fdiv (IntKind.u64.wrap ((IntKind.u64.wrap (s4 * 6364136223846793005)) + 1442695040888963407)) 8589934592)), (22, .int .u64 (bits .and .u64 (Int.fdiv (IntKind.u64.wrap ((IntKind.u64.wrap (s4 * 6364136223846793005)) + 1442695040888963407)) 8589934592) 16777215)), (23, .int .i64 (w64 (bits .and .u64 (Int.fdiv (IntKind.u64.wrap ((IntKind.u64.wrap (s4 * 6364136223846793005)) + 1442695040888963407)) 8589934592) 16777215))), (24, bp b_1 0), (25, bp b_1 0), (26, bp b_1 1), (27, .int .i64 s3), (28, bp b_1 0), (29, bp b_1 0), (30, bp b_1 0), (31, SV.v s2), (32, .int .i64 (s1.length : Int)), (33, .bool (decide (s3 < (s1.length : Int)))), (5, .int .i64 (w64 (bits .and .u64 (Int.fdiv (IntKind.u64.wrap ((IntKind.u64.wrap (s4 * 6364136223846793005)) + 1442695040888963407)) 8589934592) 16777215)))]) ⟨rfl, rfl, rfl, rfl, rfl, rfl, rfl, rfl, rfl, rfl, rfl, rfl, rfl, rfl, rfl, rfl, rfl, rfl, rfl, rfl, rfl, rfl, rfl, rfl, rfl, rfl, rfl, rfl, rfl, rfl, rfl, rfl, trivial⟩ ?_
   refine TC.chk fun h2 => ?_
   refine TC.drawG [(0, bp b_1 0), (1, .int .i64 n_1), (4, .int .i64 0), (6, .int .i64 n_1), (7, .bool (decide (n_1 < 1))), (8, bp b_1 0), (9, bp b_1 0), (10, bp b_1 0), (11, bp b_1 2), (12, .int .u64 s4), (13, .int .u64 (IntKind.u64.wrap (s4 * 6364136223846793005))), (14, .int .u64 (IntKind.u64.wrap ((IntKind.u64.wrap (s4 * 6364136223846793005)) + 1442695040888963407))), (15, bp b_1 0), (16, bp b_1 2), (17, bp b_1 0), (18, bp b_1 0), (19, bp b_1 2), (20, .int .u64 (IntKind.u64.wrap ((IntKind.u64.wrap (s4 * 6364136223846793005)) + 1442695040888963407))), (21, .int .u64 (Int.fdiv (IntKind.u64.wrap ((IntKind.u64.wrap (s4 * 6364136223846793005)) + 1442695040888963407)) 8589934592)), (22, .int .u64 (bits .and .u64 (Int.fdiv (IntKind.u64.wrap ((IntKind.u64.wrap (s4 * 6364136223846793005)) + 1442695040888963407)) 8589934592) 16777215)), (23, .int .i64 (w64 (bits .and .u64 (Int.fdiv (IntKind.u64.wrap ((IntKind.u64.wrap (s4 * 6364136223846793005)) + 1442695040888963407)) 8589934592) 16777215))), (24, bp b_1 0), (25, bp b_1 0), (26, bp b_1 1), (27, .int .i64 s3), (28, bp b_1 0), (29, bp b_1 0), (30, bp b_1 0), (31, SV.v s2), (32, .int .i64 (s1.length : Int)), (33, .bool (decide (s3 < (s1.length : Int))))] [(5, .int .i64 (w64 (bits .and .u64 (Int.fdiv (IntKind.u64.wrap ((IntKind.u64.wrap (s4 * 6364136223846793005)) + 1442695040888963407)) 8589934592) 16777215)), 13)] ⟨rfl, rfl, rfl, rfl, rfl, rfl, rfl, rfl, rfl, rfl, rfl, rfl, rfl, rfl, rfl, rfl, rfl, rfl, rfl, rfl, rfl, rfl, rfl, rfl, rfl, rfl, rfl, rfl, rfl, rfl, rfl, trivial⟩ ⟨rfl, trivial⟩ (fun l_ g1 => [box b_1 71 [.one (SV.v s2), .one (.int .i64 s3), .one (.int .u64 (IntKind.u64.wrap ((IntKind.u64.wrap (s4 * 6364136223846793005)) + 1442695040888963407)))]]) (fun g1 => [.int .i64 (w64 (bits .and .u64 (Int.fdiv (IntKind.u64.wrap ((IntKind.u64.wrap (s4 * 6364136223846793005)) + 1442695040888963407)) 8589934592) 16777215)), bp b_1 0, bp b_1 0, bp b_1 0, SV.v s2, bp b_1 0, bp b_1 0, bp b_1 1, .int .i64 s3, ep s2 s3.toNat, u8v (gt s1 s3), .int .i64 ((gt s1 s3).toNat : Int), .int .i64 (w64 ((w64 (bits .and .u64 (Int.fdiv (IntKind.u64.wrap ((IntKind.u64.wrap (s4 * 6364136223846793005)) + 1442695040888963407)) 8589934592) 16777215)) + ((gt s1 s3).toNat : Int))), .int .i64 (w64 ((w64 (bits .and .u64 (Int.fdiv (IntKind.u64.wrap ((IntKind.u64.wrap (s4 * 6364136223846793005)) + 1442695040888963407)) 8589934592) 16777215)) + ((gt s1 s3).toNat : Int)))]) [[], [], [1], [1, 2], [1, 2, 3], [], [5], [5, 6], [5, 6, 7], [1, 2, 3, 4, 5, 6, 7, 8], [1, 2, 3, 4, 5, 6, 7, 8, 9], [1, 2, 3, 4, 5, 6, 7, 8, 9, 10], [0, 1, 2, 3, 4, 5, 6, 7, 8, 9, 10, 11], [0, 1, 2, 3, 4, 5, 6, 7, 8, 9, 10, 11, 12]] [[oF, none, none, none, none, none, none, none, none, none, none, none, oF, oF], [none, oF, oF, oF, oF, none, none, none, none, oF, oF, oF, oF, oF], [none, oT, oF, oF, oF, none, none, none, none, oF, oF, oF, oF, oF], [none, oT, oT, oF, oF, none, none, none, none, oF, oF, oF, oF, oF], [none, oT, oT, oT, oF, none, none, none, none, oF, oF, oF, oF, oF], [none, none, none, none, none, oF, oF, oF, oF, oF, oF, oF, oF, oF], [none, none, none, none, none, oT, oF, oF, oF, oF, oF, oF, oF, oF], [none, none, none, none, none, oT, oT, oF, oF, oF, oF, oF, oF, oF], [none, none, none, none, none, oT, oT, oT, oF, oF, oF, oF, oF, oF], [none, oT, oT, oT, oT, oT, oT, oT, oT, oF, oF, oF, oF, oF], [none, oT, oT, oT, oT, oT, oT, oT, oT, oT, oF, oF, oF, oF], [none, oT, oT, oT, oT, oT, oT, oT, oT, oT, oT, oF, oF, oF], [oT, oT, oT, oT, oT, oT, oT, oT, oT, oT, oT, oT, oF, oF], [oT, oT, oT, oT, oT, oT, oT, oT, oT, oT, oT, oT, oT, oF]] (by kernel_rfl) (fun _ => rfl) rfl rfl rfl rfl rfl (fun _ _ => ⟨⟨⟨⟨⟨⟨⟨⟨⟨⟨⟨⟨⟨⟨trivial, rfl⟩, rfl⟩, rfl⟩, rfl⟩, rfl⟩, rfl⟩, rfl⟩, rfl⟩, rfl⟩, rfl⟩, rfl⟩, rfl⟩, rfl⟩, rfl⟩) 0 [0] (fun _ => by kernel_rfl) ?_ ?_
   ·refine ⟨rfl, ?_, rfl, ?_, rfl, ?_, rfl, ?_, rfl, ?_, rfl, ?_, rfl, ?_, rfl, ?_, rfl, ?_, rfl, ?_, rfl, ?_, rfl, ?_, rfl, ?_, rfl, ?_, trivial⟩
    ·intro b1_ b2_ b3_ b4_ b5_ b6_ b7_ b8_ b9_ b10_ b11_ g1
     exact TL.mv (.int .i64 (w64 (bits .and .u64 (Int.fdiv (IntKind.u64.wrap ((IntKind.u64.wrap (s4 * 6364136223846793005)) + 1442695040888963407)) 8589934592) 16777215))) <| TL.done <| TC.n1 [0]
    ·intro b0_ b5_ b6_ b7_ b8_ g1
     exact TL.mv (bp b_1 0) <| TL.done <| TC.n1 [0]
    ·intro b0_ b5_ b6_ b7_ b8_ g1
     refine TL.nilCheck rfl rfl rfl ?_
     exact TL.done <| TC.n1 [0]
    ·intro b0_ b5_ b6_ b7_ b8_ g1
     exact TL.ll [box b_1 71 [.one (SV.v s2), .one (.int .i64 s3), .one (.int .u64 (IntKind.u64.wrap ((IntKind.u64.wrap (s4 * 6364136223846793005)) + 1442695040888963407)))]] <| TL.fa Tryz.underlying71 rfl Tryz.sizeOf22 rfl 0 rfl rfl rfl rfl <| TL.done <| TC.n1 [0]
    ·intro b0_ b5_ b6_ b7_ b8_ g1
     exact TL.ll [box b_1 71 [.one (SV.v s2), .one (.int .i64 s3), .one (.int .u64 (IntKind.u64.wrap ((IntKind.u64.wrap (s4 * 6364136223846793005)) + 1442695040888963407)))]] <| TL.load1 0 (Src.box 0 rfl) Tryz.isAgg22 rfl rfl rfl rfl rfl <| TL.done <| TC.n1 [0]
    ·intro b0_ b1_ b2_ b3_ b4_ g1
     exact TL.mv (bp b_1 0) <| TL.done <| TC.n1 [0]
    ·intro b0_ b1_ b2_ b3_ b4_ g1
     refine TL.nilCheck rfl rfl rfl ?_
     exact TL.done <| TC.n1 [0]
    ·intro b0_ b1_ b2_ b3_ b4_ g1
     exact TL.ll [box b_1 71 [.one (SV.v s2), .one (.int .i64 s3), .one (.int .u64 (IntKind.u64.wrap ((IntKind.u64.wrap (s4 * 6364136223846793005)) + 1442695040888963407)))]] <| TL.fa Tryz.underlying71 rfl Tryz.sizeOf3 rfl 1 rfl rfl rfl rfl <| TL.done <| TC.n1 [0]
    ·intro b0_ b1_ b2_ b3_ b4_ g1
     exact TL.ll [box b_1 71 [.one (SV.v s2), .one (.int .i64 s3), .one (.int .u64 (IntKind.u64.wrap ((IntKind.u64.wrap (s4 * 6364136223846793005)) + 1442695040888963407)))]] <| TL.load1 1 (Src.box 0 rfl) Tryz.isAgg3 rfl rfl rfl rfl rfl <| TL.done <| TC.n1 [0]
    ·intro b0_ g1
     exact TL.ll [box b_1 71 [.one (SV.v s2), .one (.int .i64 s3), .one (.int .u64 (IntKind.u64.wrap ((IntKind.u64.wrap (s4 * 6364136223846793005)) + 1442695040888963407)))]] <| TL.ixs s3 s3.toNat (Rd.old h1) h2 Tryz.underlying22 Tryz.sizeOf5 rfl rfl rfl rfl (by omega) <| TL.done <| TC.n1 [0]
    ·intro b0_ g1
     refine TL.ll [box b_1 71 [.one (SV.v s2), .one (.int .i64 s3), .one (.int .u64 (IntKind.u64.wrap ((IntKind.u64.wrap (s4 * 6364136223846793005)) + 1442695040888963407)))]] ?_
     refine TL.loadE (Rd.old h1) Tryz.isAgg5 s3.toNat 0 (gt_spec h2) (v := u8v (gt s1 s3)) rfl (by simp only [show Eu.sz = 1 from rfl] <;> omega) rfl rfl rfl ?_
     exact TL.done <| TC.n1 [0]
    ·intro b0_ g1
     exact TL.conv .u8 .i64 ((gt s1 s3).toNat : Int) _ rfl rfl rfl Tryz.underlying5 Tryz.underlying2 (v := .int .i64 ((gt s1 s3).toNat : Int)) (conv_u8_i64 _) <| TL.done <| TC.n1 [0]
    ·intro g1
     exact TL.bn .i64 (w64 (bits .and .u64 (Int.fdiv (IntKind.u64.wrap ((IntKind.u64.wrap (s4 * 6364136223846793005)) + 1442695040888963407)) 8589934592) 16777215)) ((gt s1 s3).toNat : Int) (.int .i64 (w64 ((w64 (bits .and .u64 (Int.fdiv (IntKind.u64.wrap ((IntKind.u64.wrap (s4 * 6364136223846793005)) + 1442695040888963407)) 8589934592) 16777215)) + ((gt s1 s3).toNat : Int)))) <| TL.done <| TC.n1 [0]
    intro g1
    exact TL.as (.int .i64 (w64 ((w64 (bits .and .u64 (Int.fdiv (IntKind.u64.wrap ((IntKind.u64.wrap (s4 * 6364136223846793005)) + 1442695040888963407)) 8589934592) 16777215)) + ((gt s1 s3).toNat : Int)))) <| TL.done <| TC.n1 [0]
   intro g1
   refine TC.ll [box b_1 71 [.one (SV.v s2), .one (.int .i64 s3), .one (.int .u64 (IntKind.u64.wrap ((IntKind.u64.wrap (s4 * 6364136223846793005)) + 1442695040888963407)))]] <| TC.region <| TL.mv (bp b_1 0) <| TL.mv (bp b_1 0) ?_
   refine TL.nilCheck rfl rfl rfl ?_
   refine TL.fa Tryz.underlying71 rfl Tryz.sizeOf3 rfl 1 rfl rfl rfl rfl <| TL.load1 1 (Src.box 0 rfl) Tryz.isAgg3 rfl rfl rfl rfl rfl <| TL.bn .i64 s3 1 (.int .i64 (w64 (s3 + 1))) ?_
   refine TL.nilCheck rfl rfl rfl ?_
   refine TL.fa Tryz.underlying71 rfl Tryz.sizeOf3 rfl 1 rfl rfl rfl rfl ?_
   refine TL.st1 0 1 rfl Tryz.sizeOf3 rfl rfl rfl rfl rfl rfl rfl ?_
   exact TL.done <| TC.nrm (((w64 (s3 + 1)), (w64 ((w64 (bits .and .u64 (Int.fdiv (IntKind.u64.wrap ((IntKind.u64.wrap (s4 * 6364136223846793005)) + 1442695040888963407)) 8589934592) 16777215)) + ((gt s1 s3).toNat : Int))))) (()) ⟨rfl, rfl, rfl, trivial⟩ [0] rfl
  exact TC.skip <| TC.nrm ((s3, (w64 (bits .and .u64 (Int.fdiv (IntKind.u64.wrap ((IntKind.u64.wrap (s4 * 6364136223846793005)) + 1442695040888963407)) 8589934592) 16777215)))) (()) ⟨rfl, rfl, rfl, trivial⟩ [0] rfl
 rintro ⟨s5, x2⟩ _
 refine TC.seq <| TC.region <| TL.mv (.int .i64 x2) <| TL.mv (.int .i64 n_1) ?_
 refine TL.nz fun z1 => ?_
 refine TL.rem .i64 x2 n_1 z1 rfl rfl rfl rfl ?_
 exact TL.as (.int .i64 (Int.tmod x2 n_1)) <| TL.done <| TC.retF (Fin.body (fin1 (.inr rfl) rfl (.tmp rfl) [0] rfl ⟨rfl, rfl⟩))
def spec_l04Legs.f (letter1 : UInt8) : Option (Int × Int × Bool) := (bif ((letter1.toNat : Int) == ((105 : UInt8).toNat : Int)) then some (1, 1, true) else (bif ((letter1.toNat : Int) == ((120 : UInt8).toNat : Int)) then some (2, 2, true) else (bif ((letter1.toNat : Int) == ((109 : UInt8).toNat : Int)) then some (2, 1, true) else (bif ((letter1.toNat : Int) == ((115 : UInt8).toNat : Int)) then some (1, 2, true) else (bif ((letter1.toNat : Int) == ((117 : UInt8).toNat : Int)) then some (0, 1, true) else (bif ((letter1.toNat : Int) == ((101 : UInt8).toNat : Int)) then some (1, 0, true) else some (0, 0, false)))))))
def spec_l04Legs.R (r : Int × Int × Bool) (v : Value) (L : List Asn) : Prop := v = .tuple #[.int .i64 r.1, .int .i64 r.2.1, .bool r.2.2] ∧ L = []
theorem spec_l04Legs.calls (w : World) (letter1 : UInt8) :
  ∀ r, spec_l04Legs.f letter1 = some r → Calls Tryz.prog 75 #[u8v letter1] w (Ret w (spec_l04Legs.R r)) := by
 refine calls_T (n := 18) (Γ := [(0, u8v letter1)]) (R := spec_l04Legs.R) Tryz.func75 rfl rfl (Nat.le_of_ble_eq_true rfl) ⟨rfl, trivial⟩ ?_
 unfold spec_l04Legs.f
 refine TC.seq <| TC.region <| TL.as (.int .i64 0) <| TL.as (.int .i64 0) <| TL.as (.bool false) <| TL.done ?_
 refine TC.seq <| TC.seq <| TC.region <| TL.mv (u8v letter1) <| TL.done <| TC.block NoEx.body ?_
 refine TC.seq <| TC.region <| TL.bn .u8 (letter1.toNat : Int) ((105 : UInt8).toNat : Int) (.bool ((letter1.toNat : Int) == ((105 : UInt8).toNat : Int))) <| TL.as (.bool ((letter1.toNat : Int) == ((105 : UInt8).toNat : Int))) <| TL.done ?_
 refine TC.cond (b := ((letter1.toNat : Int) == ((105 : UInt8).toNat : Int))) rfl (fun c1 => ?_) (fun c2 => ?_)
 ·refine TC.seq <| TC.region <| TL.as (.int .i64 1) <| TL.as (.int .i64 1) <| TL.as (.bool true) <| TL.done ?_
  exact TC.retF (Fin.body (fin3 (.inr rfl) rfl (.tmp rfl) (.tmp rfl) (.tmp rfl) [] rfl ⟨rfl, rfl⟩))
 refine TC.seq <| TC.region <| TL.bn .u8 (letter1.toNat : Int) ((120 : UInt8).toNat : Int) (.bool ((letter1.toNat : Int) == ((120 : UInt8).toNat : Int))) <| TL.as (.bool ((letter1.toNat : Int) == ((120 : UInt8).toNat : Int))) <| TL.done ?_
 refine TC.cond (b := ((letter1.toNat : Int) == ((120 : UInt8).toNat : Int))) rfl (fun c3 => ?_) (fun c4 => ?_)
 ·refine TC.seq <| TC.region <| TL.as (.int .i64 2) <| TL.as (.int .i64 2) <| TL.as (.bool true) <| TL.done ?_
  exact TC.retF (Fin.body (fin3 (.inr rfl) rfl (.tmp rfl) (.tmp rfl) (.tmp rfl) [] rfl ⟨rfl, rfl⟩))
 refine TC.seq <| TC.region <| TL.bn .u8 (letter1.toNat : Int) ((109 : UInt8).toNat : Int) (.bool ((letter1.toNat : Int) == ((109 : UInt8).toNat : Int))) <| TL.as (.bool ((letter1.toNat : Int) == ((109 : UInt8).toNat : Int))) <| TL.done ?_
 refine TC.cond (b := ((letter1.toNat : Int) == ((109 : UInt8).toNat : Int))) rfl (fun c5 => ?_) (fun c6 => ?_)
 ·refine TC.seq <| TC.region <| TL.as (.int .i64 2) <| TL.as (.int .i64 1) <| TL.as (.bool true) <| TL.done ?_
  exact TC.retF (Fin.body (fin3 (.inr rfl) rfl (.tmp rfl) (.tmp rfl) (.tmp rfl) [] rfl ⟨rfl, rfl⟩))
 refine TC.seq <| TC.region <| TL.bn .u8 (letter1.toNat : Int) ((115 : UInt8).toNat : Int) (.bool ((letter1.toNat : Int) == ((115 : UInt8).toNat : Int))) <| TL.as (.bool ((letter1.toNat : Int) == ((115 : UInt8).toNat : Int))) <| TL.done ?_
 refine TC.cond (b := ((letter1.toNat : Int) == ((115 : UInt8).toNat : Int))) rfl (fun c7 => ?_) (fun c8 => ?_)
 ·refine TC.seq <| TC.region <| TL.as (.int .i64 1) <| TL.as (.int .i64 2) <| TL.as (.bool true) <| TL.done ?_
  exact TC.retF (Fin.body (fin3 (.inr rfl) rfl (.tmp rfl) (.tmp rfl) (.tmp rfl) [] rfl ⟨rfl, rfl⟩))
 refine TC.seq <| TC.region <| TL.bn .u8 (letter1.toNat : Int) ((117 : UInt8).toNat : Int) (.bool ((letter1.toNat : Int) == ((117 : UInt8).toNat : Int))) <| TL.as (.bool ((letter1.toNat : Int) == ((117 : UInt8).toNat : Int))) <| TL.done ?_
 refine TC.cond (b := ((letter1.toNat : Int) == ((117 : UInt8).toNat : Int))) rfl (fun c9 => ?_) (fun c10 => ?_)
 ·refine TC.seq <| TC.region <| TL.as (.int .i64 0) <| TL.as (.int .i64 1) <| TL.as (.bool true) <| TL.done ?_
  exact TC.retF (Fin.body (fin3 (.inr rfl) rfl (.tmp rfl) (.tmp rfl) (.tmp rfl) [] rfl ⟨rfl, rfl⟩))
 refine TC.seq <| TC.region <| TL.bn .u8 (letter1.toNat : Int) ((101 : UInt8).toNat : Int) (.bool ((letter1.toNat : Int) == ((101 : UInt8).toNat : Int))) <| TL.as (.bool ((letter1.toNat : Int) == ((101 : UInt8).toNat : Int))) <| TL.done ?_
 refine TC.cond (b := ((letter1.toNat : Int) == ((101 : UInt8).toNat : Int))) rfl (fun c11 => ?_) (fun c12 => ?_)
 ·refine TC.seq <| TC.region <| TL.as (.int .i64 1) <| TL.as (.int .i64 0) <| TL.as (.bool true) <| TL.done ?_
  exact TC.retF (Fin.body (fin3 (.inr rfl) rfl (.tmp rfl) (.tmp rfl) (.tmp rfl) [] rfl ⟨rfl, rfl⟩))
 refine TC.skip <| TC.seq <| TC.region <| TL.as (.int .i64 0) <| TL.as (.int .i64 0) <| TL.as (.bool false) ?_
 exact TL.done <| TC.retF (Fin.body (fin3 (.inr rfl) rfl (.tmp rfl) (.tmp rfl) (.tmp rfl) [] rfl ⟨rfl, rfl⟩))
def spec_l04Layer.b0 (layer1 : Str) : Int × Int × Int → Option (LR (Int × Int × Int) (Int × Int × Bool)) := fun p => match p with | (below1, above1, i1) => (bif (decide (i1 < (layer1.length : Int))) then chk i1 layer1.length ((G.spec_l04Legs.f (gt layer1 i1)).bind (fun p => match p with | (r_1, r_2, r_3) => (bif (!r_3) then some (.ret ((0, 0, false))) else some (.next ((w64 (below1 + r_1)), (w64 (above1 + r_2)), (w64 (i1 + 1))))))) else some (.brk (below1, above1, i1)))
def spec_l04Layer.f (layer1 : Str) : Option (Int × Int × Bool) := (loop (spec_l04Layer.b0 layer1) (0, 0, 0)).bind (ln (fun p => match p with | (below1, above1, i1) => some (below1, above1, (((decide ((layer1.length : Int) > 0)) && (decide (below1 ≤ 6))) && (decide (above1 ≤ 6))))))
def spec_l04Layer.R (r : Int × Int × Bool) (v : Value) (L : List Asn) : Prop := v = .tuple #[.int .i64 r.1, .int .i64 r.2.1, .bool r.2.2] ∧ L = []
theorem spec_l04Layer.calls (w : World) (layer1 : Str) :
  ∀ r, spec_l04Layer.f layer1 = some r → Calls Tryz.prog 67 #[strv layer1] w (Ret w (spec_l04Layer.R r)) := by
 refine calls_T (n := 46) (Γ := [(0, strv layer1)]) (R := spec_l04Layer.R) Tryz.func67 rfl rfl (Nat.le_of_ble_eq_true rfl) ⟨rfl, trivial⟩ ?_
 unfold spec_l04Layer.f
 refine TC.seq <| TC.region <| TL.as (.int .i64 0) <| TL.as (.int .i64 0) <| TL.as (.bool false) <| TL.done ?_
 refine TC.seq <| TC.region <| TL.as (.int .i64 0) <| TL.as (.int .i64 0) <| TL.done <| TC.seq ?_
 refine TC.seq <| TC.region <| TL.as (.int .i64 0) <| TL.done ?_
 refine TC.loopK (σ := Int × Int × Int) (γ := Unit) (Γ' := (fun p q => match p, q with | (below1, above1, i1), _ => [(0, strv layer1), (5, .int .i64 below1), (6, .int .i64 above1), (7, .int .i64 i1)])) (L' := (fun p q => match p, q with | (below1, above1, i1), _ => [])) (Γb := (fun p q => match p, q with | (below1, above1, i1), _ => [(0, strv layer1), (5, .int .i64 below1), (6, .int .i64 above1), (7, .int .i64 i1)])) (Lb := (fun p q => match p, q with | (below1, above1, i1), _ => [])) ((0, 0, 0)) (()) ⟨rfl, rfl, rfl, rfl, trivial⟩ [] rfl ?_ ?_
 ·rintro ⟨below1, above1, i1⟩ _
  refine TC.seq <| TC.seq <| TC.region <| TL.mv (.int .i64 i1) <| TL.mv (strv layer1) <| TL.lenstr Tryz.underlying9 rfl rfl rfl ?_
  refine TL.bn .i64 i1 (layer1.length : Int) (.bool (decide (i1 < (layer1.length : Int)))) <| TL.done ?_
  refine TC.cond (b := (decide (i1 < (layer1.length : Int)))) rfl (fun c1 => ?_) (fun c2 => ?_)
  ·refine TC.skip <| TC.seq <| TC.block (NoEx.loop rfl NoEx.body) <| TC.seq <| TC.region <| TL.mv (strv layer1) ?_
   refine TL.mv (.int .i64 i1) ?_
   refine TL.chk fun h1 => ?_
   refine TL.ixstr i1 h1 Tryz.underlying9 rfl rfl rfl rfl ?_
   refine TL.call (R := G.spec_l04Legs.R) Tryz.call75 rfl rfl rfl (fun w hS => G.spec_l04Legs.calls w (gt layer1 i1)) ?_
   rintro ⟨r_1, r_2, r_3⟩ _ _ ⟨rfl, rfl⟩
   refine TL.mv (.tuple #[.int .i64 r_1, .int .i64 r_2, .bool r_3]) <| TL.extract rfl rfl rfl (v := .int .i64 r_1) rfl <| TL.extract rfl rfl rfl (v := .int .i64 r_2) rfl <| TL.extract rfl rfl rfl (v := .bool r_3) rfl <| TL.as (.int .i64 r_1) <| TL.as (.int .i64 r_2) ?_
   refine TL.as (.bool r_3) <| TL.done <| TC.seq <| TC.seq <| TC.region <| TL.mv (.bool r_3) ?_
   refine TL.not r_3 rfl rfl rfl ?_
   refine TL.done ?_
   refine TC.cond (b := (!r_3)) rfl (fun c3 => ?_) (fun c4 => ?_)
   ·refine TC.seq <| TC.region <| TL.as (.int .i64 0) <| TL.as (.int .i64 0) <| TL.as (.bool false) <| TL.done ?_
    exact TC.retF (Fin.loop Far.ret (Fin.body (fin3 (.inr rfl) rfl (.tmp rfl) (.tmp rfl) (.tmp rfl) [] rfl ⟨rfl, rfl⟩)))
   refine TC.skip <| TC.seq <| TC.region <| TL.mv (.int .i64 below1) <| TL.mv (.int .i64 r_1) <| TL.bn .i64 below1 r_1 (.int .i64 (w64 (below1 + r_1))) ?_
   refine TL.as (.int .i64 (w64 (below1 + r_1))) <| TL.done <| TC.region <| TL.mv (.int .i64 above1) <| TL.mv (.int .i64 r_2) <| TL.bn .i64 above1 r_2 (.int .i64 (w64 (above1 + r_2))) ?_
   refine TL.as (.int .i64 (w64 (above1 + r_2))) <| TL.done <| TC.region <| TL.mv (.int .i64 i1) <| TL.bn .i64 i1 1 (.int .i64 (w64 (i1 + 1))) <| TL.as (.int .i64 (w64 (i1 + 1))) ?_
   refine TL.done ?_
   exact TC.next (((w64 (below1 + r_1)), (w64 (above1 + r_2)), (w64 (i1 + 1)))) (()) ⟨rfl, rfl, rfl, rfl, trivial⟩ [] rfl
  exact TC.brk ((below1, above1, i1)) (()) ⟨rfl, rfl, rfl, rfl, trivial⟩ [] rfl
 rintro ⟨below1, above1, i1⟩ _
 refine TC.seq <| TC.region <| TL.mv (.int .i64 below1) <| TL.mv (.int .i64 above1) <| TL.mv (strv layer1) <| TL.lenstr Tryz.underlying9 rfl rfl rfl ?_
 refine TL.bn .i64 (layer1.length : Int) 0 (.bool (decide ((layer1.length : Int) > 0))) <| TL.mv (.bool (decide ((layer1.length : Int) > 0))) ?_
 refine TL.cutU 3 [(41, .bool ((decide ((layer1.length : Int) > 0)) && (decide (below1 ≤ 6)))), (0, strv layer1), (5, .int .i64 below1), (6, .int .i64 above1), (7, .int .i64 i1), (33, .int .i64 below1), (34, .int .i64 above1), (35, strv layer1), (36, .int .i64 (layer1.length : Int)), (37, .bool (decide ((layer1.length : Int) > 0))), (38, .bool (decide ((layer1.length : Int) > 0)))] [] ?_ ?_
 ·refine TL.cases (t := 38) (b := (decide ((layer1.length : Int) > 0))) rfl (fun c5 => ?_) (fun c6 => ?_)
  ·exact TL.mv (.int .i64 below1) <| TL.bn .i64 below1 6 (.bool (decide (below1 ≤ 6))) <| TL.pk true (.bool (decide (below1 ≤ 6))) <| TL.done <| TC.nrm () () ⟨(by rw [c5]; rfl), rfl, rfl, rfl, rfl, rfl, rfl, rfl, rfl, rfl, (by rw [c5]; rfl), trivial⟩ [] (by kernel_rfl)
  exact TL.sk <| TL.sk <| TL.pk false (.bool false) <| TL.done <| TC.nrm () () ⟨(by rw [c6]; rfl), rfl, rfl, rfl, rfl, rfl, rfl, rfl, rfl, rfl, (by rw [c6]; rfl), trivial⟩ [] (by kernel_rfl)
 refine TL.mv (.bool ((decide ((layer1.length : Int) > 0)) && (decide (below1 ≤ 6)))) ?_
 refine TL.cutU 3 [(45, .bool (((decide ((layer1.length : Int) > 0)) && (decide (below1 ≤ 6))) && (decide (above1 ≤ 6)))), (0, strv layer1), (5, .int .i64 below1), (6, .int .i64 above1), (7, .int .i64 i1), (33, .int .i64 below1), (34, .int .i64 above1), (35, strv layer1), (36, .int .i64 (layer1.length : Int)), (37, .bool (decide ((layer1.length : Int) > 0))), (38, .bool (decide ((layer1.length : Int) > 0))), (41, .bool ((decide ((layer1.length : Int) > 0)) && (decide (below1 ≤ 6)))), (42, .bool ((decide ((layer1.length : Int) > 0)) && (decide (below1 ≤ 6))))] [] ?_ ?_
 ·refine TL.cases (t := 42) (b := ((decide ((layer1.length : Int) > 0)) && (decide (below1 ≤ 6)))) rfl (fun c7 => ?_) (fun c8 => ?_)
  ·exact TL.mv (.int .i64 above1) <| TL.bn .i64 above1 6 (.bool (decide (above1 ≤ 6))) <| TL.pk true (.bool (decide (above1 ≤ 6))) <| TL.done <| TC.nrm () () ⟨(by rw [c7]; rfl), rfl, rfl, rfl, rfl, rfl, rfl, rfl, rfl, rfl, rfl, rfl, (by rw [c7]; rfl), trivial⟩ [] (by kernel_rfl)
  exact TL.sk <| TL.sk <| TL.pk false (.bool false) <| TL.done <| TC.nrm () () ⟨(by rw [c8]; rfl), rfl, rfl, rfl, rfl, rfl, rfl, rfl, rfl, rfl, rfl, rfl, (by rw [c8]; rfl), trivial⟩ [] (by kernel_rfl)
 exact TL.as (.int .i64 below1) <| TL.as (.int .i64 above1) <| TL.as (.bool (((decide ((layer1.length : Int) > 0)) && (decide (below1 ≤ 6))) && (decide (above1 ≤ 6)))) <| TL.done <| TC.retF (Fin.body (fin3 (.inr rfl) rfl (.tmp rfl) (.tmp rfl) (.tmp rfl) [] rfl ⟨rfl, rfl⟩))
def spec_l04DrawFrom.b0 (x1 : List UInt8) : Int × Int × Str × Int × Int → Option (LB (Int × Int × Str × Int × Int)) := fun p => match p with | (y3, y4, x9, x10, x11) => (bif ((decide (x10 > 0)) || (x9 == ([] : Str))) then (G.spec_l01Next.f x1 y3 y4 7).bind (fun p => match p with | (r_1, y5, y6) => chk r_1 (([(105 : UInt8), (105 : UInt8), (120 : UInt8), (109 : UInt8), (115 : UInt8), (101 : UInt8), (117 : UInt8)] : List UInt8).length) ((G.spec_l04Legs.f (gt ([(105 : UInt8), (105 : UInt8), (120 : UInt8), (109 : UInt8), (115 : UInt8), (101 : UInt8), (117 : UInt8)] : List UInt8) r_1)).bind (fun p => match p with | (r_2, r_3, r_4) => ((bif ((decide (r_2 > x10)) || (((decide ((w64 ((w64 ((w64 (x11 + r_3)) + x10)) - r_2)) > 3)) && (decide (r_3 ≥ r_2))) && (decide (r_3 > 1)))) then some ((105 : UInt8), 1, 1) else some ((gt ([(105 : UInt8), (105 : UInt8), (120 : UInt8), (109 : UInt8), (115 : UInt8), (101 : UInt8), (117 : UInt8)] : List UInt8) r_1), r_2, r_3))).bind (fun p => match p with | (x12, x13, x14) => ((bif (x10 == 0) then some ((117 : UInt8), 0) else some (x12, x13))).bind (fun p => match p with | (x15, x16) => tall (x9.length + ([x15] : List UInt8).length) (some (.next (y5, y6, (x9 ++ ([x15] : List UInt8)), (w64 (x10 - x16)), (w64 (x11 + x14)))))))))) else some (.brk (y3, y4, x9, x10, x11)))
def spec_l04DrawFrom.b1 (x1 : List UInt8) : Int × Int × Int × Int × (List Str) → Option (LB (Int × Int × Int × Int × (List Str))) := fun p => match p with | (y1, y2, x6, x7, x8) => (bif (decide (x7 > 0)) then (loop1 (spec_l04DrawFrom.b0 x1) (y1, y2, ([] : Str), x6, 0)).bind (fun p => match p with | (y3, y4, x9, x10, x11) => small (x8.length + ([x9] : List Str).length) ((G.spec_l04Layer.f x9).bind (fun p => match p with | (r_5, r_6, r_7) => some (.next (y3, y4, r_6, (w64 (x7 - 1)), (x8 ++ ([x9] : List Str))))))) else some (.brk (y1, y2, x6, x7, x8)))
def spec_l04DrawFrom.f (x1 : List UInt8) (x2 : Int) (x3 : Int) (x4 : Int) (x5 : Int) : Option ((List Str) × Int × Int) := (loop1 (spec_l04DrawFrom.b1 x1) (x2, x3, x4, x5, ([] : List Str))).bind (fun p => match p with | (y1, y2, x6, x7, x8) => some (x8, y1, y2))
def spec_l04DrawFrom.R (b_1 : Nat) (s1 : SV) (r : (List Str) × Int × Int) (v : Value) (L : List Asn) : Prop := ∃ (s0 : SV), v = SV.v s0 ∧ L = [row Es 9 s0 r.1, box b_1 71 [.one (SV.v s1), .one (.int .i64 r.2.1), .one (.int .u64 r.2.2)]]
theorem spec_l04DrawFrom.calls (w0 : World) (I : Hp) (w : World) (b_1 : Nat) (s1 : SV) (x1 : List UInt8) (x2 : Int) (x3 : Int) (x4 : Int) (x5 : Int) (hS : St w0 I [box b_1 71 [.one (SV.v s1), .one (.int .i64 x2), .one (.int .u64 x3)]] w) (h1 : Reads Eu I s1 x1) :
  ∀ r, spec_l04DrawFrom.f x1 x2 x3 x4 x5 = some r → Calls Tryz.prog 51 #[bp b_1 0, .int .i64 x4, .int .i64 x5] w (RetM w0 I ((spec_l04DrawFrom.R b_1 s1) r)) := by
 refine calls_TM (w0 := w0) (I := I) (L := [box b_1 71 [.one (SV.v s1), .one (.int .i64 x2), .one (.int .u64 x3)]]) (n := 88) (Γ := [(0, bp b_1 0), (1, .int .i64 x4), (2, .int .i64 x5)]) (R := (spec_l04DrawFrom.R b_1 s1)) Tryz.func51 rfl rfl (Nat.le_of_ble_eq_true rfl) ⟨rfl, rfl, rfl, trivial⟩ ?_ w hS
 unfold spec_l04DrawFrom.f
 refine TC.seq <| TC.region <| TL.as (SV.v ⟨none, 0, 0⟩) <| TL.done <| TC.seq <| TC.region ?_
 refine TL.bslice0 Es Tryz.underlying49 Tryz.sizeOf9 rfl rfl fun s2 => ?_
 refine TL.as (SV.v s2) <| TL.done <| TC.seq ?_
 refine TC.loop1 (σ := Int × Int × Int × Int × (List Str)) (γ := SV) (Γ' := (fun p q => match p, q with | (y1, y2, x6, x7, x8), s3 => [(0, bp b_1 0), (1, .int .i64 x6), (2, .int .i64 x7), (7, SV.v s3)])) (L' := (fun p q => match p, q with | (y1, y2, x6, x7, x8), s3 => [box b_1 71 [.one (SV.v s1), .one (.int .i64 y1), .one (.int .u64 y2)], row Es 9 s3 x8])) (Γb := (fun p q => match p, q with | (y1, y2, x6, x7, x8), s3 => [(0, bp b_1 0), (1, .int .i64 x6), (2, .int .i64 x7), (7, SV.v s3)])) (Lb := (fun p q => match p, q with | (y1, y2, x6, x7, x8), s3 => [box b_1 71 [.one (SV.v s1), .one (.int .i64 y1), .one (.int .u64 y2)], row Es 9 s3 x8])) ((x2, x3, x4, x5, ([] : List Str))) (s2) ⟨rfl, rfl, rfl, rfl, trivial⟩ [1, 0] rfl ?_ ?_
 ·rintro ⟨y1, y2, x6, x7, x8⟩ s3
  refine TC.seq <| TC.seq <| TC.region <| TL.mv (.int .i64 x7) <| TL.bn .i64 x7 0 (.bool (decide (x7 > 0))) <| TL.done ?_
  refine TC.cond (b := (decide (x7 > 0))) rfl (fun c1 => ?_) (fun c2 => ?_)
  ·refine TC.skip <| TC.seq <| TC.block (NoEx.loop1 rfl) <| TC.seq <| TC.region <| TL.mv (.int .i64 x6) ?_
   refine TL.as (strv ([] : Str)) <| TL.as (.int .i64 x6) <| TL.as (.int .i64 0) <| TL.done <| TC.seq ?_
   refine TC.loop1 (σ := Int × Int × Str × Int × Int) (γ := Unit) (Γ' := (fun p q => match p, q with | (y3, y4, x9, x10, x11), _ => [(0, bp b_1 0), (2, .int .i64 x7), (7, SV.v s3), (8, strv x9), (9, .int .i64 x10), (10, .int .i64 x11)])) (L' := (fun p q => match p, q with | (y3, y4, x9, x10, x11), _ => [box b_1 71 [.one (SV.v s1), .one (.int .i64 y3), .one (.int .u64 y4)], row Es 9 s3 x8])) (Γb := (fun p q => match p, q with | (y3, y4, x9, x10, x11), _ => [(0, bp b_1 0), (2, .int .i64 x7), (7, SV.v s3), (8, strv x9), (9, .int .i64 x10), (10, .int .i64 x11)])) (Lb := (fun p q => match p, q with | (y3, y4, x9, x10, x11), _ => [box b_1 71 [.one (SV.v s1), .one (.int .i64 y3), .one (.int .u64 y4)], row Es 9 s3 x8])) ((y1, y2, ([] : Str), x6, 0)) (()) ⟨rfl, rfl, rfl, rfl, rfl, rfl, trivial⟩ [0, 0] rfl ?_ ?_
   ·rintro ⟨y3, y4, x9, x10, x11⟩ _
    refine TC.seq <| TC.seq <| TC.region <| TL.mv (.int .i64 x10) <| TL.bn .i64 x10 0 (.bool (decide (x10 > 0))) <| TL.mv (.bool (decide (x10 > 0))) ?_
    refine TL.cutU 3 [(29, .bool ((decide (x10 > 0)) || (x9 == ([] : Str)))), (0, bp b_1 0), (2, .int .i64 x7), (7, SV.v s3), (8, strv x9), (9, .int .i64 x10), (10, .int .i64 x11), (24, .int .i64 x10), (25, .bool (decide (x10 > 0))), (26, .bool (decide (x10 > 0)))] [box b_1 71 [.one (SV.v s1), .one (.int .i64 y3), .one (.int .u64 y4)], row Es 9 s3 x8] ?_ ?_
    ·refine TL.cases (t := 26) (b := (decide (x10 > 0))) rfl (fun c3 => ?_) (fun c4 => ?_)
     ·exact TL.sk <| TL.sk <| TL.pk true (.bool true) <| TL.done <| TC.nrm () () ⟨(by rw [c3]; rfl), rfl, rfl, rfl, rfl, rfl, rfl, rfl, rfl, (by rw [c3]; rfl), trivial⟩ [0, 0] (by kernel_rfl)
     exact TL.mv (strv x9) <| TL.strEq x9 ([] : Str) rfl rfl rfl rfl <| TL.pk false (.bool (x9 == ([] : Str))) <| TL.done <| TC.nrm () () ⟨(by rw [c4]; rfl), rfl, rfl, rfl, rfl, rfl, rfl, rfl, rfl, (by rw [c4]; rfl), trivial⟩ [0, 0] (by kernel_rfl)
    refine TL.done ?_
    refine TC.cond (b := ((decide (x10 > 0)) || (x9 == ([] : Str)))) rfl (fun c5 => ?_) (fun c6 => ?_)
    ·refine TC.skip <| TC.block (NoEx.loop1 rfl) <| TC.seq <| TC.region ?_
     refine TL.blit Eu ([(105 : UInt8), (105 : UInt8), (120 : UInt8), (109 : UInt8), (115 : UInt8), (101 : UInt8), (117 : UInt8)] : List UInt8) Tryz.underlying22 Tryz.sizeOf5 Tryz.zeroValue5 rfl rfl rfl [(0, u8v (105 : UInt8)), (1, u8v (105 : UInt8)), (2, u8v (120 : UInt8)), (3, u8v (109 : UInt8)), (4, u8v (115 : UInt8)), (5, u8v (101 : UInt8)), (6, u8v (117 : UInt8))] rfl ⟨rfl, rfl, rfl, rfl, rfl, rfl, rfl, rfl, rfl, rfl, rfl, rfl, rfl, rfl, trivial⟩ rfl rfl fun s4 => ?_
     refine TL.mv (bp b_1 0) ?_
     refine TL.callX (R := G.spec_l01Next.R b_1 s1) [1, 0, 0] [box b_1 71 [.one (SV.v s1), .one (.int .i64 y3), .one (.int .u64 y4)]] [row Eu 5 s4 ([(105 : UInt8), (105 : UInt8), (120 : UInt8), (109 : UInt8), (115 : UInt8), (101 : UInt8), (117 : UInt8)] : List UInt8), row Es 9 s3 x8] rfl Tryz.call53 rfl rfl rfl (fun w I_ hle hB hS => G.spec_l01Next.calls _ I_ w b_1 s1 x1 y3 y4 7 hS (h1.mono hle)) ?_
     rintro ⟨r_1, y5, y6⟩ _ _ ⟨rfl, rfl⟩
     refine TL.chk fun h2 => ?_
     refine TL.ixs r_1 r_1.toNat (Rd.row 1 rfl) h2 Tryz.underlying22 Tryz.sizeOf5 rfl rfl rfl rfl (by omega) ?_
     refine TL.loadE (Rd.row 1 rfl) Tryz.isAgg5 r_1.toNat 0 (gt_spec h2) (v := u8v (gt ([(105 : UInt8), (105 : UInt8), (120 : UInt8), (109 : UInt8), (115 : UInt8), (101 : UInt8), (117 : UInt8)] : List UInt8) r_1)) rfl (by simp only [show Eu.sz = 1 from rfl] <;> omega) rfl rfl rfl ?_
     refine TL.as (u8v (gt ([(105 : UInt8), (105 : UInt8), (120 : UInt8), (109 : UInt8), (115 : UInt8), (101 : UInt8), (117 : UInt8)] : List UInt8) r_1)) <| TL.done <| TC.seq <| TC.region <| TL.mv (u8v (gt ([(105 : UInt8), (105 : UInt8), (120 : UInt8), (109 : UInt8), (115 : UInt8), (101 : UInt8), (117 : UInt8)] : List UInt8) r_1)) ?_
     refine TL.call (R := G.spec_l04Legs.R) Tryz.call75 rfl rfl rfl (fun w hS => G.spec_l04Legs.calls w (gt ([(105 : UInt8), (105 : UInt8), (120 : UInt8), (109 : UInt8), (115 : UInt8), (101 : UInt8), (117 : UInt8)] : List UInt8) r_1)) ?_
     rintro ⟨r_2, r_3, r_4⟩ _ _ ⟨rfl, rfl⟩
     refine TL.mv (.tuple #[.int .i64 r_2, .int .i64 r_3, .bool r_4]) <| TL.extract rfl rfl rfl (v := .int .i64 r_2) rfl <| TL.extract rfl rfl rfl (v := .int .i64 r_3) rfl <| TL.extract rfl rfl rfl (v := .bool r_4) rfl <| TL.as (.int .i64 r_2) <| TL.as (.int .i64 r_3) ?_
     refine TL.as (.bool r_4) <| TL.done <| TC.seq <| TC.seq <| TC.region <| TL.mv (.int .i64 r_2) ?_
     refine TL.mv (.int .i64 x10) <| TL.bn .i64 r_2 x10 (.bool (decide (r_2 > x10))) <| TL.mv (.bool (decide (r_2 > x10))) ?_
     refine TL.cutU 18 [(62, .bool ((decide (r_2 > x10)) || (((decide ((w64 ((w64 ((w64 (x11 + r_3)) + x10)) - r_2)) > 3)) && (decide (r_3 ≥ r_2))) && (decide (r_3 > 1))))), (0, bp b_1 0), (2, .int .i64 x7), (7, SV.v s3), (8, strv x9), (9, .int .i64 x10), (10, .int .i64 x11), (24, .int .i64 x10), (25, .bool (decide (x10 > 0))), (26, .bool (decide (x10 > 0))), (29, .bool ((decide (x10 > 0)) || (x9 == ([] : Str)))), (30, SV.v s4), (31, bp b_1 0), (32, .int .i64 r_1), (33, ep s4 r_1.toNat), (34, u8v (gt ([(105 : UInt8), (105 : UInt8), (120 : UInt8), (109 : UInt8), (115 : UInt8), (101 : UInt8), (117 : UInt8)] : List UInt8) r_1)), (11, u8v (gt ([(105 : UInt8), (105 : UInt8), (120 : UInt8), (109 : UInt8), (115 : UInt8), (101 : UInt8), (117 : UInt8)] : List UInt8) r_1)), (36, u8v (gt ([(105 : UInt8), (105 : UInt8), (120 : UInt8), (109 : UInt8), (115 : UInt8), (101 : UInt8), (117 : UInt8)] : List UInt8) r_1)), (37, .tuple #[.int .i64 r_2, .int .i64 r_3, .bool r_4]), (35, .tuple #[.int .i64 r_2, .int .i64 r_3, .bool r_4]), (38, .int .i64 r_2), (39, .int .i64 r_3), (40, .bool r_4), (12, .int .i64 r_2), (13, .int .i64 r_3), (14, .bool r_4), (41, .int .i64 r_2), (42, .int .i64 x10), (43, .bool (decide (r_2 > x10))), (44, .bool (decide (r_2 > x10)))] [box b_1 71 [.one (SV.v s1), .one (.int .i64 y5), .one (.int .u64 y6)], row Eu 5 s4 ([(105 : UInt8), (105 : UInt8), (120 : UInt8), (109 : UInt8), (115 : UInt8), (101 : UInt8), (117 : UInt8)] : List UInt8), row Es 9 s3 x8] ?_ ?_
     ·refine TL.cases (t := 44) (b := (decide (r_2 > x10))) rfl (fun c7 => ?_) (fun c8 => ?_)
      ·refine TL.sk <| TL.sk <| TL.sk <| TL.sk <| TL.sk <| TL.sk ?_
       refine TL.sk <| TL.sk <| TL.sk <| TL.sk <| TL.sk <| TL.sk ?_
       refine TL.sk <| TL.sk <| TL.sk <| TL.sk <| TL.sk <| TL.pk true (.bool true) ?_
       exact TL.done <| TC.nrm () () ⟨(by rw [c7]; rfl), rfl, rfl, rfl, rfl, rfl, rfl, rfl, rfl, rfl, rfl, rfl, rfl, rfl, rfl, rfl, rfl, rfl, rfl, rfl, rfl, rfl, rfl, rfl, rfl, rfl, rfl, rfl, rfl, (by rw [c7]; rfl), trivial⟩ [0, 0, 0] (by kernel_rfl)
      refine TL.mv (.int .i64 x11) <| TL.mv (.int .i64 r_3) <| TL.bn .i64 x11 r_3 (.int .i64 (w64 (x11 + r_3))) <| TL.mv (.int .i64 x10) <| TL.bn .i64 (w64 (x11 + r_3)) x10 (.int .i64 (w64 ((w64 (x11 + r_3)) + x10))) <| TL.mv (.int .i64 r_2) ?_
      refine TL.bn .i64 (w64 ((w64 (x11 + r_3)) + x10)) r_2 (.int .i64 (w64 ((w64 ((w64 (x11 + r_3)) + x10)) - r_2))) <| TL.bn .i64 (w64 ((w64 ((w64 (x11 + r_3)) + x10)) - r_2)) 3 (.bool (decide ((w64 ((w64 ((w64 (x11 + r_3)) + x10)) - r_2)) > 3))) <| TL.mv (.bool (decide ((w64 ((w64 ((w64 (x11 + r_3)) + x10)) - r_2)) > 3))) ?_
      refine TL.cutU 4 [(57, .bool ((decide ((w64 ((w64 ((w64 (x11 + r_3)) + x10)) - r_2)) > 3)) && (decide (r_3 ≥ r_2)))), (0, bp b_1 0), (2, .int .i64 x7), (7, SV.v s3), (8, strv x9), (9, .int .i64 x10), (10, .int .i64 x11), (24, .int .i64 x10), (25, .bool (decide (x10 > 0))), (26, .bool (decide (x10 > 0))), (29, .bool ((decide (x10 > 0)) || (x9 == ([] : Str)))), (30, SV.v s4), (31, bp b_1 0), (32, .int .i64 r_1), (33, ep s4 r_1.toNat), (34, u8v (gt ([(105 : UInt8), (105 : UInt8), (120 : UInt8), (109 : UInt8), (115 : UInt8), (101 : UInt8), (117 : UInt8)] : List UInt8) r_1)), (11, u8v (gt ([(105 : UInt8), (105 : UInt8), (120 : UInt8), (109 : UInt8), (115 : UInt8), (101 : UInt8), (117 : UInt8)] : List UInt8) r_1)), (36, u8v (gt ([(105 : UInt8), (105 : UInt8), (120 : UInt8), (109 : UInt8), (115 : UInt8), (101 : UInt8), (117 : UInt8)] : List UInt8) r_1)), (37, .tuple #[.int .i64 r_2, .int .i64 r_3, .bool r_4]), (35, .tuple #[.int .i64 r_2, .int .i64 r_3, .bool r_4]), (38, .int .i64 r_2), (39, .int .i64 r_3), (40, .bool r_4), (12, .int .i64 r_2), (13, .int .i64 r_3), (14, .bool r_4), (41, .int .i64 r_2), (42, .int .i64 x10), (43, .bool (decide (r_2 > x10))), (44, .bool false), (45, .int .i64 x11), (46, .int .i64 r_3), (47, .int .i64 (w64 (x11 + r_3))), (48, .int .i64 x10), (49, .int .i64 (w64 ((w64 (x11 + r_3)) + x10))), (50, .int .i64 r_2), (51, .int .i64 (w64 ((w64 ((w64 (x11 + r_3)) + x10)) - r_2))), (52, .bool (decide ((w64 ((w64 ((w64 (x11 + r_3)) + x10)) - r_2)) > 3))), (53, .bool (decide ((w64 ((w64 ((w64 (x11 + r_3)) + x10)) - r_2)) > 3)))] [box b_1 71 [.one (SV.v s1), .one (.int .i64 y5), .one (.int .u64 y6)], row Eu 5 s4 ([(105 : UInt8), (105 : UInt8), (120 : UInt8), (109 : UInt8), (115 : UInt8), (101 : UInt8), (117 : UInt8)] : List UInt8), row Es 9 s3 x8] ?_ ?_
      ·refine TL.cases (t := 53) (b := (decide ((w64 ((w64 ((w64 (x11 + r_3)) + x10)) - r_2)) > 3))) rfl (fun c9 => ?_) (fun c10 => ?_)
       ·exact TL.mv (.int .i64 r_3) <| TL.mv (.int .i64 r_2) <| TL.bn .i64 r_3 r_2 (.bool (decide (r_3 ≥ r_2))) <| TL.pk true (.bool (decide (r_3 ≥ r_2))) <| TL.done <| TC.nrm () () ⟨(by rw [c9]; rfl), rfl, rfl, rfl, rfl, rfl, rfl, rfl, rfl, rfl, rfl, rfl, rfl, rfl, rfl, rfl, rfl, rfl, rfl, rfl, rfl, rfl, rfl, rfl, rfl, rfl, rfl, rfl, rfl, rfl, rfl, rfl, rfl, rfl, rfl, rfl, rfl, rfl, (by rw [c9]; rfl), trivial⟩ [0, 0, 0] (by kernel_rfl)
       exact TL.sk <| TL.sk <| TL.sk <| TL.pk false (.bool false) <| TL.done <| TC.nrm () () ⟨(by rw [c10]; rfl), rfl, rfl, rfl, rfl, rfl, rfl, rfl, rfl, rfl, rfl, rfl, rfl, rfl, rfl, rfl, rfl, rfl, rfl, rfl, rfl, rfl, rfl, rfl, rfl, rfl, rfl, rfl, rfl, rfl, rfl, rfl, rfl, rfl, rfl, rfl, rfl, rfl, (by rw [c10]; rfl), trivial⟩ [0, 0, 0] (by kernel_rfl)
      refine TL.mv (.bool ((decide ((w64 ((w64 ((w64 (x11 + r_3)) + x10)) - r_2)) > 3)) && (decide (r_3 ≥ r_2)))) ?_
      refine TL.cutU 3 [(61, .bool (((decide ((w64 ((w64 ((w64 (x11 + r_3)) + x10)) - r_2)) > 3)) && (decide (r_3 ≥ r_2))) && (decide (r_3 > 1)))), (0, bp b_1 0), (2, .int .i64 x7), (7, SV.v s3), (8, strv x9), (9, .int .i64 x10), (10, .int .i64 x11), (24, .int .i64 x10), (25, .bool (decide (x10 > 0))), (26, .bool (decide (x10 > 0))), (29, .bool ((decide (x10 > 0)) || (x9 == ([] : Str)))), (30, SV.v s4), (31, bp b_1 0), (32, .int .i64 r_1), (33, ep s4 r_1.toNat), (34, u8v (gt ([(105 : UInt8), (105 : UInt8), (120 : UInt8), (109 : UInt8), (115 : UInt8), (101 : UInt8), (117 : UInt8)] : List UInt8) r_1)), (11, u8v (gt ([(105 : UInt8), (105 : UInt8), (120 : UInt8), (109 : UInt8), (115 : UInt8), (101 : UInt8), (117 : UInt8)] : List UInt8) r_1)), (36, u8v (gt ([(105 : UInt8), (105 : UInt8), (120 : UInt8), (109 : UInt8), (115 : UInt8), (101 : UInt8), (117 : UInt8)] : List UInt8) r_1)), (37, .tuple #[.int .i64 r_2, .int .i64 r_3, .bool r_4]), (35, .tuple #[.int .i64 r_2, .int .i64 r_3, .bool r_4]), (38, .int .i64 r_2), (39, .int .i64 r_3), (40, .bool r_4), (12, .int .i64 r_2), (13, .int .i64 r_3), (14, .bool r_4), (41, .int .i64 r_2), (42, .int .i64 x10), (43, .bool (decide (r_2 > x10))), (44, .bool false), (45, .int .i64 x11), (46, .int .i64 r_3), (47, .int .i64 (w64 (x11 + r_3))), (48, .int .i64 x10), (49, .int .i64 (w64 ((w64 (x11 + r_3)) + x10))), (50, .int .i64 r_2), (51, .int .i64 (w64 ((w64 ((w64 (x11 + r_3)) + x10)) - r_2))), (52, .bool (decide ((w64 ((w64 ((w64 (x11 + r_3)) + x10)) - r_2)) > 3))), (53, .bool (decide ((w64 ((w64 ((w64 (x11 + r_3)) + x10)) - r_2)) > 3))), (57, .bool ((decide ((w64 ((w64 ((w64 (x11 + r_3)) + x10)) - r_2)) > 3)) && (decide (r_3 ≥ r_2)))), (58, .bool ((decide ((w64 ((w64 ((w64 (x11 + r_3)) + x10)) - r_2)) > 3)) && (decide (r_3 ≥ r_2))))] [box b_1 71 [.one (SV.v s1), .one (.int .i64 y5), .one (.int .u64 y6)], row Eu 5 s4 ([(105 : UInt8), (105 : UInt8), (120 : UInt8), (109 : UInt8), (115 : UInt8), (101 : UInt8), (117 : UInt8)] : List UInt8), row Es 9 s3 x8] ?_ ?_
      ·refine TL.cases (t := 58) (b := ((decide ((w64 ((w64 ((w64 (x11 + r_3)) + x10)) - r_2)) > 3)) && (decide (r_3 ≥ r_2)))) rfl (fun c11 => ?_) (fun c12 => ?_)
       ·exact TL.mv (.int .i64 r_3) <| TL.bn .i64 r_3 1 (.bool (decide (r_3 > 1))) <| TL.pk true (.bool (decide (r_3 > 1))) <| TL.done <| TC.nrm () () ⟨(by rw [c11]; rfl), rfl, rfl, rfl, rfl, rfl, rfl, rfl, rfl, rfl, rfl, rfl, rfl, rfl, rfl, rfl, rfl, rfl, rfl, rfl, rfl, rfl, rfl, rfl, rfl, rfl, rfl, rfl, rfl, rfl, rfl, rfl, rfl, rfl, rfl, rfl, rfl, rfl, rfl, rfl, (by rw [c11]; rfl), trivial⟩ [0, 0, 0] (by kernel_rfl)
       exact TL.sk <| TL.sk <| TL.pk false (.bool false) <| TL.done <| TC.nrm () () ⟨(by rw [c12]; rfl), rfl, rfl, rfl, rfl, rfl, rfl, rfl, rfl, rfl, rfl, rfl, rfl, rfl, rfl, rfl, rfl, rfl, rfl, rfl, rfl, rfl, rfl, rfl, rfl, rfl, rfl, rfl, rfl, rfl, rfl, rfl, rfl, rfl, rfl, rfl, rfl, rfl, rfl, rfl, (by rw [c12]; rfl), trivial⟩ [0, 0, 0] (by kernel_rfl)
      exact TL.pk false (.bool (((decide ((w64 ((w64 ((w64 (x11 + r_3)) + x10)) - r_2)) > 3)) && (decide (r_3 ≥ r_2))) && (decide (r_3 > 1)))) <| TL.done <| TC.nrm () () ⟨(by rw [c8]; rfl), rfl, rfl, rfl, rfl, rfl, rfl, rfl, rfl, rfl, rfl, rfl, rfl, rfl, rfl, rfl, rfl, rfl, rfl, rfl, rfl, rfl, rfl, rfl, rfl, rfl, rfl, rfl, rfl, (by rw [c8]; rfl), trivial⟩ [0, 0, 0] (by kernel_rfl)
     refine TL.done ?_
     refine TC.join1 (σ := UInt8 × Int × Int) (γ := Unit) (Γ' := (fun p q => match p, q with | (x12, x13, x14), _ => [(0, bp b_1 0), (2, .int .i64 x7), (7, SV.v s3), (8, strv x9), (9, .int .i64 x10), (10, .int .i64 x11), (11, u8v x12), (12, .int .i64 x13), (13, .int .i64 x14)])) (L' := (fun p q => match p, q with | (x12, x13, x14), _ => [box b_1 71 [.one (SV.v s1), .one (.int .i64 y5), .one (.int .u64 y6)], row Es 9 s3 x8])) ?_ ?_
     ·refine TC.cond (b := ((decide (r_2 > x10)) || (((decide ((w64 ((w64 ((w64 (x11 + r_3)) + x10)) - r_2)) > 3)) && (decide (r_3 ≥ r_2))) && (decide (r_3 > 1))))) rfl (fun c13 => ?_) (fun c14 => ?_)
      ·refine TC.seq <| TC.region <| TL.as (u8v (105 : UInt8)) <| TL.done <| TC.seq <| TC.region ?_
       exact TL.as (.int .i64 1) <| TL.done <| TC.region <| TL.as (.int .i64 1) <| TL.done <| TC.nrm (((105 : UInt8), 1, 1)) (()) ⟨rfl, rfl, rfl, rfl, rfl, rfl, rfl, rfl, rfl, trivial⟩ [0, 1] rfl
      exact TC.skip <| TC.nrm (((gt ([(105 : UInt8), (105 : UInt8), (120 : UInt8), (109 : UInt8), (115 : UInt8), (101 : UInt8), (117 : UInt8)] : List UInt8) r_1), r_2, r_3)) (()) ⟨rfl, rfl, rfl, rfl, rfl, rfl, rfl, rfl, rfl, trivial⟩ [0, 1] rfl
     rintro ⟨x12, x13, x14⟩ _
     refine TC.seq <| TC.seq <| TC.region <| TL.mv (.int .i64 x10) <| TL.bn .i64 x10 0 (.bool (x10 == 0)) <| TL.done ?_
     refine TC.join1 (σ := UInt8 × Int) (γ := Unit) (Γ' := (fun p q => match p, q with | (x15, x16), _ => [(0, bp b_1 0), (2, .int .i64 x7), (7, SV.v s3), (8, strv x9), (9, .int .i64 x10), (10, .int .i64 x11), (11, u8v x15), (12, .int .i64 x16), (13, .int .i64 x14)])) (L' := (fun p q => match p, q with | (x15, x16), _ => [box b_1 71 [.one (SV.v s1), .one (.int .i64 y5), .one (.int .u64 y6)], row Es 9 s3 x8])) ?_ ?_
     ·refine TC.cond (b := (x10 == 0)) rfl (fun c15 => ?_) (fun c16 => ?_)
      ·refine TC.seq <| TC.region <| TL.as (u8v (117 : UInt8)) <| TL.done <| TC.region <| TL.as (.int .i64 0) ?_
       exact TL.done <| TC.nrm (((117 : UInt8), 0)) (()) ⟨rfl, rfl, rfl, rfl, rfl, rfl, rfl, rfl, rfl, trivial⟩ [0, 0] rfl
      exact TC.skip <| TC.nrm ((x12, x13)) (()) ⟨rfl, rfl, rfl, rfl, rfl, rfl, rfl, rfl, rfl, trivial⟩ [0, 0] rfl
     rintro ⟨x15, x16⟩ _
     refine TC.seq <| TC.region <| TL.mv (strv x9) <| TL.mv (u8v x15) ?_
     refine TL.blit Eu ([x15] : List UInt8) Tryz.underlying22 Tryz.sizeOf5 Tryz.zeroValue5 rfl rfl rfl [(0, u8v x15)] rfl ⟨rfl, rfl, trivial⟩ rfl rfl fun s5 => ?_
     refine TL.b2s (Rd.row 0 rfl) Tryz.underlying22 Tryz.underlying5 Tryz.underlying9 rfl rfl rfl ?_
     refine TL.tall fun h3 => ?_
     refine TL.catT x9 ([x15] : List UInt8) h3 rfl rfl rfl rfl ?_
     refine TL.as (strv (x9 ++ ([x15] : List UInt8))) <| TL.done <| TC.seq <| TC.region <| TL.mv (.int .i64 x10) <| TL.mv (.int .i64 x16) ?_
     refine TL.bn .i64 x10 x16 (.int .i64 (w64 (x10 - x16))) <| TL.as (.int .i64 (w64 (x10 - x16))) <| TL.done <| TC.region <| TL.mv (.int .i64 x11) <| TL.mv (.int .i64 x14) ?_
     refine TL.bn .i64 x11 x14 (.int .i64 (w64 (x11 + x14))) <| TL.as (.int .i64 (w64 (x11 + x14))) <| TL.done ?_
     exact TC.next1 ((y5, y6, (x9 ++ ([x15] : List UInt8)), (w64 (x10 - x16)), (w64 (x11 + x14)))) (()) ⟨rfl, rfl, rfl, rfl, rfl, rfl, trivial⟩ [1, 1] rfl
    exact TC.brk1 ((y3, y4, x9, x10, x11)) (()) ⟨rfl, rfl, rfl, rfl, rfl, rfl, trivial⟩ [0, 0] rfl
   rintro ⟨y3, y4, x9, x10, x11⟩ _
   refine TC.seq <| TC.region <| TL.mv (SV.v s3) <| TL.mv (strv x9) ?_
   refine TL.blit Es ([x9] : List Str) Tryz.underlying49 Tryz.sizeOf9 Tryz.zeroValue9 rfl rfl rfl [(0, strv x9)] rfl ⟨rfl, rfl, trivial⟩ rfl rfl fun s6 => ?_
   refine TL.small fun h4 => ?_
   refine TL.append 2 rfl (Rd.row 0 rfl) Tryz.underlying49 (info_of Tryz.type9) (zv := (Tryz.t9.zero.getD (.bool false))) rfl rfl rfl (by decide) h4 rfl rfl rfl rfl fun s7 => ?_
   refine TL.as (SV.v s7) <| TL.done <| TC.seq <| TC.region <| TL.mv (strv x9) ?_
   refine TL.call (R := G.spec_l04Layer.R) Tryz.call67 rfl rfl rfl (fun w hS => G.spec_l04Layer.calls w x9) ?_
   rintro ⟨r_5, r_6, r_7⟩ _ _ ⟨rfl, rfl⟩
   refine TL.mv (.tuple #[.int .i64 r_5, .int .i64 r_6, .bool r_7]) <| TL.extract rfl rfl rfl (v := .int .i64 r_5) rfl <| TL.extract rfl rfl rfl (v := .int .i64 r_6) rfl <| TL.extract rfl rfl rfl (v := .bool r_7) rfl <| TL.as (.int .i64 r_5) <| TL.as (.int .i64 r_6) ?_
   refine TL.as (.bool r_7) <| TL.done <| TC.region <| TL.mv (.int .i64 r_6) <| TL.as (.int .i64 r_6) <| TL.done ?_
   refine TC.region <| TL.mv (.int .i64 x7) <| TL.bn .i64 x7 1 (.int .i64 (w64 (x7 - 1))) <| TL.as (.int .i64 (w64 (x7 - 1))) <| TL.done ?_
   exact TC.next1 ((y3, y4, r_6, (w64 (x7 - 1)), (x8 ++ ([x9] : List Str)))) (s7) ⟨rfl, rfl, rfl, rfl, trivial⟩ [1, 1] rfl
  exact TC.brk1 ((y1, y2, x6, x7, x8)) (s3) ⟨rfl, rfl, rfl, rfl, trivial⟩ [0, 0] rfl
 rintro ⟨y1, y2, x6, x7, x8⟩ s3
 exact TC.seq <| TC.region <| TL.mv (SV.v s3) <| TL.as (SV.v s3) <| TL.done <| TC.retF (Fin.body (fin1 (.inr rfl) rfl (.tmp rfl) [1, 0] rfl ⟨s3, rfl, rfl⟩))
def spec_l01Pick.f (s1 : List UInt8) (s3 : Int) (s4 : Int) (list_1 : List Int) : Option (Int × Int × Int) := (G.spec_l01Next.f s1 s3 s4 (list_1.length : Int)).bind (fun p => match p with | (r_1, s6, s7) => chk r_1 list_1.length (some ((gt list_1 r_1), s6, s7)))
def spec_l01Pick.R (b_1 : Nat) (s2 : SV) (r : Int × Int × Int) (v : Value) (L : List Asn) : Prop := v = .int .i64 r.1 ∧ L = [box b_1 71 [.one (SV.v s2), .one (.int .i64 r.2.1), .one (.int .u64 r.2.2)]]
theorem spec_l01Pick.calls (w0 : World) (I : Hp) (w : World) (b_1 : Nat) (s2 : SV) (s1 : List UInt8) (s3 : Int) (s4 : Int) (s5 : SV) (list_1 : List Int) (hS : St w0 I [box b_1 71 [.one (SV.v s2), .one (.int .i64 s3), .one (.int .u64 s4)]] w) (h1 : Reads Eu I s2 s1) (h2 : Reads Ei I s5 list_1) :
  ∀ r, spec_l01Pick.f s1 s3 s4 list_1 = some r → Calls Tryz.prog 52 #[bp b_1 0, SV.v s5] w (RetM w0 I ((spec_l01Pick.R b_1 s2) r)) := by
 refine calls_TM (w0 := w0) (I := I) (L := [box b_1 71 [.one (SV.v s2), .one (.int .i64 s3), .one (.int .u64 s4)]]) (n := 12) (Γ := [(0, bp b_1 0), (1, SV.v s5)]) (R := (spec_l01Pick.R b_1 s2)) Tryz.func52 rfl rfl (Nat.le_of_ble_eq_true rfl) ⟨rfl, rfl, trivial⟩ ?_ w hS
 unfold spec_l01Pick.f
 refine TC.seq <| TC.region <| TL.as (.int .i64 0) <| TL.done <| TC.seq <| TC.region ?_
 refine TL.mv (SV.v s5) <| TL.mv (bp b_1 0) <| TL.mv (SV.v s5) <| TL.len (Rd.old h2) Tryz.underlying36 rfl rfl rfl ?_
 refine TL.callX (R := G.spec_l01Next.R b_1 s2) [0] [box b_1 71 [.one (SV.v s2), .one (.int .i64 s3), .one (.int .u64 s4)]] [] rfl Tryz.call53 rfl rfl rfl (fun w I_ hle hB hS => G.spec_l01Next.calls _ I_ w b_1 s2 s1 s3 s4 (list_1.length : Int) hS (h1.mono hle)) ?_
 rintro ⟨r_1, s6, s7⟩ _ _ ⟨rfl, rfl⟩
 refine TL.chk fun h3 => ?_
 refine TL.ixs r_1 r_1.toNat (Rd.old h2) h3 Tryz.underlying36 Tryz.sizeOf2 rfl rfl rfl rfl (by omega) ?_
 refine TL.loadE (Rd.old h2) Tryz.isAgg2 r_1.toNat 0 (gt_spec h3) (v := .int .i64 (gt list_1 r_1)) rfl (by simp only [show Ei.sz = 1 from rfl] <;> omega) rfl rfl rfl ?_
 exact TL.as (.int .i64 (gt list_1 r_1)) <| TL.done <| TC.retF (Fin.body (fin1 (.inr rfl) rfl (.tmp rfl) [0] rfl ⟨rfl, rfl⟩))
def spec_l01Damage.f (s1 : List UInt8) (s3 : Int) (s4 : Int) (t1 : Str) : Option (Str × Int × Int) := (G.spec_l01Next.f s1 s3 s4 (([([48] : Str), ([49] : Str), ([50] : Str), ([97] : Str), ([58] : Str), ([44] : Str), ([32] : Str), ([45] : Str), ([120] : Str), ([10] : Str)] : List Str).length : Int)).bind (fun p => match p with | (r_1, s6, s7) => chk r_1 (([([48] : Str), ([49] : Str), ([50] : Str), ([97] : Str), ([58] : Str), ([44] : Str), ([32] : Str), ([45] : Str), ([120] : Str), ([10] : Str)] : List Str).length) ((bif ((t1.length : Int) == 0) then some ((gt ([([48] : Str), ([49] : Str), ([50] : Str), ([97] : Str), ([58] : Str), ([44] : Str), ([32] : Str), ([45] : Str), ([120] : Str), ([10] : Str)] : List Str) r_1), s6, s7) else (G.spec_l01Next.f s1 s6 s7 (t1.length : Int)).bind (fun p => match p with | (r_2, s8, s9) => (G.spec_l01Next.f s1 s8 s9 3).bind (fun p => match p with | (r_3, s10, s11) => (bif (r_3 == 0) then grd (decide (0 ≤ 0) && decide (0 ≤ r_2) && decide (r_2 ≤ (t1.length : Int))) (tall (((t1.drop 0).take (r_2.toNat - 0)).length + (gt ([([48] : Str), ([49] : Str), ([50] : Str), ([97] : Str), ([58] : Str), ([44] : Str), ([32] : Str), ([45] : Str), ([120] : Str), ([10] : Str)] : List Str) r_1).length) (grd (decide (0 ≤ (w64 (r_2 + 1))) && decide ((w64 (r_2 + 1)) ≤ (t1.length : Int)) && decide ((t1.length : Int) ≤ (t1.length : Int))) (tall ((((t1.drop 0).take (r_2.toNat - 0)) ++ (gt ([([48] : Str), ([49] : Str), ([50] : Str), ([97] : Str), ([58] : Str), ([44] : Str), ([32] : Str), ([45] : Str), ([120] : Str), ([10] : Str)] : List Str) r_1)).length + ((t1.drop ((w64 (r_2 + 1)).toNat)).take (t1.length - ((w64 (r_2 + 1)).toNat))).length) (some (((((t1.drop 0).take (r_2.toNat - 0)) ++ (gt ([([48] : Str), ([49] : Str), ([50] : Str), ([97] : Str), ([58] : Str), ([44] : Str), ([32] : Str), ([45] : Str), ([120] : Str), ([10] : Str)] : List Str) r_1)) ++ ((t1.drop ((w64 (r_2 + 1)).toNat)).take (t1.length - ((w64 (r_2 + 1)).toNat)))), s10, s11))))) else (bif (r_3 == 1) then grd (decide (0 ≤ 0) && decide (0 ≤ r_2) && decide (r_2 ≤ (t1.length : Int))) (grd (decide (0 ≤ (w64 (r_2 + 1))) && decide ((w64 (r_2 + 1)) ≤ (t1.length : Int)) && decide ((t1.length : Int) ≤ (t1.length : Int))) (tall (((t1.drop 0).take (r_2.toNat - 0)).length + ((t1.drop ((w64 (r_2 + 1)).toNat)).take (t1.length - ((w64 (r_2 + 1)).toNat))).length) (some ((((t1.drop 0).take (r_2.toNat - 0)) ++ ((t1.drop ((w64 (r_2 + 1)).toNat)).take (t1.length - ((w64 (r_2 + 1)).toNat)))), s10, s11)))) else grd (decide (0 ≤ 0) && decide (0 ≤ r_2) && decide (r_2 ≤ (t1.length : Int))) (tall (((t1.drop 0).take (r_2.toNat - 0)).length + (gt ([([48] : Str), ([49] : Str), ([50] : Str), ([97] : Str), ([58] : Str), ([44] : Str), ([32] : Str), ([45] : Str), ([120] : Str), ([10] : Str)] : List Str) r_1).length) (grd (decide (0 ≤ r_2) && decide (r_2 ≤ (t1.length : Int)) && decide ((t1.length : Int) ≤ (t1.length : Int))) (tall ((((t1.drop 0).take (r_2.toNat - 0)) ++ (gt ([([48] : Str), ([49] : Str), ([50] : Str), ([97] : Str), ([58] : Str), ([44] : Str), ([32] : Str), ([45] : Str), ([120] : Str), ([10] : Str)] : List Str) r_1)).length + ((t1.drop r_2.toNat).take (t1.length - r_2.toNat)).length) (some (((((t1.drop 0).take (r_2.toNat - 0)) ++ (gt ([([48] : Str), ([49] : Str), ([50] : Str), ([97] : Str), ([58] : Str), ([44] : Str), ([32] : Str), ([45] : Str), ([120] : Str), ([10] : Str)] : List Str) r_1)) ++ ((t1.drop r_2.toNat).take (t1.length - r_2.toNat))), s10, s11))))))))))))
def spec_l01Damage.R (b_1 : Nat) (s2 : SV) (r : Str × Int × Int) (v : Value) (L : List Asn) : Prop := v = strv r.1 ∧ L = [box b_1 71 [.one (SV.v s2), .one (.int .i64 r.2.1), .one (.int .u64 r.2.2)]]
theorem spec_l01Damage.calls (w0 : World) (I : Hp) (w : World) (b_1 : Nat) (s2 : SV) (s1 : List UInt8) (s3 : Int) (s4 : Int) (t1 : Str) (hS : St w0 I [box b_1 71 [.one (SV.v s2), .one (.int .i64 s3), .one (.int .u64 s4)]] w) (h1 : Reads Eu I s2 s1) :
  ∀ r, spec_l01Damage.f s1 s3 s4 t1 = some r → Calls Tryz.prog 54 #[bp b_1 0, strv t1] w (RetM w0 I ((spec_l01Damage.R b_1 s2) r)) := by
 refine calls_TM (w0 := w0) (I := I) (L := [box b_1 71 [.one (SV.v s2), .one (.int .i64 s3), .one (.int .u64 s4)]]) (n := 57) (Γ := [(0, bp b_1 0), (1, strv t1)]) (R := (spec_l01Damage.R b_1 s2)) Tryz.func54 rfl rfl (Nat.le_of_ble_eq_true rfl) ⟨rfl, rfl, trivial⟩ ?_ w hS
 unfold spec_l01Damage.f
 refine TC.seq <| TC.region <| TL.as (strv ([] : Str)) <| TL.done <| TC.seq <| TC.region ?_
 refine TL.blit Es ([([48] : Str), ([49] : Str), ([50] : Str), ([97] : Str), ([58] : Str), ([44] : Str), ([32] : Str), ([45] : Str), ([120] : Str), ([10] : Str)] : List Str) Tryz.underlying49 Tryz.sizeOf9 Tryz.zeroValue9 rfl rfl rfl [(0, strv ([48] : Str)), (1, strv ([49] : Str)), (2, strv ([50] : Str)), (3, strv ([97] : Str)), (4, strv ([58] : Str)), (5, strv ([44] : Str)), (6, strv ([32] : Str)), (7, strv ([45] : Str)), (8, strv ([120] : Str)), (9, strv ([10] : Str))] rfl ⟨rfl, rfl, rfl, rfl, rfl, rfl, rfl, rfl, rfl, rfl, rfl, rfl, rfl, rfl, rfl, rfl, rfl, rfl, rfl, rfl, trivial⟩ rfl rfl fun s5 => ?_
 refine TL.as (SV.v s5) <| TL.done <| TC.seq <| TC.region <| TL.mv (SV.v s5) <| TL.mv (bp b_1 0) ?_
 refine TL.mv (SV.v s5) <| TL.len (Rd.row 0 rfl) Tryz.underlying49 rfl rfl rfl ?_
 refine TL.callX (R := G.spec_l01Next.R b_1 s2) [1, 0] [box b_1 71 [.one (SV.v s2), .one (.int .i64 s3), .one (.int .u64 s4)]] [row Es 9 s5 ([([48] : Str), ([49] : Str), ([50] : Str), ([97] : Str), ([58] : Str), ([44] : Str), ([32] : Str), ([45] : Str), ([120] : Str), ([10] : Str)] : List Str)] rfl Tryz.call53 rfl rfl rfl (fun w I_ hle hB hS => G.spec_l01Next.calls _ I_ w b_1 s2 s1 s3 s4 (([([48] : Str), ([49] : Str), ([50] : Str), ([97] : Str), ([58] : Str), ([44] : Str), ([32] : Str), ([45] : Str), ([120] : Str), ([10] : Str)] : List Str).length : Int) hS (h1.mono hle)) ?_
 rintro ⟨r_1, s6, s7⟩ _ _ ⟨rfl, rfl⟩
 refine TL.chk fun h2 => ?_
 refine TL.ixs r_1 r_1.toNat (Rd.row 1 rfl) h2 Tryz.underlying49 Tryz.sizeOf9 rfl rfl rfl rfl (by omega) ?_
 refine TL.loadE (Rd.row 1 rfl) Tryz.isAgg9 r_1.toNat 0 (gt_spec h2) (v := strv (gt ([([48] : Str), ([49] : Str), ([50] : Str), ([97] : Str), ([58] : Str), ([44] : Str), ([32] : Str), ([45] : Str), ([120] : Str), ([10] : Str)] : List Str) r_1)) rfl (by simp only [show Es.sz = 1 from rfl] <;> omega) rfl rfl rfl ?_
 refine TL.as (strv (gt ([([48] : Str), ([49] : Str), ([50] : Str), ([97] : Str), ([58] : Str), ([44] : Str), ([32] : Str), ([45] : Str), ([120] : Str), ([10] : Str)] : List Str) r_1)) <| TL.done <| TC.seq <| TC.seq <| TC.region <| TL.mv (strv t1) ?_
 refine TL.lenstr Tryz.underlying9 rfl rfl rfl <| TL.bn .i64 (t1.length : Int) 0 (.bool ((t1.length : Int) == 0)) <| TL.done ?_
 refine TC.cond (b := ((t1.length : Int) == 0)) rfl (fun c1 => ?_) (fun c2 => ?_)
 ·exact TC.seq <| TC.region <| TL.mv (strv (gt ([([48] : Str), ([49] : Str), ([50] : Str), ([97] : Str), ([58] : Str), ([44] : Str), ([32] : Str), ([45] : Str), ([120] : Str), ([10] : Str)] : List Str) r_1)) <| TL.as (strv (gt ([([48] : Str), ([49] : Str), ([50] : Str), ([97] : Str), ([58] : Str), ([44] : Str), ([32] : Str), ([45] : Str), ([120] : Str), ([10] : Str)] : List Str) r_1)) <| TL.done <| TC.retF (Fin.body (fin1 (.inr rfl) rfl (.tmp rfl) [0] rfl ⟨rfl, rfl⟩))
 refine TC.skip <| TC.seq <| TC.region <| TL.mv (bp b_1 0) <| TL.mv (strv t1) <| TL.lenstr Tryz.underlying9 rfl rfl rfl ?_
 refine TL.callX (R := G.spec_l01Next.R b_1 s2) [0, 0] [box b_1 71 [.one (SV.v s2), .one (.int .i64 s6), .one (.int .u64 s7)]] [row Es 9 s5 ([([48] : Str), ([49] : Str), ([50] : Str), ([97] : Str), ([58] : Str), ([44] : Str), ([32] : Str), ([45] : Str), ([120] : Str), ([10] : Str)] : List Str)] rfl Tryz.call53 rfl rfl rfl (fun w I_ hle hB hS => G.spec_l01Next.calls _ I_ w b_1 s2 s1 s6 s7 (t1.length : Int) hS (h1.mono hle)) ?_
 rintro ⟨r_2, s8, s9⟩ _ _ ⟨rfl, rfl⟩
 refine TL.as (.int .i64 r_2) <| TL.done <| TC.seq <| TC.seq <| TC.region <| TL.mv (bp b_1 0) ?_
 refine TL.callX (R := G.spec_l01Next.R b_1 s2) [0, 0] [box b_1 71 [.one (SV.v s2), .one (.int .i64 s8), .one (.int .u64 s9)]] [row Es 9 s5 ([([48] : Str), ([49] : Str), ([50] : Str), ([97] : Str), ([58] : Str), ([44] : Str), ([32] : Str), ([45] : Str), ([120] : Str), ([10] : Str)] : List Str)] rfl Tryz.call53 rfl rfl rfl (fun w I_ hle hB hS => G.spec_l01Next.calls _ I_ w b_1 s2 s1 s8 s9 3 hS (h1.mono hle)) ?_
 rintro ⟨r_3, s10, s11⟩ _ _ ⟨rfl, rfl⟩
 refine TL.done <| TC.block NoEx.body <| TC.seq <| TC.region <| TL.bn .i64 r_3 0 (.bool (r_3 == 0)) <| TL.as (.bool (r_3 == 0)) ?_
 refine TL.done ?_
 refine TC.cond (b := (r_3 == 0)) rfl (fun c3 => ?_) (fun c4 => ?_)
 ·refine TC.seq ?_
  refine TC.wk (Γ' := [(0, bp b_1 0), (1, strv t1), (8, SV.v s5), (5, SV.v s5), (9, SV.v s5), (10, bp b_1 0), (11, SV.v s5), (12, .int .i64 (([([48] : Str), ([49] : Str), ([50] : Str), ([97] : Str), ([58] : Str), ([44] : Str), ([32] : Str), ([45] : Str), ([120] : Str), ([10] : Str)] : List Str).length : Int)), (13, .int .i64 r_1), (14, ep s5 r_1.toNat), (15, strv (gt ([([48] : Str), ([49] : Str), ([50] : Str), ([97] : Str), ([58] : Str), ([44] : Str), ([32] : Str), ([45] : Str), ([120] : Str), ([10] : Str)] : List Str) r_1)), (6, strv (gt ([([48] : Str), ([49] : Str), ([50] : Str), ([97] : Str), ([58] : Str), ([44] : Str), ([32] : Str), ([45] : Str), ([120] : Str), ([10] : Str)] : List Str) r_1)), (16, strv t1), (17, .int .i64 (t1.length : Int)), (18, .bool ((t1.length : Int) == 0)), (20, bp b_1 0), (21, strv t1), (22, .int .i64 (t1.length : Int)), (23, .int .i64 r_2), (7, .int .i64 r_2), (24, bp b_1 0), (25, .int .i64 r_3), (27, .bool (r_3 == 0)), (26, .bool (r_3 == 0))]) ⟨rfl, rfl, rfl, rfl, rfl, rfl, rfl, rfl, rfl, rfl, rfl, rfl, rfl, rfl, rfl, rfl, rfl, rfl, rfl, rfl, rfl, rfl, rfl, rfl, trivial⟩ ?_
  refine TC.grd fun h3 => ?_
  refine TC.tall fun h4 => ?_
  refine TC.grd fun h5 => ?_
  refine TC.tall fun h6 => ?_
  refine TC.draw [strv t1, .int .i64 r_2, strv ((t1.drop 0).take (r_2.toNat - 0)), strv (gt ([([48] : Str), ([49] : Str), ([50] : Str), ([97] : Str), ([58] : Str), ([44] : Str), ([32] : Str), ([45] : Str), ([120] : Str), ([10] : Str)] : List Str) r_1), strv (((t1.drop 0).take (r_2.toNat - 0)) ++ (gt ([([48] : Str), ([49] : Str), ([50] : Str), ([97] : Str), ([58] : Str), ([44] : Str), ([32] : Str), ([45] : Str), ([120] : Str), ([10] : Str)] : List Str) r_1)), strv t1, .int .i64 r_2, .int .i64 (w64 (r_2 + 1)), strv ((t1.drop ((w64 (r_2 + 1)).toNat)).take (t1.length - ((w64 (r_2 + 1)).toNat))), strv ((((t1.drop 0).take (r_2.toNat - 0)) ++ (gt ([([48] : Str), ([49] : Str), ([50] : Str), ([97] : Str), ([58] : Str), ([44] : Str), ([32] : Str), ([45] : Str), ([120] : Str), ([10] : Str)] : List Str) r_1)) ++ ((t1.drop ((w64 (r_2 + 1)).toNat)).take (t1.length - ((w64 (r_2 + 1)).toNat)))), strv ((((t1.drop 0).take (r_2.toNat - 0)) ++ (gt ([([48] : Str), ([49] : Str), ([50] : Str), ([97] : Str), ([58] : Str), ([44] : Str), ([32] : Str), ([45] : Str), ([120] : Str), ([10] : Str)] : List Str) r_1)) ++ ((t1.drop ((w64 (r_2 + 1)).toNat)).take (t1.length - ((w64 (r_2 + 1)).toNat))))] 11 [box b_1 71 [.one (SV.v s2), .one (.int .i64 s10), .one (.int .u64 s11)], row Es 9 s5 ([([48] : Str), ([49] : Str), ([50] : Str), ([97] : Str), ([58] : Str), ([44] : Str), ([32] : Str), ([45] : Str), ([120] : Str), ([10] : Str)] : List Str)] (by kernel_rfl) rfl rfl rfl rfl ?_ ?_
  ·refine ⟨?_, ?_, ?_, ?_, ?_, ?_, ?_, ?_, ?_, ?_, ?_, trivial⟩
   ·exact TL.mv (strv t1) <| TL.done <| TC.n0 [0, 0]
   ·exact TL.mv (.int .i64 r_2) <| TL.done <| TC.n0 [0, 0]
   ·exact TL.slicestr (li := none) (hi' := (some r_2)) (l := 0) (h := r_2.toNat) Tryz.underlying9 rfl rfl (by have h_ := h3; simp only [Bool.and_eq_true, decide_eq_true_eq] at h_; first | rfl | omega | (simp only [Option.getD_some]; omega) | (simp only [Option.getD_none]; omega)) (by have h_ := h3; simp only [Bool.and_eq_true, decide_eq_true_eq] at h_; first | rfl | omega | (simp only [Option.getD_some]; omega) | (simp only [Option.getD_none]; omega)) (by have h_ := h3; simp only [Bool.and_eq_true, decide_eq_true_eq] at h_; first | rfl | omega | (simp only [Option.getD_some]; omega) | (simp only [Option.getD_none]; omega)) (by have h_ := h3; simp only [Bool.and_eq_true, decide_eq_true_eq] at h_; first | rfl | omega | (simp only [Option.getD_some]; omega) | (simp only [Option.getD_none]; omega)) rfl rfl rfl <| TL.done <| TC.n0 [0, 0]
   ·exact TL.mv (strv (gt ([([48] : Str), ([49] : Str), ([50] : Str), ([97] : Str), ([58] : Str), ([44] : Str), ([32] : Str), ([45] : Str), ([120] : Str), ([10] : Str)] : List Str) r_1)) <| TL.done <| TC.n0 [0, 0]
   ·refine TL.catT ((t1.drop 0).take (r_2.toNat - 0)) (gt ([([48] : Str), ([49] : Str), ([50] : Str), ([97] : Str), ([58] : Str), ([44] : Str), ([32] : Str), ([45] : Str), ([120] : Str), ([10] : Str)] : List Str) r_1) h4 rfl rfl rfl rfl ?_
    exact TL.done <| TC.n0 [0, 0]
   ·exact TL.mv (strv t1) <| TL.done <| TC.n0 [0, 0]
   ·exact TL.mv (.int .i64 r_2) <| TL.done <| TC.n0 [0, 0]
   ·exact TL.bn .i64 r_2 1 (.int .i64 (w64 (r_2 + 1))) <| TL.done <| TC.n0 [0, 0]
   ·exact TL.slicestr (li := (some (w64 (r_2 + 1)))) (hi' := none) (l := ((w64 (r_2 + 1)).toNat)) (h := t1.length) Tryz.underlying9 rfl rfl (by have h_ := h5; simp only [Bool.and_eq_true, decide_eq_true_eq] at h_; first | rfl | omega | (simp only [Option.getD_some]; omega) | (simp only [Option.getD_none]; omega)) (by have h_ := h5; simp only [Bool.and_eq_true, decide_eq_true_eq] at h_; first | rfl | omega | (simp only [Option.getD_some]; omega) | (simp only [Option.getD_none]; omega)) (by have h_ := h5; simp only [Bool.and_eq_true, decide_eq_true_eq] at h_; first | rfl | omega | (simp only [Option.getD_some]; omega) | (simp only [Option.getD_none]; omega)) (by have h_ := h5; simp only [Bool.and_eq_true, decide_eq_true_eq] at h_; first | rfl | omega | (simp only [Option.getD_some]; omega) | (simp only [Option.getD_none]; omega)) rfl rfl rfl <| TL.done <| TC.n0 [0, 0]
   ·refine TL.catT (((t1.drop 0).take (r_2.toNat - 0)) ++ (gt ([([48] : Str), ([49] : Str), ([50] : Str), ([97] : Str), ([58] : Str), ([44] : Str), ([32] : Str), ([45] : Str), ([120] : Str), ([10] : Str)] : List Str) r_1)) ((t1.drop ((w64 (r_2 + 1)).toNat)).take (t1.length - ((w64 (r_2 + 1)).toNat))) h6 rfl rfl rfl rfl ?_
    exact TL.done <| TC.n0 [0, 0]
   exact TL.as (strv ((((t1.drop 0).take (r_2.toNat - 0)) ++ (gt ([([48] : Str), ([49] : Str), ([50] : Str), ([97] : Str), ([58] : Str), ([44] : Str), ([32] : Str), ([45] : Str), ([120] : Str), ([10] : Str)] : List Str) r_1)) ++ ((t1.drop ((w64 (r_2 + 1)).toNat)).take (t1.length - ((w64 (r_2 + 1)).toNat))))) <| TL.done <| TC.n0 [0, 0]
  exact TC.retF (Fin.body (fin1 (.inr rfl) rfl (.tmp rfl) [0] rfl ⟨rfl, rfl⟩))
 refine TC.seq <| TC.region <| TL.bn .i64 r_3 1 (.bool (r_3 == 1)) <| TL.as (.bool (r_3 == 1)) <| TL.done ?_
 refine TC.cond (b := (r_3 == 1)) rfl (fun c5 => ?_) (fun c6 => ?_)
 ·refine TC.seq ?_
  refine TC.wk (Γ' := [(0, bp b_1 0), (1, strv t1), (8, SV.v s5), (5, SV.v s5), (9, SV.v s5), (10, bp b_1 0), (11, SV.v s5), (12, .int .i64 (([([48] : Str), ([49] : Str), ([50] : Str), ([97] : Str), ([58] : Str), ([44] : Str), ([32] : Str), ([45] : Str), ([120] : Str), ([10] : Str)] : List Str).length : Int)), (13, .int .i64 r_1), (14, ep s5 r_1.toNat), (15, strv (gt ([([48] : Str), ([49] : Str), ([50] : Str), ([97] : Str), ([58] : Str), ([44] : Str), ([32] : Str), ([45] : Str), ([120] : Str), ([10] : Str)] : List Str) r_1)), (6, strv (gt ([([48] : Str), ([49] : Str), ([50] : Str), ([97] : Str), ([58] : Str), ([44] : Str), ([32] : Str), ([45] : Str), ([120] : Str), ([10] : Str)] : List Str) r_1)), (16, strv t1), (17, .int .i64 (t1.length : Int)), (18, .bool ((t1.length : Int) == 0)), (20, bp b_1 0), (21, strv t1), (22, .int .i64 (t1.length : Int)), (23, .int .i64 r_2), (7, .int .i64 r_2), (24, bp b_1 0), (25, .int .i64 r_3), (27, .bool (r_3 == 0)), (26, .bool (r_3 == 0)), (39, .bool (r_3 == 1)), (38, .bool (r_3 == 1))]) ⟨rfl, rfl, rfl, rfl, rfl, rfl, rfl, rfl, rfl, rfl, rfl, rfl, rfl, rfl, rfl, rfl, rfl, rfl, rfl, rfl, rfl, rfl, rfl, rfl, rfl, rfl, trivial⟩ ?_
  refine TC.grd fun h7 => ?_
  refine TC.grd fun h8 => ?_
  refine TC.tall fun h9 => ?_
  refine TC.draw [strv t1, .int .i64 r_2, strv ((t1.drop 0).take (r_2.toNat - 0)), strv t1, .int .i64 r_2, .int .i64 (w64 (r_2 + 1)), strv ((t1.drop ((w64 (r_2 + 1)).toNat)).take (t1.length - ((w64 (r_2 + 1)).toNat))), strv (((t1.drop 0).take (r_2.toNat - 0)) ++ ((t1.drop ((w64 (r_2 + 1)).toNat)).take (t1.length - ((w64 (r_2 + 1)).toNat)))), strv (((t1.drop 0).take (r_2.toNat - 0)) ++ ((t1.drop ((w64 (r_2 + 1)).toNat)).take (t1.length - ((w64 (r_2 + 1)).toNat))))] 9 [box b_1 71 [.one (SV.v s2), .one (.int .i64 s10), .one (.int .u64 s11)], row Es 9 s5 ([([48] : Str), ([49] : Str), ([50] : Str), ([97] : Str), ([58] : Str), ([44] : Str), ([32] : Str), ([45] : Str), ([120] : Str), ([10] : Str)] : List Str)] (by kernel_rfl) rfl rfl rfl rfl ?_ ?_
  ·refine ⟨?_, ?_, ?_, ?_, ?_, ?_, ?_, ?_, ?_, trivial⟩
   ·exact TL.mv (strv t1) <| TL.done <| TC.n0 [0, 0]
   ·exact TL.mv (.int .i64 r_2) <| TL.done <| TC.n0 [0, 0]
   ·exact TL.slicestr (li := none) (hi' := (some r_2)) (l := 0) (h := r_2.toNat) Tryz.underlying9 rfl rfl (by have h_ := h7; simp only [Bool.and_eq_true, decide_eq_true_eq] at h_; first | rfl | omega | (simp only [Option.getD_some]; omega) | (simp only [Option.getD_none]; omega)) (by have h_ := h7; simp only [Bool.and_eq_true, decide_eq_true_eq] at h_; first | rfl | omega | (simp only [Option.getD_some]; omega) | (simp only [Option.getD_none]; omega)) (by have h_ := h7; simp only [Bool.and_eq_true, decide_eq_true_eq] at h_; first | rfl | omega | (simp only [Option.getD_some]; omega) | (simp only [Option.getD_none]; omega)) (by have h_ := h7; simp only [Bool.and_eq_true, decide_eq_true_eq] at h_; first | rfl | omega | (simp only [Option.getD_some]; omega) | (simp only [Option.getD_none]; omega)) rfl rfl rfl <| TL.done <| TC.n0 [0, 0]
   ·exact TL.mv (strv t1) <| TL.done <| TC.n0 [0, 0]
   ·exact TL.mv (.int .i64 r_2) <| TL.done <| TC.n0 [0, 0]
   ·exact TL.bn .i64 r_2 1 (.int .i64 (w64 (r_2 + 1))) <| TL.done <| TC.n0 [0, 0]
   ·exact TL.slicestr (li := (some (w64 (r_2 + 1)))) (hi' := none) (l := ((w64 (r_2 + 1)).toNat)) (h := t1.length) Tryz.underlying9 rfl rfl (by have h_ := h8; simp only [Bool.and_eq_true, decide_eq_true_eq] at h_; first | rfl | omega | (simp only [Option.getD_some]; omega) | (simp only [Option.getD_none]; omega)) (by have h_ := h8; simp only [Bool.and_eq_true, decide_eq_true_eq] at h_; first | rfl | omega | (simp only [Option.getD_some]; omega) | (simp only [Option.getD_none]; omega)) (by have h_ := h8; simp only [Bool.and_eq_true, decide_eq_true_eq] at h_; first | rfl | omega | (simp only [Option.getD_some]; omega) | (simp only [Option.getD_none]; omega)) (by have h_ := h8; simp only [Bool.and_eq_true, decide_eq_true_eq] at h_; first | rfl | omega | (simp only [Option.getD_some]; omega) | (simp only [Option.getD_none]; omega)) rfl rfl rfl <| TL.done <| TC.n0 [0, 0]
   ·refine TL.catT ((t1.drop 0).take (r_2.toNat - 0)) ((t1.drop ((w64 (r_2 + 1)).toNat)).take (t1.length - ((w64 (r_2 + 1)).toNat))) h9 rfl rfl rfl rfl ?_
    exact TL.done <| TC.n0 [0, 0]
   exact TL.as (strv (((t1.drop 0).take (r_2.toNat - 0)) ++ ((t1.drop ((w64 (r_2 + 1)).toNat)).take (t1.length - ((w64 (r_2 + 1)).toNat))))) <| TL.done <| TC.n0 [0, 0]
  exact TC.retF (Fin.body (fin1 (.inr rfl) rfl (.tmp rfl) [0] rfl ⟨rfl, rfl⟩))
 refine TC.skip <| TC.seq ?_
 refine TC.wk (Γ' := [(0, bp b_1 0), (1, strv t1), (8, SV.v s5), (5, SV.v s5), (9, SV.v s5), (10, bp b_1 0), (11, SV.v s5), (12, .int .i64 (([([48] : Str), ([49] : Str), ([50] : Str), ([97] : Str), ([58] : Str), ([44] : Str), ([32] : Str), ([45] : Str), ([120] : Str), ([10] : Str)] : List Str).length : Int)), (13, .int .i64 r_1), (14, ep s5 r_1.toNat), (15, strv (gt ([([48] : Str), ([49] : Str), ([50] : Str), ([97] : Str), ([58] : Str), ([44] : Str), ([32] : Str), ([45] : Str), ([120] : Str), ([10] : Str)] : List Str) r_1)), (6, strv (gt ([([48] : Str), ([49] : Str), ([50] : Str), ([97] : Str), ([58] : Str), ([44] : Str), ([32] : Str), ([45] : Str), ([120] : Str), ([10] : Str)] : List Str) r_1)), (16, strv t1), (17, .int .i64 (t1.length : Int)), (18, .bool ((t1.length : Int) == 0)), (20, bp b_1 0), (21, strv t1), (22, .int .i64 (t1.length : Int)), (23, .int .i64 r_2), (7, .int .i64 r_2), (24, bp b_1 0), (25, .int .i64 r_3), (27, .bool (r_3 == 0)), (26, .bool (r_3 == 0)), (39, .bool (r_3 == 1)), (38, .bool (r_3 == 1))]) ⟨rfl, rfl, rfl, rfl, rfl, rfl, rfl, rfl, rfl, rfl, rfl, rfl, rfl, rfl, rfl, rfl, rfl, rfl, rfl, rfl, rfl, rfl, rfl, rfl, rfl, rfl, trivial⟩ ?_
 refine TC.grd fun h10 => ?_
 refine TC.tall fun h11 => ?_
 refine TC.grd fun h12 => ?_
 refine TC.tall fun h13 => ?_
 refine TC.draw [strv t1, .int .i64 r_2, strv ((t1.drop 0).take (r_2.toNat - 0)), strv (gt ([([48] : Str), ([49] : Str), ([50] : Str), ([97] : Str), ([58] : Str), ([44] : Str), ([32] : Str), ([45] : Str), ([120] : Str), ([10] : Str)] : List Str) r_1), strv (((t1.drop 0).take (r_2.toNat - 0)) ++ (gt ([([48] : Str), ([49] : Str), ([50] : Str), ([97] : Str), ([58] : Str), ([44] : Str), ([32] : Str), ([45] : Str), ([120] : Str), ([10] : Str)] : List Str) r_1)), strv t1, .int .i64 r_2, strv ((t1.drop r_2.toNat).take (t1.length - r_2.toNat)), strv ((((t1.drop 0).take (r_2.toNat - 0)) ++ (gt ([([48] : Str), ([49] : Str), ([50] : Str), ([97] : Str), ([58] : Str), ([44] : Str), ([32] : Str), ([45] : Str), ([120] : Str), ([10] : Str)] : List Str) r_1)) ++ ((t1.drop r_2.toNat).take (t1.length - r_2.toNat))), strv ((((t1.drop 0).take (r_2.toNat - 0)) ++ (gt ([([48] : Str), ([49] : Str), ([50] : Str), ([97] : Str), ([58] : Str), ([44] : Str), ([32] : Str), ([45] : Str), ([120] : Str), ([10] : Str)] : List Str) r_1)) ++ ((t1.drop r_2.toNat).take (t1.length - r_2.toNat)))] 10 [box b_1 71 [.one (SV.v s2), .one (.int .i64 s10), .one (.int .u64 s11)], row Es 9 s5 ([([48] : Str), ([49] : Str), ([50] : Str), ([97] : Str), ([58] : Str), ([44] : Str), ([32] : Str), ([45] : Str), ([120] : Str), ([10] : Str)] : List Str)] (by kernel_rfl) rfl rfl rfl rfl ?_ ?_
 ·refine ⟨?_, ?_, ?_, ?_, ?_, ?_, ?_, ?_, ?_, ?_, trivial⟩
  ·exact TL.mv (strv t1) <| TL.done <| TC.n0 [0, 0]
  ·exact TL.mv (.int .i64 r_2) <| TL.done <| TC.n0 [0, 0]
  ·exact TL.slicestr (li := none) (hi' := (some r_2)) (l := 0) (h := r_2.toNat) Tryz.underlying9 rfl rfl (by have h_ := h10; simp only [Bool.and_eq_true, decide_eq_true_eq] at h_; first | rfl | omega | (simp only [Option.getD_some]; omega) | (simp only [Option.getD_none]; omega)) (by have h_ := h10; simp only [Bool.and_eq_true, decide_eq_true_eq] at h_; first | rfl | omega | (simp only [Option.getD_some]; omega) | (simp only [Option.getD_none]; omega)) (by have h_ := h10; simp only [Bool.and_eq_true, decide_eq_true_eq] at h_; first | rfl | omega | (simp only [Option.getD_some]; omega) | (simp only [Option.getD_none]; omega)) (by have h_ := h10; simp only [Bool.and_eq_true, decide_eq_true_eq] at h_; first | rfl | omega | (simp only [Option.getD_some]; omega) | (simp only [Option.getD_none]; omega)) rfl rfl rfl <| TL.done <| TC.n0 [0, 0]
  ·exact TL.mv (strv (gt ([([48] : Str), ([49] : Str), ([50] : Str), ([97] : Str), ([58] : Str), ([44] : Str), ([32] : Str), ([45] : Str), ([120] : Str), ([10] : Str)] : List Str) r_1)) <| TL.done <| TC.n0 [0, 0]
  ·refine TL.catT ((t1.drop 0).take (r_2.toNat - 0)) (gt ([([48] : Str), ([49] : Str), ([50] : Str), ([97] : Str), ([58] : Str), ([44] : Str), ([32] : Str), ([45] : Str), ([120] : Str), ([10] : Str)] : List Str) r_1) h11 rfl rfl rfl rfl ?_
   exact TL.done <| TC.n0 [0, 0]
  ·exact TL.mv (strv t1) <| TL.done <| TC.n0 [0, 0]
  ·exact TL.mv (.int .i64 r_2) <| TL.done <| TC.n0 [0, 0]
  ·exact TL.slicestr (li := (some r_2)) (hi' := none) (l := r_2.toNat) (h := t1.length) Tryz.underlying9 rfl rfl (by have h_ := h12; simp only [Bool.and_eq_true, decide_eq_true_eq] at h_; first | rfl | omega | (simp only [Option.getD_some]; omega) | (simp only [Option.getD_none]; omega)) (by have h_ := h12; simp only [Bool.and_eq_true, decide_eq_true_eq] at h_; first | rfl | omega | (simp only [Option.getD_some]; omega) | (simp only [Option.getD_none]; omega)) (by have h_ := h12; simp only [Bool.and_eq_true, decide_eq_true_eq] at h_; first | rfl | omega | (simp only [Option.getD_some]; omega) | (simp only [Option.getD_none]; omega)) (by have h_ := h12; simp only [Bool.and_eq_true, decide_eq_true_eq] at h_; first | rfl | omega | (simp only [Option.getD_some]; omega) | (simp only [Option.getD_none]; omega)) rfl rfl rfl <| TL.done <| TC.n0 [0, 0]
  ·refine TL.catT (((t1.drop 0).take (r_2.toNat - 0)) ++ (gt ([([48] : Str), ([49] : Str), ([50] : Str), ([97] : Str), ([58] : Str), ([44] : Str), ([32] : Str), ([45] : Str), ([120] : Str), ([10] : Str)] : List Str) r_1)) ((t1.drop r_2.toNat).take (t1.length - r_2.toNat)) h13 rfl rfl rfl rfl ?_
   exact TL.done <| TC.n0 [0, 0]
  exact TL.as (strv ((((t1.drop 0).take (r_2.toNat - 0)) ++ (gt ([([48] : Str), ([49] : Str), ([50] : Str), ([97] : Str), ([58] : Str), ([44] : Str), ([32] : Str), ([45] : Str), ([120] : Str), ([10] : Str)] : List Str) r_1)) ++ ((t1.drop r_2.toNat).take (t1.length - r_2.toNat)))) <| TL.done <| TC.n0 [0, 0]
 exact TC.retF (Fin.body (fin1 (.inr rfl) rfl (.tmp rfl) [0] rfl ⟨rfl, rfl⟩))
def spec_l04Draw.f (s1 : List UInt8) (s3 : Int) (s4 : Int) : Option (Str × Int × Int) := (G.spec_l01Pick.f s1 s3 s4 ([0, 0, 1, 1, 2, 2, 3] : List Int)).bind (fun p => match p with | (r_1, s6, s7) => (G.spec_l01Next.f s1 s6 s7 6).bind (fun p => match p with | (r_2, s8, s9) => (G.spec_l04DrawFrom.f s1 s8 s9 r_1 r_2).bind (fun p => match p with | (r_3, s11, s12) => (G.spec_l04Joined.f r_3).bind (fun r_4 => (G.spec_l01Next.f s1 s11 s12 40).bind (fun p => match p with | (r_5, s13, s14) => (bif (r_5 == 0) then (G.spec_l01Damage.f s1 s13 s14 r_4).bind (fun p => match p with | (r_6, s15, s16) => some (r_6, s15, s16)) else (bif (r_5 == 1) then tall (r_4.length + ([47] : Str).length) (some ((r_4 ++ ([47] : Str)), s13, s14)) else some (r_4, s13, s14))))))))
def spec_l04Draw.R (b_1 : Nat) (s2 : SV) (r : Str × Int × Int) (v : Value) (L : List Asn) : Prop := v = strv r.1 ∧ L = [box b_1 71 [.one (SV.v s2), .one (.int .i64 r.2.1), .one (.int .u64 r.2.2)]]
theorem spec_l04Draw.calls (w0 : World) (I : Hp) (w : World) (b_1 : Nat) (s2 : SV) (s1 : List UInt8) (s3 : Int) (s4 : Int) (hS : St w0 I [box b_1 71 [.one (SV.v s2), .one (.int .i64 s3), .one (.int .u64 s4)]] w) (h1 : Reads Eu I s2 s1) :
  ∀ r, spec_l04Draw.f s1 s3 s4 = some r → Calls Tryz.prog 26 #[bp b_1 0] w (RetM w0 I ((spec_l04Draw.R b_1 s2) r)) := by
 refine calls_TM (w0 := w0) (I := I) (L := [box b_1 71 [.one (SV.v s2), .one (.int .i64 s3), .one (.int .u64 s4)]]) (n := 24) (Γ := [(0, bp b_1 0)]) (R := (spec_l04Draw.R b_1 s2)) Tryz.func26 rfl rfl (Nat.le_of_ble_eq_true rfl) ⟨rfl, trivial⟩ ?_ w hS
 unfold spec_l04Draw.f
 refine TC.seq <| TC.region <| TL.as (strv ([] : Str)) <| TL.done <| TC.seq <| TC.region ?_
 refine TL.mv (bp b_1 0) <| TL.mv (bp b_1 0) ?_
 refine TL.blit Ei ([0, 0, 1, 1, 2, 2, 3] : List Int) Tryz.underlying36 Tryz.sizeOf2 Tryz.zeroValue2 rfl rfl rfl [(0, .int .i64 0), (1, .int .i64 0), (2, .int .i64 1), (3, .int .i64 1), (4, .int .i64 2), (5, .int .i64 2), (6, .int .i64 3)] rfl ⟨rfl, rfl, rfl, rfl, rfl, rfl, rfl, rfl, rfl, rfl, rfl, rfl, rfl, rfl, trivial⟩ rfl rfl fun s5 => ?_
 refine TL.callX (R := G.spec_l01Pick.R b_1 s2) [1, 0] [box b_1 71 [.one (SV.v s2), .one (.int .i64 s3), .one (.int .u64 s4)]] [row Ei 2 s5 ([0, 0, 1, 1, 2, 2, 3] : List Int)] rfl Tryz.call52 rfl rfl rfl (fun w I_ hle hB hS => G.spec_l01Pick.calls _ I_ w b_1 s2 s1 s3 s4 s5 ([0, 0, 1, 1, 2, 2, 3] : List Int) hS (h1.mono hle) (hB.reads 0 rfl)) ?_
 rintro ⟨r_1, s6, s7⟩ _ _ ⟨rfl, rfl⟩
 refine TL.mv (bp b_1 0) ?_
 refine TL.callX (R := G.spec_l01Next.R b_1 s2) [0, 0] [box b_1 71 [.one (SV.v s2), .one (.int .i64 s6), .one (.int .u64 s7)]] [row Ei 2 s5 ([0, 0, 1, 1, 2, 2, 3] : List Int)] rfl Tryz.call53 rfl rfl rfl (fun w I_ hle hB hS => G.spec_l01Next.calls _ I_ w b_1 s2 s1 s6 s7 6 hS (h1.mono hle)) ?_
 rintro ⟨r_2, s8, s9⟩ _ _ ⟨rfl, rfl⟩
 refine TL.callX (R := G.spec_l04DrawFrom.R b_1 s2) [0, 0] [box b_1 71 [.one (SV.v s2), .one (.int .i64 s8), .one (.int .u64 s9)]] [row Ei 2 s5 ([0, 0, 1, 1, 2, 2, 3] : List Int)] rfl Tryz.call51 rfl rfl rfl (fun w I_ hle hB hS => G.spec_l04DrawFrom.calls _ I_ w b_1 s2 s1 s8 s9 r_1 r_2 hS (h1.mono hle)) ?_
 rintro ⟨r_3, s11, s12⟩ _ _ ⟨s10, rfl, rfl⟩
 refine TL.call (R := G.spec_l04Joined.R) Tryz.call43 rfl rfl rfl (fun w hS => G.spec_l04Joined.calls w s10 r_3 ((Rd.row 0 rfl) w hS)) ?_
 rintro r_4 _ _ ⟨rfl, rfl⟩
 refine TL.as (strv r_4) <| TL.done <| TC.seq <| TC.seq <| TC.region <| TL.mv (bp b_1 0) ?_
 refine TL.callX (R := G.spec_l01Next.R b_1 s2) [1, 0, 0] [box b_1 71 [.one (SV.v s2), .one (.int .i64 s11), .one (.int .u64 s12)]] [row Es 9 s10 r_3, row Ei 2 s5 ([0, 0, 1, 1, 2, 2, 3] : List Int)] rfl Tryz.call53 rfl rfl rfl (fun w I_ hle hB hS => G.spec_l01Next.calls _ I_ w b_1 s2 s1 s11 s12 40 hS (h1.mono hle)) ?_
 rintro ⟨r_5, s13, s14⟩ _ _ ⟨rfl, rfl⟩
 refine TL.done <| TC.block NoEx.body <| TC.seq <| TC.region <| TL.bn .i64 r_5 0 (.bool (r_5 == 0)) <| TL.as (.bool (r_5 == 0)) ?_
 refine TL.done ?_
 refine TC.cond (b := (r_5 == 0)) rfl (fun c1 => ?_) (fun c2 => ?_)
 ·refine TC.seq <| TC.region <| TL.mv (bp b_1 0) <| TL.mv (strv r_4) ?_
  refine TL.callX (R := G.spec_l01Damage.R b_1 s2) [0, 0, 0] [box b_1 71 [.one (SV.v s2), .one (.int .i64 s13), .one (.int .u64 s14)]] [row Es 9 s10 r_3, row Ei 2 s5 ([0, 0, 1, 1, 2, 2, 3] : List Int)] rfl Tryz.call54 rfl rfl rfl (fun w I_ hle hB hS => G.spec_l01Damage.calls _ I_ w b_1 s2 s1 s13 s14 r_4 hS (h1.mono hle)) ?_
  rintro ⟨r_6, s15, s16⟩ _ _ ⟨rfl, rfl⟩
  exact TL.as (strv r_6) <| TL.done <| TC.retF (Fin.body (fin1 (.inr rfl) rfl (.tmp rfl) [0] rfl ⟨rfl, rfl⟩))
 refine TC.seq <| TC.region <| TL.bn .i64 r_5 1 (.bool (r_5 == 1)) <| TL.as (.bool (r_5 == 1)) <| TL.done ?_
 refine TC.cond (b := (r_5 == 1)) rfl (fun c3 => ?_) (fun c4 => ?_)
 ·refine TC.seq <| TC.region <| TL.mv (strv r_4) ?_
  refine TL.tall fun h2 => ?_
  refine TL.catT r_4 ([47] : Str) h2 rfl rfl rfl rfl ?_
  exact TL.as (strv (r_4 ++ ([47] : Str))) <| TL.done <| TC.retF (Fin.body (fin1 (.inr rfl) rfl (.tmp rfl) [0] rfl ⟨rfl, rfl⟩))
 refine TC.skip <| TC.seq <| TC.region <| TL.mv (strv r_4) <| TL.as (strv r_4) <| TL.done ?_
 exact TC.retF (Fin.body (fin1 (.inr rfl) rfl (.tmp rfl) [0] rfl ⟨rfl, rfl⟩))
end Go.Proofs.YtpejnjpckacciaaGreatDoor.G
