/- Functions of the program, as pure functions. -/
import Derived.Test.YtiiljfpbcanphaaMFnSurfaces3
import Derived.Test.YtiiljfpbcanphaaProg
/- spec.l01Next, as a pure function. -/
set_option linter.unusedVariables false
namespace Go.Proofs.Ytiiljfpbcanphaa.G
open Go Go.Sx Go.Proofs

def spec_l01Next.f (s1 : List UInt8) (s3 : Int) (s4 : Int) (n_1 : Int) : Option (Int × Int × Int) := (bif (decide (n_1 < 1)) then some (0, s3, s4) else ((bif (decide (s3 < (s1.length : Int))) then chk s3 s1.length (some ((w64 (s3 + 1)), (w64 ((w64 (bits .and .u64 (Int.fdiv (IntKind.u64.wrap ((IntKind.u64.wrap (s4 * 6364136223846793005)) + 1442695040888963407)) 8589934592) 16777215)) + ((gt s1 s3).toNat : Int))))) else some (s3, (w64 (bits .and .u64 (Int.fdiv (IntKind.u64.wrap ((IntKind.u64.wrap (s4 * 6364136223846793005)) + 1442695040888963407)) 8589934592) 16777215))))).bind (fun p => match p with | (s5, x2) => nz n_1 (some ((Int.tmod x2 n_1), s5, (IntKind.u64.wrap ((IntKind.u64.wrap (s4 * 6364136223846793005)) + 1442695040888963407))))))

def spec_l01Next.R (b_1 : Nat) (s2 : SV) (r : Int × Int × Int) (v : Value) (L : List Asn) : Prop := v = .int .i64 r.1 ∧ L = [box b_1 143 [.one (SV.v s2), .one (.int .i64 r.2.1), .one (.int .u64 r.2.2)]]

set_option maxRecDepth 100000 in
set_option maxHeartbeats 4000000 in
theorem spec_l01Next.calls (w0 : World) (I : Hp) (w : World) (b_1 : Nat) (s2 : SV) (s1 : List UInt8) (s3 : Int) (s4 : Int) (n_1 : Int) (hS : St w0 I [box b_1 143 [.one (SV.v s2), .one (.int .i64 s3), .one (.int .u64 s4)]] w) (h1 : Reads Eu I s2 s1) :
  ∀ r, spec_l01Next.f s1 s3 s4 n_1 = some r → Calls Try.prog 129 #[bp b_1 0, .int .i64 n_1] w (RetM w0 I ((spec_l01Next.R b_1 s2) r)) := by

 refine calls_TM (w0 := w0) (I := I) (L := [box b_1 143 [.one (SV.v s2), .one (.int .i64 s3), .one (.int .u64 s4)]]) (n := 58) (Γ := [(0, bp b_1 0), (1, .int .i64 n_1)]) (R := (spec_l01Next.R b_1 s2)) Try.func129 rfl rfl (Nat.le_of_ble_eq_true rfl) ⟨rfl, rfl, trivial⟩ ?_ w hS
 unfold spec_l01Next.f
 refine TC.seq ?_
 refine TC.region ?_
 refine TL.assign rfl rfl (v := .int .i64 0) rfl ?_
 refine TL.done ?_
 refine TC.seq ?_
 refine TC.seq ?_
 refine TC.region ?_
 refine TL.move rfl rfl (v := .int .i64 n_1) rfl ?_
 refine TL.bin .i64 n_1 1 rfl rfl rfl rfl (v := .bool (decide (n_1 < 1))) rfl ?_
 refine TL.done ?_
 refine TC.cond (b := (decide (n_1 < 1))) rfl (fun c1 => ?_) (fun c2 => ?_)
 ·refine TC.seq ?_
  refine TC.region ?_
  refine TL.assign rfl rfl (v := .int .i64 0) rfl ?_
  refine TL.done ?_
  exact TC.retF (Fin.body (fin1 (.inr rfl) rfl (.tmp rfl) [0] rfl ⟨rfl, rfl⟩))
 ·refine TC.skip ?_
  refine TC.seq ?_
  refine TC.region ?_
  refine TL.move rfl rfl (v := bp b_1 0) rfl ?_
  refine TL.move rfl rfl (v := bp b_1 0) rfl ?_
  refine TL.nilCheck rfl rfl rfl ?_
  refine TL.fa Try.underlying143 rfl Try.sizeOf141 rfl 2 rfl rfl rfl rfl ?_
  refine TL.load1 2 (Src.box 0 rfl) Try.isAgg141 rfl rfl rfl rfl rfl ?_
  refine TL.bin .u64 s4 6364136223846793005 rfl rfl rfl rfl (v := .int .u64 (IntKind.u64.wrap (s4 * 6364136223846793005))) rfl ?_
  refine TL.bin .u64 (IntKind.u64.wrap (s4 * 6364136223846793005)) 1442695040888963407 rfl rfl rfl rfl (v := .int .u64 (IntKind.u64.wrap ((IntKind.u64.wrap (s4 * 6364136223846793005)) + 1442695040888963407))) rfl ?_
  refine TL.nilCheck rfl rfl rfl ?_
  refine TL.fa Try.underlying143 rfl Try.sizeOf141 rfl 2 rfl rfl rfl rfl ?_
  refine TL.st1 0 2 rfl Try.sizeOf141 rfl rfl rfl rfl rfl rfl rfl ?_
  refine TL.done ?_
  refine TC.seq ?_
  refine TC.region ?_
  refine TL.move rfl rfl (v := bp b_1 0) rfl ?_
  refine TL.nilCheck rfl rfl rfl ?_
  refine TL.fa Try.underlying143 rfl Try.sizeOf141 rfl 2 rfl rfl rfl rfl ?_
  refine TL.load1 2 (Src.box 0 rfl) Try.isAgg141 rfl rfl rfl rfl rfl ?_
  refine TL.shr .u64 .u64 (IntKind.u64.wrap ((IntKind.u64.wrap (s4 * 6364136223846793005)) + 1442695040888963407)) 33 8589934592 (by decide) (by decide) rfl rfl rfl rfl ?_
  refine TL.bin .u64 (Int.fdiv (IntKind.u64.wrap ((IntKind.u64.wrap (s4 * 6364136223846793005)) + 1442695040888963407)) 8589934592) 16777215 rfl rfl rfl rfl (v := .int .u64 (bits .and .u64 (Int.fdiv (IntKind.u64.wrap ((IntKind.u64.wrap (s4 * 6364136223846793005)) + 1442695040888963407)) 8589934592) 16777215)) rfl ?_
  refine TL.conv .u64 .i64 (bits .and .u64 (Int.fdiv (IntKind.u64.wrap ((IntKind.u64.wrap (s4 * 6364136223846793005)) + 1442695040888963407)) 8589934592) 16777215) _ rfl rfl rfl Try.underlying141 Try.underlying2 (v := .int .i64 (w64 (bits .and .u64 (Int.fdiv (IntKind.u64.wrap ((IntKind.u64.wrap (s4 * 6364136223846793005)) + 1442695040888963407)) 8589934592) 16777215))) rfl ?_
  refine TL.assign rfl rfl (v := .int .i64 (w64 (bits .and .u64 (Int.fdiv (IntKind.u64.wrap ((IntKind.u64.wrap (s4 * 6364136223846793005)) + 1442695040888963407)) 8589934592) 16777215))) rfl ?_
  refine TL.done ?_
  refine TC.seq ?_
  refine TC.seq ?_
  refine TC.wk (Γ' := [(0, bp b_1 0), (1, .int .i64 n_1), (4, .int .i64 0), (6, .int .i64 n_1), (7, .bool (decide (n_1 < 1))), (8, bp b_1 0), (9, bp b_1 0), (10, bp b_1 0), (11, bp b_1 2), (12, .int .u64 s4), (13, .int .u64 (IntKind.u64.wrap (s4 * 6364136223846793005))), (14, .int .u64 (IntKind.u64.wrap ((IntKind.u64.wrap (s4 * 6364136223846793005)) + 1442695040888963407))), (15, bp b_1 0), (16, bp b_1 2), (17, bp b_1 0), (18, bp b_1 0), (19, bp b_1 2), (20, .int .u64 (IntKind.u64.wrap ((IntKind.u64.wrap (s4 * 6364136223846793005)) + 1442695040888963407))), (21, .int .u64 (Int.fdiv (IntKind.u64.wrap ((IntKind.u64.wrap (s4 * 6364136223846793005)) + 1442695040888963407)) 8589934592)), (22, .int .u64 (bits .and .u64 (Int.fdiv (IntKind.u64.wrap ((IntKind.u64.wrap (s4 * 6364136223846793005)) + 1442695040888963407)) 8589934592) 16777215)), (23, .int .i64 (w64 (bits .and .u64 (Int.fdiv (IntKind.u64.wrap ((IntKind.u64.wrap (s4 * 6364136223846793005)) + 1442695040888963407)) 8589934592) 16777215))), (5, .int .i64 (w64 (bits .and .u64 (Int.fdiv (IntKind.u64.wrap ((IntKind.u64.wrap (s4 * 6364136223846793005)) + 1442695040888963407)) 8589934592) 16777215)))]) ⟨rfl, rfl, rfl, rfl, rfl, rfl, rfl, rfl, rfl, rfl, rfl, rfl, rfl, rfl, rfl, rfl, rfl, rfl, rfl, rfl, rfl, rfl, trivial⟩ ?_
  refine TC.draw [bp b_1 0, bp b_1 0, bp b_1 1, .int .i64 s3, bp b_1 0, bp b_1 0, bp b_1 0, SV.v s2, .int .i64 (s1.length : Int), .bool (decide (s3 < (s1.length : Int)))] 10 [box b_1 143 [.one (SV.v s2), .one (.int .i64 s3), .one (.int .u64 (IntKind.u64.wrap ((IntKind.u64.wrap (s4 * 6364136223846793005)) + 1442695040888963407)))]] (by kernel_rfl) rfl rfl rfl rfl ?_ ?_
  ·refine ⟨?_, ?_, ?_, ?_, ?_, ?_, ?_, ?_, ?_, ?_, trivial⟩
   ·refine TL.move rfl rfl (v := bp b_1 0) rfl ?_
    refine TL.done ?_
    exact TC.nrm () () ⟨rfl, trivial⟩ [0] (by kernel_rfl)
   ·refine TL.nilCheck rfl rfl rfl ?_
    refine TL.done ?_
    exact TC.nrm () () ⟨rfl, trivial⟩ [0] (by kernel_rfl)
   ·refine TL.fa Try.underlying143 rfl Try.sizeOf3 rfl 1 rfl rfl rfl rfl ?_
    refine TL.done ?_
    exact TC.nrm () () ⟨rfl, trivial⟩ [0] (by kernel_rfl)
   ·refine TL.load1 1 (Src.box 0 rfl) Try.isAgg3 rfl rfl rfl rfl rfl ?_
    refine TL.done ?_
    exact TC.nrm () () ⟨rfl, trivial⟩ [0] (by kernel_rfl)
   ·refine TL.move rfl rfl (v := bp b_1 0) rfl ?_
    refine TL.done ?_
    exact TC.nrm () () ⟨rfl, trivial⟩ [0] (by kernel_rfl)
   ·refine TL.nilCheck rfl rfl rfl ?_
    refine TL.done ?_
    exact TC.nrm () () ⟨rfl, trivial⟩ [0] (by kernel_rfl)
   ·refine TL.fa Try.underlying143 rfl Try.sizeOf57 rfl 0 rfl rfl rfl rfl ?_
    refine TL.done ?_
    exact TC.nrm () () ⟨rfl, trivial⟩ [0] (by kernel_rfl)
   ·refine TL.load1 0 (Src.box 0 rfl) Try.isAgg57 rfl rfl rfl rfl rfl ?_
    refine TL.done ?_
    exact TC.nrm () () ⟨rfl, trivial⟩ [0] (by kernel_rfl)
   ·refine TL.len (Rd.old h1) Try.underlying57 rfl rfl rfl ?_
    refine TL.done ?_
    exact TC.nrm () () ⟨rfl, trivial⟩ [0] (by kernel_rfl)
   ·refine TL.bin .i64 s3 (s1.length : Int) rfl rfl rfl rfl (v := .bool (decide (s3 < (s1.length : Int)))) rfl ?_
    refine TL.done ?_
    exact TC.nrm () () ⟨rfl, trivial⟩ [0] (by kernel_rfl)
  ·refine TC.join1 (σ := Int × Int) (γ := Unit) (Γ' := (fun p q => match p, q with | (s5, x2), _ => [(0, bp b_1 0), (1, .int .i64 n_1), (5, .int .i64 x2)])) (L' := (fun p q => match p, q with | (s5, x2), _ => [box b_1 143 [.one (SV.v s2), .one (.int .i64 s5), .one (.int .u64 (IntKind.u64.wrap ((IntKind.u64.wrap (s4 * 6364136223846793005)) + 1442695040888963407)))]])) ?_ ?_
   ·refine TC.cond (b := (decide (s3 < (s1.length : Int)))) rfl (fun c3 => ?_) (fun c4 => ?_)
    ·refine TC.seq ?_
     refine TC.wk (Γ' := [(0, bp b_1 0), (1, .int .i64 n_1), (4, .int .i64 0), (6, .int .i64 n_1), (7, .bool (decide (n_1 < 1))), (8, bp b_1 0), (9, bp b_1 0), (10, bp b_1 0), (11, bp b_1 2), (12, .int .u64 s4), (13, .int .u64 (IntKind.u64.wrap (s4 * 6364136223846793005))), (14, .int .u64 (IntKind.u64.wrap ((IntKind.u64.wrap (s4 * 6364136223846793005)) + 1442695040888963407))), (15, bp b_1 0), (16, bp b_1 2), (17, bp b_1 0), (18, bp b_1 0), (19, bp b_1 2), (20, .int .u64 (IntKind.u64.wrap ((IntKind.u64.wrap (s4 * 6364136223846793005)) + 1442695040888963407))), (21, .int .u64 (Int.fdiv (IntKind.u64.wrap ((IntKind.u64.wrap (s4 * 6364136223846793005)) + 1442695040888963407)) 8589934592)), (22, .int .u64 (bits .and .u64 (Int.fdiv (IntKind.u64.wrap ((IntKind.u64.wrap (s4 * 6364136223846793005)) + 1442695040888963407)) 8589934592) 16777215)), (23, .int .i64 (w64 (bits .and .u64 (Int.fdiv (IntKind.u64.wrap ((IntKind.u64.wrap (s4 * 6364136223846793005)) + 1442695040888963407)) 8589934592) 16777215))), (24, bp b_1 0), (25, bp b_1 0), (26, bp b_1 1), (27, .int .i64 s3), (28, bp b_1 0), (29, bp b_1 0), (30, bp b_1 0), (31, SV.v s2), (32, .int .i64 (s1.length : Int)), (33, .bool (decide (s3 < (s1.length : Int)))), (5, .int .i64 (w64 (bits .and .u64 (Int.fdiv (IntKind.u64.wrap ((IntKind.u64.wrap (s4 * 6364136223846793005)) + 1442695040888963407)) 8589934592) 16777215)))]) ⟨rfl, rfl, rfl, rfl, rfl, rfl, rfl, rfl, rfl, rfl, rfl, rfl, rfl, rfl, rfl, rfl, rfl, rfl, rfl, rfl, rfl, rfl, rfl, rfl, rfl, rfl, rfl, rfl, rfl, rfl, rfl, rfl, trivial⟩ ?_
     refine TC.chk fun h2 => ?_
     refine TC.drawG [(0, bp b_1 0), (1, .int .i64 n_1), (4, .int .i64 0), (6, .int .i64 n_1), (7, .bool (decide (n_1 < 1))), (8, bp b_1 0), (9, bp b_1 0), (10, bp b_1 0), (11, bp b_1 2), (12, .int .u64 s4), (13, .int .u64 (IntKind.u64.wrap (s4 * 6364136223846793005))), (14, .int .u64 (IntKind.u64.wrap ((IntKind.u64.wrap (s4 * 6364136223846793005)) + 1442695040888963407))), (15, bp b_1 0), (16, bp b_1 2), (17, bp b_1 0), (18, bp b_1 0), (19, bp b_1 2), (20, .int .u64 (IntKind.u64.wrap ((IntKind.u64.wrap (s4 * 6364136223846793005)) + 1442695040888963407))), (21, .int .u64 (Int.fdiv (IntKind.u64.wrap ((IntKind.u64.wrap (s4 * 6364136223846793005)) + 1442695040888963407)) 8589934592)), (22, .int .u64 (bits .and .u64 (Int.fdiv (IntKind.u64.wrap ((IntKind.u64.wrap (s4 * 6364136223846793005)) + 1442695040888963407)) 8589934592) 16777215)), (23, .int .i64 (w64 (bits .and .u64 (Int.fdiv (IntKind.u64.wrap ((IntKind.u64.wrap (s4 * 6364136223846793005)) + 1442695040888963407)) 8589934592) 16777215))), (24, bp b_1 0), (25, bp b_1 0), (26, bp b_1 1), (27, .int .i64 s3), (28, bp b_1 0), (29, bp b_1 0), (30, bp b_1 0), (31, SV.v s2), (32, .int .i64 (s1.length : Int)), (33, .bool (decide (s3 < (s1.length : Int))))] [(5, .int .i64 (w64 (bits .and .u64 (Int.fdiv (IntKind.u64.wrap ((IntKind.u64.wrap (s4 * 6364136223846793005)) + 1442695040888963407)) 8589934592) 16777215)), 13)] ⟨rfl, rfl, rfl, rfl, rfl, rfl, rfl, rfl, rfl, rfl, rfl, rfl, rfl, rfl, rfl, rfl, rfl, rfl, rfl, rfl, rfl, rfl, rfl, rfl, rfl, rfl, rfl, rfl, rfl, rfl, rfl, trivial⟩ ⟨rfl, trivial⟩ (fun l_ g1 => [box b_1 143 [.one (SV.v s2), .one (.int .i64 s3), .one (.int .u64 (IntKind.u64.wrap ((IntKind.u64.wrap (s4 * 6364136223846793005)) + 1442695040888963407)))]]) (fun g1 => [.int .i64 (w64 (bits .and .u64 (Int.fdiv (IntKind.u64.wrap ((IntKind.u64.wrap (s4 * 6364136223846793005)) + 1442695040888963407)) 8589934592) 16777215)), bp b_1 0, bp b_1 0, bp b_1 0, SV.v s2, bp b_1 0, bp b_1 0, bp b_1 1, .int .i64 s3, ep s2 s3.toNat, u8v (gt s1 s3), .int .i64 ((gt s1 s3).toNat : Int), .int .i64 (w64 ((w64 (bits .and .u64 (Int.fdiv (IntKind.u64.wrap ((IntKind.u64.wrap (s4 * 6364136223846793005)) + 1442695040888963407)) 8589934592) 16777215)) + ((gt s1 s3).toNat : Int))), .int .i64 (w64 ((w64 (bits .and .u64 (Int.fdiv (IntKind.u64.wrap ((IntKind.u64.wrap (s4 * 6364136223846793005)) + 1442695040888963407)) 8589934592) 16777215)) + ((gt s1 s3).toNat : Int)))]) [[], [], [1], [1, 2], [1, 2, 3], [], [5], [5, 6], [5, 6, 7], [1, 2, 3, 4, 5, 6, 7, 8], [1, 2, 3, 4, 5, 6, 7, 8, 9], [1, 2, 3, 4, 5, 6, 7, 8, 9, 10], [0, 1, 2, 3, 4, 5, 6, 7, 8, 9, 10, 11], [0, 1, 2, 3, 4, 5, 6, 7, 8, 9, 10, 11, 12]] [[some false, none, none, none, none, none, none, none, none, none, none, none, some false, some false], [none, some false, some false, some false, some false, none, none, none, none, some false, some false, some false, some false, some false], [none, some true, some false, some false, some false, none, none, none, none, some false, some false, some false, some false, some false], [none, some true, some true, some false, some false, none, none, none, none, some false, some false, some false, some false, some false], [none, some true, some true, some true, some false, none, none, none, none, some false, some false, some false, some false, some false], [none, none, none, none, none, some false, some false, some false, some false, some false, some false, some false, some false, some false], [none, none, none, none, none, some true, some false, some false, some false, some false, some false, some false, some false, some false], [none, none, none, none, none, some true, some true, some false, some false, some false, some false, some false, some false, some false], [none, none, none, none, none, some true, some true, some true, some false, some false, some false, some false, some false, some false], [none, some true, some true, some true, some true, some true, some true, some true, some true, some false, some false, some false, some false, some false], [none, some true, some true, some true, some true, some true, some true, some true, some true, some true, some false, some false, some false, some false], [none, some true, some true, some true, some true, some true, some true, some true, some true, some true, some true, some false, some false, some false], [some true, some true, some true, some true, some true, some true, some true, some true, some true, some true, some true, some true, some false, some false], [some true, some true, some true, some true, some true, some true, some true, some true, some true, some true, some true, some true, some true, some false]] (by kernel_rfl) (fun _ => rfl) rfl rfl rfl rfl rfl (fun _ _ => ⟨⟨⟨⟨⟨⟨⟨⟨⟨⟨⟨⟨⟨⟨trivial, rfl⟩, rfl⟩, rfl⟩, rfl⟩, rfl⟩, rfl⟩, rfl⟩, rfl⟩, rfl⟩, rfl⟩, rfl⟩, rfl⟩, rfl⟩, rfl⟩) 0 [0] (fun _ => by kernel_rfl) ?_ ?_
     ·refine ⟨rfl, ?_, rfl, ?_, rfl, ?_, rfl, ?_, rfl, ?_, rfl, ?_, rfl, ?_, rfl, ?_, rfl, ?_, rfl, ?_, rfl, ?_, rfl, ?_, rfl, ?_, rfl, ?_, trivial⟩
      ·intro b1_ b2_ b3_ b4_ b5_ b6_ b7_ b8_ b9_ b10_ b11_ g1
       refine TL.move rfl rfl (v := .int .i64 (w64 (bits .and .u64 (Int.fdiv (IntKind.u64.wrap ((IntKind.u64.wrap (s4 * 6364136223846793005)) + 1442695040888963407)) 8589934592) 16777215))) rfl ?_
       refine TL.done ?_
       exact TC.nrm () [] ⟨rfl, trivial⟩ [0] (by kernel_rfl)
      ·intro b0_ b5_ b6_ b7_ b8_ g1
       refine TL.move rfl rfl (v := bp b_1 0) rfl ?_
       refine TL.done ?_
       exact TC.nrm () [] ⟨rfl, trivial⟩ [0] (by kernel_rfl)
      ·intro b0_ b5_ b6_ b7_ b8_ g1
       refine TL.nilCheck rfl rfl rfl ?_
       refine TL.done ?_
       exact TC.nrm () [] ⟨rfl, trivial⟩ [0] (by kernel_rfl)
      ·intro b0_ b5_ b6_ b7_ b8_ g1
       refine TL.asL [box b_1 143 [.one (SV.v s2), .one (.int .i64 s3), .one (.int .u64 (IntKind.u64.wrap ((IntKind.u64.wrap (s4 * 6364136223846793005)) + 1442695040888963407)))]] (by kernel_rfl) ?_
       refine TL.fa Try.underlying143 rfl Try.sizeOf57 rfl 0 rfl rfl rfl rfl ?_
       refine TL.done ?_
       exact TC.nrm () [] ⟨rfl, trivial⟩ [0] (by kernel_rfl)
      ·intro b0_ b5_ b6_ b7_ b8_ g1
       refine TL.asL [box b_1 143 [.one (SV.v s2), .one (.int .i64 s3), .one (.int .u64 (IntKind.u64.wrap ((IntKind.u64.wrap (s4 * 6364136223846793005)) + 1442695040888963407)))]] (by kernel_rfl) ?_
       refine TL.load1 0 (Src.box 0 rfl) Try.isAgg57 rfl rfl rfl rfl rfl ?_
       refine TL.done ?_
       exact TC.nrm () [] ⟨rfl, trivial⟩ [0] (by kernel_rfl)
      ·intro b0_ b1_ b2_ b3_ b4_ g1
       refine TL.move rfl rfl (v := bp b_1 0) rfl ?_
       refine TL.done ?_
       exact TC.nrm () [] ⟨rfl, trivial⟩ [0] (by kernel_rfl)
      ·intro b0_ b1_ b2_ b3_ b4_ g1
       refine TL.nilCheck rfl rfl rfl ?_
       refine TL.done ?_
       exact TC.nrm () [] ⟨rfl, trivial⟩ [0] (by kernel_rfl)
      ·intro b0_ b1_ b2_ b3_ b4_ g1
       refine TL.asL [box b_1 143 [.one (SV.v s2), .one (.int .i64 s3), .one (.int .u64 (IntKind.u64.wrap ((IntKind.u64.wrap (s4 * 6364136223846793005)) + 1442695040888963407)))]] (by kernel_rfl) ?_
       refine TL.fa Try.underlying143 rfl Try.sizeOf3 rfl 1 rfl rfl rfl rfl ?_
       refine TL.done ?_
       exact TC.nrm () [] ⟨rfl, trivial⟩ [0] (by kernel_rfl)
      ·intro b0_ b1_ b2_ b3_ b4_ g1
       refine TL.asL [box b_1 143 [.one (SV.v s2), .one (.int .i64 s3), .one (.int .u64 (IntKind.u64.wrap ((IntKind.u64.wrap (s4 * 6364136223846793005)) + 1442695040888963407)))]] (by kernel_rfl) ?_
       refine TL.load1 1 (Src.box 0 rfl) Try.isAgg3 rfl rfl rfl rfl rfl ?_
       refine TL.done ?_
       exact TC.nrm () [] ⟨rfl, trivial⟩ [0] (by kernel_rfl)
      ·intro b0_ g1
       refine TL.asL [box b_1 143 [.one (SV.v s2), .one (.int .i64 s3), .one (.int .u64 (IntKind.u64.wrap ((IntKind.u64.wrap (s4 * 6364136223846793005)) + 1442695040888963407)))]] (by kernel_rfl) ?_
       refine TL.ixs s3 s3.toNat (Rd.old h1) h2 Try.underlying57 Try.sizeOf5 rfl rfl rfl rfl (by omega) ?_
       refine TL.done ?_
       exact TC.nrm () [] ⟨rfl, trivial⟩ [0] (by kernel_rfl)
      ·intro b0_ g1
       refine TL.asL [box b_1 143 [.one (SV.v s2), .one (.int .i64 s3), .one (.int .u64 (IntKind.u64.wrap ((IntKind.u64.wrap (s4 * 6364136223846793005)) + 1442695040888963407)))]] (by kernel_rfl) ?_
       refine TL.loadE (Rd.old h1) Try.isAgg5 s3.toNat 0 (gt_spec h2) (v := u8v (gt s1 s3)) rfl (by simp only [show Eu.sz = 1 from rfl] <;> omega) rfl rfl rfl ?_
       refine TL.done ?_
       exact TC.nrm () [] ⟨rfl, trivial⟩ [0] (by kernel_rfl)
      ·intro b0_ g1
       refine TL.conv .u8 .i64 ((gt s1 s3).toNat : Int) _ rfl rfl rfl Try.underlying5 Try.underlying2 (v := .int .i64 ((gt s1 s3).toNat : Int)) (conv_u8_i64 _) ?_
       refine TL.done ?_
       exact TC.nrm () [] ⟨rfl, trivial⟩ [0] (by kernel_rfl)
      ·intro g1
       refine TL.bin .i64 (w64 (bits .and .u64 (Int.fdiv (IntKind.u64.wrap ((IntKind.u64.wrap (s4 * 6364136223846793005)) + 1442695040888963407)) 8589934592) 16777215)) ((gt s1 s3).toNat : Int) rfl rfl rfl rfl (v := .int .i64 (w64 ((w64 (bits .and .u64 (Int.fdiv (IntKind.u64.wrap ((IntKind.u64.wrap (s4 * 6364136223846793005)) + 1442695040888963407)) 8589934592) 16777215)) + ((gt s1 s3).toNat : Int)))) rfl ?_
       refine TL.done ?_
       exact TC.nrm () [] ⟨rfl, trivial⟩ [0] (by kernel_rfl)
      ·intro g1
       refine TL.assign rfl rfl (v := .int .i64 (w64 ((w64 (bits .and .u64 (Int.fdiv (IntKind.u64.wrap ((IntKind.u64.wrap (s4 * 6364136223846793005)) + 1442695040888963407)) 8589934592) 16777215)) + ((gt s1 s3).toNat : Int)))) rfl ?_
       refine TL.done ?_
       exact TC.nrm () [] ⟨rfl, trivial⟩ [0] (by kernel_rfl)
     ·intro g1
      refine TC.asL [box b_1 143 [.one (SV.v s2), .one (.int .i64 s3), .one (.int .u64 (IntKind.u64.wrap ((IntKind.u64.wrap (s4 * 6364136223846793005)) + 1442695040888963407)))]] (by kernel_rfl) ?_
      refine TC.region ?_
      refine TL.move rfl rfl (v := bp b_1 0) rfl ?_
      refine TL.move rfl rfl (v := bp b_1 0) rfl ?_
      refine TL.nilCheck rfl rfl rfl ?_
      refine TL.fa Try.underlying143 rfl Try.sizeOf3 rfl 1 rfl rfl rfl rfl ?_
      refine TL.load1 1 (Src.box 0 rfl) Try.isAgg3 rfl rfl rfl rfl rfl ?_
      refine TL.bin .i64 s3 1 rfl rfl rfl rfl (v := .int .i64 (w64 (s3 + 1))) rfl ?_
      refine TL.nilCheck rfl rfl rfl ?_
      refine TL.fa Try.underlying143 rfl Try.sizeOf3 rfl 1 rfl rfl rfl rfl ?_
      refine TL.st1 0 1 rfl Try.sizeOf3 rfl rfl rfl rfl rfl rfl rfl ?_
      refine TL.done ?_
      exact TC.nrm (((w64 (s3 + 1)), (w64 ((w64 (bits .and .u64 (Int.fdiv (IntKind.u64.wrap ((IntKind.u64.wrap (s4 * 6364136223846793005)) + 1442695040888963407)) 8589934592) 16777215)) + ((gt s1 s3).toNat : Int))))) (()) ⟨rfl, rfl, rfl, trivial⟩ [0] rfl
    ·refine TC.skip ?_
     exact TC.nrm ((s3, (w64 (bits .and .u64 (Int.fdiv (IntKind.u64.wrap ((IntKind.u64.wrap (s4 * 6364136223846793005)) + 1442695040888963407)) 8589934592) 16777215)))) (()) ⟨rfl, rfl, rfl, trivial⟩ [0] rfl
   ·rintro ⟨s5, x2⟩ _
    refine TC.seq ?_
    refine TC.region ?_
    refine TL.move rfl rfl (v := .int .i64 x2) rfl ?_
    refine TL.move rfl rfl (v := .int .i64 n_1) rfl ?_
    refine TL.nz fun z1 => ?_
    refine TL.rem .i64 x2 n_1 z1 rfl rfl rfl rfl ?_
    refine TL.assign rfl rfl (v := .int .i64 (Int.tmod x2 n_1)) rfl ?_
    refine TL.done ?_
    exact TC.retF (Fin.body (fin1 (.inr rfl) rfl (.tmp rfl) [0] rfl ⟨rfl, rfl⟩))

end Go.Proofs.Ytiiljfpbcanphaa.G

/- spec.l07Find, as a pure function. -/
set_option linter.unusedVariables false
namespace Go.Proofs.Ytiiljfpbcanphaa.G
open Go Go.Sx Go.Proofs

def spec_l07Find.b0 (i1 : Int) (s1 : List (List Int)) (side1 : Int) : Int → Option (LR Int (LR Int (Int × Int))) := fun k_1 => (bif (decide (k_1 < 3)) then chk i1 s1.length (chk k_1 ((gt s1 i1).length) ((bif ((gt (gt s1 i1) k_1) == side1) then some (.ret (.ret ((i1, k_1)))) else some (.next (w64 (k_1 + 1)))))) else some (.brk k_1))

def spec_l07Find.b1 (s1 : List (List Int)) (side1 : Int) : Int → Option (LR Int (Int × Int)) := fun i1 => (bif (decide (i1 < (s1.length : Int))) then (loop (spec_l07Find.b0 i1 s1 side1) 0).bind (ln (fun k_1 => some (.next (w64 (i1 + 1))))) else some (.brk i1))

def spec_l07Find.f (s1 : List (List Int)) (side1 : Int) : Option (Int × Int) := (loop (spec_l07Find.b1 s1 side1) 0).bind (ln (fun i1 => some ((-1), (-1))))

def spec_l07Find.R (r : Int × Int) (v : Value) (L : List Asn) : Prop := v = .tuple #[.int .i64 r.1, .int .i64 r.2] ∧ L = []

set_option maxRecDepth 100000 in
set_option maxHeartbeats 4000000 in
theorem spec_l07Find.calls (w : World) (s2 : SV) (ss1 : List SV) (s1 : List (List Int)) (side1 : Int) (h1 : ReadsM Ei (hp w) s2 ss1 s1) :
  ∀ r, spec_l07Find.f s1 side1 = some r → Calls Try.prog 168 #[SV.v s2, .int .i64 side1] w (Ret w (spec_l07Find.R r)) := by

 refine calls_T (n := 29) (Γ := [(0, SV.v s2), (1, .int .i64 side1)]) (R := spec_l07Find.R) Try.func168 rfl rfl (Nat.le_of_ble_eq_true rfl) ⟨rfl, rfl, trivial⟩ ?_
 unfold spec_l07Find.f
 refine TC.seq ?_
 refine TC.region ?_
 refine TL.assign rfl rfl (v := .int .i64 0) rfl ?_
 refine TL.assign rfl rfl (v := .int .i64 0) rfl ?_
 refine TL.done ?_
 refine TC.seq ?_
 refine TC.seq ?_
 refine TC.region ?_
 refine TL.assign rfl rfl (v := .int .i64 0) rfl ?_
 refine TL.done ?_
 refine TC.loopK (σ := Int) (γ := Unit) (Γ' := (fun i1 _ => [(0, SV.v s2), (1, .int .i64 side1), (6, .int .i64 i1)])) (L' := (fun i1 _ => [])) (Γb := (fun i1 _ => [(0, SV.v s2), (1, .int .i64 side1), (6, .int .i64 i1)])) (Lb := (fun i1 _ => [])) (0) (()) ⟨rfl, rfl, rfl, trivial⟩ [] rfl ?_ ?_
 ·rintro i1 _
  refine TC.seq ?_
  refine TC.seq ?_
  refine TC.region ?_
  refine TL.move rfl rfl (v := .int .i64 i1) rfl ?_
  refine TL.move rfl rfl (v := SV.v s2) rfl ?_
  refine TL.lenM (RdM.old h1) Try.underlying32 rfl rfl rfl ?_
  refine TL.bin .i64 i1 (s1.length : Int) rfl rfl rfl rfl (v := .bool (decide (i1 < (s1.length : Int)))) rfl ?_
  refine TL.done ?_
  refine TC.cond (b := (decide (i1 < (s1.length : Int)))) rfl (fun c1 => ?_) (fun c2 => ?_)
  ·refine TC.skip ?_
   refine TC.seq ?_
   refine TC.block (NoEx.loop rfl NoEx.body) ?_
   refine TC.seq ?_
   refine TC.region ?_
   refine TL.assign rfl rfl (v := .int .i64 0) rfl ?_
   refine TL.done ?_
   refine TC.loopK (σ := Int) (γ := Unit) (Γ' := (fun k_1 _ => [(0, SV.v s2), (1, .int .i64 side1), (6, .int .i64 i1), (7, .int .i64 k_1)])) (L' := (fun k_1 _ => [])) (Γb := (fun k_1 _ => [(0, SV.v s2), (1, .int .i64 side1), (6, .int .i64 i1), (7, .int .i64 k_1)])) (Lb := (fun k_1 _ => [])) (0) (()) ⟨rfl, rfl, rfl, rfl, trivial⟩ [] rfl ?_ ?_
   ·rintro k_1 _
    refine TC.seq ?_
    refine TC.seq ?_
    refine TC.region ?_
    refine TL.move rfl rfl (v := .int .i64 k_1) rfl ?_
    refine TL.bin .i64 k_1 3 rfl rfl rfl rfl (v := .bool (decide (k_1 < 3))) rfl ?_
    refine TL.done ?_
    refine TC.cond (b := (decide (k_1 < 3))) rfl (fun c3 => ?_) (fun c4 => ?_)
    ·refine TC.skip ?_
     refine TC.seq ?_
     refine TC.block (NoEx.loop rfl (NoEx.loop rfl NoEx.body)) ?_
     refine TC.seq ?_
     refine TC.region ?_
     refine TL.move rfl rfl (v := SV.v s2) rfl ?_
     refine TL.move rfl rfl (v := .int .i64 i1) rfl ?_
     refine TL.chk fun h2 => ?_
     refine TL.ixsM i1 i1.toNat (RdM.old h1) h2 Try.underlying32 Try.sizeOf22 rfl rfl rfl rfl (by omega) ?_
     refine TL.loadM2 (RdM.old h1) Try.isAgg22 i1 h2 (by omega) rfl rfl rfl ?_
     refine TL.move rfl rfl (v := .int .i64 k_1) rfl ?_
     refine TL.chk fun h3 => ?_
     refine TL.ixs k_1 k_1.toNat (RdM.inn (RdM.old h1) h2) h3 Try.underlying22 Try.sizeOf2 rfl rfl rfl rfl (by omega) ?_
     refine TL.loadE (RdM.inn (RdM.old h1) h2) Try.isAgg2 k_1.toNat 0 (gt_spec h3) (v := .int .i64 (gt (gt s1 i1) k_1)) rfl (by simp only [show Ei.sz = 1 from rfl] <;> omega) rfl rfl rfl ?_
     refine TL.move rfl rfl (v := .int .i64 side1) rfl ?_
     refine TL.bin .i64 (gt (gt s1 i1) k_1) side1 rfl rfl rfl rfl (v := .bool ((gt (gt s1 i1) k_1) == side1)) rfl ?_
     refine TL.done ?_
     refine TC.cond (b := ((gt (gt s1 i1) k_1) == side1)) rfl (fun c5 => ?_) (fun c6 => ?_)
     ·refine TC.seq ?_
      refine TC.region ?_
      refine TL.move rfl rfl (v := .int .i64 i1) rfl ?_
      refine TL.move rfl rfl (v := .int .i64 k_1) rfl ?_
      refine TL.assign rfl rfl (v := .int .i64 i1) rfl ?_
      refine TL.assign rfl rfl (v := .int .i64 k_1) rfl ?_
      refine TL.done ?_
      exact TC.retF (Fin.loop Far.ret (Fin.loop Far.ret (Fin.body (fin2 (.inr rfl) rfl (.tmp rfl) (.tmp rfl) [] rfl ⟨rfl, rfl⟩))))
     ·refine TC.skip ?_
      refine TC.region ?_
      refine TL.move rfl rfl (v := .int .i64 k_1) rfl ?_
      refine TL.bin .i64 k_1 1 rfl rfl rfl rfl (v := .int .i64 (w64 (k_1 + 1))) rfl ?_
      refine TL.assign rfl rfl (v := .int .i64 (w64 (k_1 + 1))) rfl ?_
      refine TL.done ?_
      exact TC.next ((w64 (k_1 + 1))) (()) ⟨rfl, rfl, rfl, rfl, trivial⟩ [] rfl
    ·exact TC.brk (k_1) (()) ⟨rfl, rfl, rfl, rfl, trivial⟩ [] rfl
   ·rintro k_1 _
    refine TC.region ?_
    refine TL.move rfl rfl (v := .int .i64 i1) rfl ?_
    refine TL.bin .i64 i1 1 rfl rfl rfl rfl (v := .int .i64 (w64 (i1 + 1))) rfl ?_
    refine TL.assign rfl rfl (v := .int .i64 (w64 (i1 + 1))) rfl ?_
    refine TL.done ?_
    exact TC.next ((w64 (i1 + 1))) (()) ⟨rfl, rfl, rfl, trivial⟩ [] rfl
  ·exact TC.brk (i1) (()) ⟨rfl, rfl, rfl, trivial⟩ [] rfl
 ·rintro i1 _
  refine TC.seq ?_
  refine TC.region ?_
  refine TL.assign rfl rfl (v := .int .i64 (-1)) rfl ?_
  refine TL.assign rfl rfl (v := .int .i64 (-1)) rfl ?_
  refine TL.done ?_
  exact TC.retF (Fin.body (fin2 (.inr rfl) rfl (.tmp rfl) (.tmp rfl) [] rfl ⟨rfl, rfl⟩))

end Go.Proofs.Ytiiljfpbcanphaa.G

/- spec.l07Flip, as a pure function. -/
set_option linter.unusedVariables false
namespace Go.Proofs.Ytiiljfpbcanphaa.G
open Go Go.Sx Go.Proofs

def spec_l07Flip.f (x1 : List (List Int)) (x2 : Int) : Option ((List (List Int)) × Bool) := (G.spec_l07Find.f x1 x2).bind (fun p => match p with | (r_1, r_2) => (G.spec_l07Find.f x1 (w64 (0 - x2))).bind (fun p => match p with | (r_3, r_4) => (bif (r_1 == r_3) then some (([] : List (List Int)), false) else (G.spec_l07Copy.f x1).bind (fun r_5 => chk r_1 x1.length (chk (Int.tmod (w64 (r_2 + 1)) 3) ((gt x1 r_1).length) (chk (Int.tmod (w64 (r_2 + 2)) 3) ((gt x1 r_1).length) (chk r_3 x1.length (chk (Int.tmod (w64 (r_4 + 1)) 3) ((gt x1 r_3).length) (chk (Int.tmod (w64 (r_4 + 2)) 3) ((gt x1 r_3).length) (chk r_1 r_5.length (chk r_3 ((r_5.set r_1.toNat ([x2, (gt (gt x1 r_1) (Int.tmod (w64 (r_2 + 2)) 3)), (gt (gt x1 r_3) (Int.tmod (w64 (r_4 + 1)) 3))] : List Int)).length) (some (((r_5.set r_1.toNat ([x2, (gt (gt x1 r_1) (Int.tmod (w64 (r_2 + 2)) 3)), (gt (gt x1 r_3) (Int.tmod (w64 (r_4 + 1)) 3))] : List Int)).set r_3.toNat ([(w64 (0 - x2)), (gt (gt x1 r_3) (Int.tmod (w64 (r_4 + 2)) 3)), (gt (gt x1 r_1) (Int.tmod (w64 (r_2 + 1)) 3))] : List Int)), true)))))))))))))

def spec_l07Flip.R (r : (List (List Int)) × Bool) (v : Value) (L : List Asn) : Prop := ∃ (s0 : SV) (ss0 : List SV), v = .tuple #[SV.v s0, .bool r.2] ∧ L = [mat Ei 2 22 s0 ss0 r.1]

set_option maxRecDepth 100000 in
set_option maxHeartbeats 4000000 in
theorem spec_l07Flip.calls (w : World) (s1 : SV) (ss1 : List SV) (x1 : List (List Int)) (x2 : Int) (h1 : ReadsM Ei (hp w) s1 ss1 x1) :
  ∀ r, spec_l07Flip.f x1 x2 = some r → Calls Try.prog 122 #[SV.v s1, .int .i64 x2] w (Ret w (spec_l07Flip.R r)) := by

 refine calls_T (n := 85) (Γ := [(0, SV.v s1), (1, .int .i64 x2)]) (R := spec_l07Flip.R) Try.func122 rfl rfl (Nat.le_of_ble_eq_true rfl) ⟨rfl, rfl, trivial⟩ ?_
 unfold spec_l07Flip.f
 refine TC.seq ?_
 refine TC.region ?_
 refine TL.assign rfl rfl (v := SV.v ⟨none, 0, 0⟩) rfl ?_
 refine TL.assign rfl rfl (v := .bool false) rfl ?_
 refine TL.done ?_
 refine TC.seq ?_
 refine TC.region ?_
 refine TL.move rfl rfl (v := SV.v s1) rfl ?_
 refine TL.move rfl rfl (v := .int .i64 x2) rfl ?_
 refine TL.call (R := G.spec_l07Find.R) Try.call168 rfl rfl rfl (fun w hS => G.spec_l07Find.calls w s1 ss1 x1 x2 ((RdM.old h1) w hS)) ?_
 rintro ⟨r_1, r_2⟩ _ _ ⟨rfl, rfl⟩
 refine TL.move rfl rfl (v := .tuple #[.int .i64 r_1, .int .i64 r_2]) rfl ?_
 refine TL.extract rfl rfl rfl (v := .int .i64 r_1) rfl ?_
 refine TL.extract rfl rfl rfl (v := .int .i64 r_2) rfl ?_
 refine TL.assign rfl rfl (v := .int .i64 r_1) rfl ?_
 refine TL.assign rfl rfl (v := .int .i64 r_2) rfl ?_
 refine TL.done ?_
 refine TC.seq ?_
 refine TC.region ?_
 refine TL.move rfl rfl (v := SV.v s1) rfl ?_
 refine TL.move rfl rfl (v := .int .i64 x2) rfl ?_
 refine TL.neg .i64 x2 rfl rfl rfl ?_
 refine TL.call (R := G.spec_l07Find.R) Try.call168 rfl rfl rfl (fun w hS => G.spec_l07Find.calls w s1 ss1 x1 (w64 (0 - x2)) ((RdM.old h1) w hS)) ?_
 rintro ⟨r_3, r_4⟩ _ _ ⟨rfl, rfl⟩
 refine TL.move rfl rfl (v := .tuple #[.int .i64 r_3, .int .i64 r_4]) rfl ?_
 refine TL.extract rfl rfl rfl (v := .int .i64 r_3) rfl ?_
 refine TL.extract rfl rfl rfl (v := .int .i64 r_4) rfl ?_
 refine TL.assign rfl rfl (v := .int .i64 r_3) rfl ?_
 refine TL.assign rfl rfl (v := .int .i64 r_4) rfl ?_
 refine TL.done ?_
 refine TC.seq ?_
 refine TC.seq ?_
 refine TC.region ?_
 refine TL.move rfl rfl (v := .int .i64 r_1) rfl ?_
 refine TL.move rfl rfl (v := .int .i64 r_3) rfl ?_
 refine TL.bin .i64 r_1 r_3 rfl rfl rfl rfl (v := .bool (r_1 == r_3)) rfl ?_
 refine TL.done ?_
 refine TC.cond (b := (r_1 == r_3)) rfl (fun c1 => ?_) (fun c2 => ?_)
 ·refine TC.seq ?_
  refine TC.region ?_
  refine TL.assign rfl rfl (v := SV.v ⟨none, 0, 0⟩) rfl ?_
  refine TL.assign rfl rfl (v := .bool false) rfl ?_
  refine TL.done ?_
  refine TC.nilmat Ei 2 22 ?_
  exact TC.retF (Fin.body (fin2 (.inr rfl) rfl (.tmp rfl) (.tmp rfl) [0] rfl ⟨⟨none, 0, 0⟩, [], rfl, rfl⟩))
 ·refine TC.skip ?_
  refine TC.seq ?_
  refine TC.region ?_
  refine TL.move rfl rfl (v := SV.v s1) rfl ?_
  refine TL.call (R := G.spec_l07Copy.R) Try.call147 rfl rfl rfl (fun w hS => G.spec_l07Copy.calls w s1 ss1 x1 ((RdM.old h1) w hS)) ?_
  rintro r_5 _ _ ⟨s2, ss2, rfl, rfl⟩
  refine TL.assign rfl rfl (v := SV.v s2) rfl ?_
  refine TL.done ?_
  refine TC.seq ?_
  refine TC.wk (Γ' := [(0, SV.v s1), (1, .int .i64 x2), (4, SV.v ⟨none, 0, 0⟩), (5, .bool false), (16, SV.v s1), (17, .int .i64 x2), (18, .tuple #[.int .i64 r_1, .int .i64 r_2]), (15, .tuple #[.int .i64 r_1, .int .i64 r_2]), (19, .int .i64 r_1), (20, .int .i64 r_2), (6, .int .i64 r_1), (7, .int .i64 r_2), (22, SV.v s1), (23, .int .i64 x2), (24, .int .i64 (w64 (0 - x2))), (25, .tuple #[.int .i64 r_3, .int .i64 r_4]), (21, .tuple #[.int .i64 r_3, .int .i64 r_4]), (26, .int .i64 r_3), (27, .int .i64 r_4), (8, .int .i64 r_3), (9, .int .i64 r_4), (28, .int .i64 r_1), (29, .int .i64 r_3), (30, .bool (r_1 == r_3)), (31, SV.v s1), (32, SV.v s2), (10, SV.v s2)]) ⟨rfl, rfl, rfl, rfl, rfl, rfl, rfl, rfl, rfl, rfl, rfl, rfl, rfl, rfl, rfl, rfl, rfl, rfl, rfl, rfl, rfl, rfl, rfl, rfl, rfl, rfl, rfl, trivial⟩ ?_
  refine TC.chk fun h2 => ?_
  refine TC.chk fun h3 => ?_
  refine TC.chk fun h4 => ?_
  refine TC.chk fun h5 => ?_
  refine TC.chk fun h6 => ?_
  refine TC.chk fun h7 => ?_
  refine TC.draw [SV.v s1, .int .i64 r_1, ep s1 r_1.toNat, SV.v (gt ss1 r_1), .int .i64 r_2, .int .i64 (w64 (r_2 + 1)), .int .i64 (Int.tmod (w64 (r_2 + 1)) 3), ep (gt ss1 r_1) ((Int.tmod (w64 (r_2 + 1)) 3).toNat), .int .i64 (gt (gt x1 r_1) (Int.tmod (w64 (r_2 + 1)) 3)), SV.v s1, .int .i64 r_1, ep s1 r_1.toNat, SV.v (gt ss1 r_1), .int .i64 r_2, .int .i64 (w64 (r_2 + 2)), .int .i64 (Int.tmod (w64 (r_2 + 2)) 3), ep (gt ss1 r_1) ((Int.tmod (w64 (r_2 + 2)) 3).toNat), .int .i64 (gt (gt x1 r_1) (Int.tmod (w64 (r_2 + 2)) 3)), SV.v s1, .int .i64 r_3, ep s1 r_3.toNat, SV.v (gt ss1 r_3), .int .i64 r_4, .int .i64 (w64 (r_4 + 1)), .int .i64 (Int.tmod (w64 (r_4 + 1)) 3), ep (gt ss1 r_3) ((Int.tmod (w64 (r_4 + 1)) 3).toNat), .int .i64 (gt (gt x1 r_3) (Int.tmod (w64 (r_4 + 1)) 3)), SV.v s1, .int .i64 r_3, ep s1 r_3.toNat, SV.v (gt ss1 r_3), .int .i64 r_4, .int .i64 (w64 (r_4 + 2)), .int .i64 (Int.tmod (w64 (r_4 + 2)) 3), ep (gt ss1 r_3) ((Int.tmod (w64 (r_4 + 2)) 3).toNat), .int .i64 (gt (gt x1 r_3) (Int.tmod (w64 (r_4 + 2)) 3)), .int .i64 (gt (gt x1 r_1) (Int.tmod (w64 (r_2 + 1)) 3)), .int .i64 (gt (gt x1 r_1) (Int.tmod (w64 (r_2 + 2)) 3)), .int .i64 (gt (gt x1 r_3) (Int.tmod (w64 (r_4 + 1)) 3)), .int .i64 (gt (gt x1 r_3) (Int.tmod (w64 (r_4 + 2)) 3))] 40 [mat Ei 2 22 s2 ss2 r_5] (by kernel_rfl) rfl rfl rfl rfl ?_ ?_
  ·refine ⟨?_, ?_, ?_, ?_, ?_, ?_, ?_, ?_, ?_, ?_, ?_, ?_, ?_, ?_, ?_, ?_, ?_, ?_, ?_, ?_, ?_, ?_, ?_, ?_, ?_, ?_, ?_, ?_, ?_, ?_, ?_, ?_, ?_, ?_, ?_, ?_, ?_, ?_, ?_, ?_, trivial⟩
   ·refine TL.move rfl rfl (v := SV.v s1) rfl ?_
    refine TL.done ?_
    exact TC.nrm () () ⟨rfl, trivial⟩ [0] (by kernel_rfl)
   ·refine TL.move rfl rfl (v := .int .i64 r_1) rfl ?_
    refine TL.done ?_
    exact TC.nrm () () ⟨rfl, trivial⟩ [0] (by kernel_rfl)
   ·refine TL.ixsM r_1 r_1.toNat (RdM.old h1) h2 Try.underlying32 Try.sizeOf22 rfl rfl rfl rfl (by omega) ?_
    refine TL.done ?_
    exact TC.nrm () () ⟨rfl, trivial⟩ [0] (by kernel_rfl)
   ·refine TL.loadM2 (RdM.old h1) Try.isAgg22 r_1 h2 (by omega) rfl rfl rfl ?_
    refine TL.done ?_
    exact TC.nrm () () ⟨rfl, trivial⟩ [0] (by kernel_rfl)
   ·refine TL.move rfl rfl (v := .int .i64 r_2) rfl ?_
    refine TL.done ?_
    exact TC.nrm () () ⟨rfl, trivial⟩ [0] (by kernel_rfl)
   ·refine TL.bin .i64 r_2 1 rfl rfl rfl rfl (v := .int .i64 (w64 (r_2 + 1))) rfl ?_
    refine TL.done ?_
    exact TC.nrm () () ⟨rfl, trivial⟩ [0] (by kernel_rfl)
   ·refine TL.rem .i64 (w64 (r_2 + 1)) 3 (by decide) rfl rfl rfl rfl ?_
    refine TL.done ?_
    exact TC.nrm () () ⟨rfl, trivial⟩ [0] (by kernel_rfl)
   ·refine TL.ixs (Int.tmod (w64 (r_2 + 1)) 3) ((Int.tmod (w64 (r_2 + 1)) 3).toNat) (RdM.inn (RdM.old h1) h2) h3 Try.underlying22 Try.sizeOf2 rfl rfl rfl rfl (by omega) ?_
    refine TL.done ?_
    exact TC.nrm () () ⟨rfl, trivial⟩ [0] (by kernel_rfl)
   ·refine TL.loadE (RdM.inn (RdM.old h1) h2) Try.isAgg2 (Int.tmod (w64 (r_2 + 1)) 3).toNat 0 (gt_spec h3) (v := .int .i64 (gt (gt x1 r_1) (Int.tmod (w64 (r_2 + 1)) 3))) rfl (by simp only [show Ei.sz = 1 from rfl] <;> omega) rfl rfl rfl ?_
    refine TL.done ?_
    exact TC.nrm () () ⟨rfl, trivial⟩ [0] (by kernel_rfl)
   ·refine TL.move rfl rfl (v := SV.v s1) rfl ?_
    refine TL.done ?_
    exact TC.nrm () () ⟨rfl, trivial⟩ [0] (by kernel_rfl)
   ·refine TL.move rfl rfl (v := .int .i64 r_1) rfl ?_
    refine TL.done ?_
    exact TC.nrm () () ⟨rfl, trivial⟩ [0] (by kernel_rfl)
   ·refine TL.ixsM r_1 r_1.toNat (RdM.old h1) h2 Try.underlying32 Try.sizeOf22 rfl rfl rfl rfl (by omega) ?_
    refine TL.done ?_
    exact TC.nrm () () ⟨rfl, trivial⟩ [0] (by kernel_rfl)
   ·refine TL.loadM2 (RdM.old h1) Try.isAgg22 r_1 h2 (by omega) rfl rfl rfl ?_
    refine TL.done ?_
    exact TC.nrm () () ⟨rfl, trivial⟩ [0] (by kernel_rfl)
   ·refine TL.move rfl rfl (v := .int .i64 r_2) rfl ?_
    refine TL.done ?_
    exact TC.nrm () () ⟨rfl, trivial⟩ [0] (by kernel_rfl)
   ·refine TL.bin .i64 r_2 2 rfl rfl rfl rfl (v := .int .i64 (w64 (r_2 + 2))) rfl ?_
    refine TL.done ?_
    exact TC.nrm () () ⟨rfl, trivial⟩ [0] (by kernel_rfl)
   ·refine TL.rem .i64 (w64 (r_2 + 2)) 3 (by decide) rfl rfl rfl rfl ?_
    refine TL.done ?_
    exact TC.nrm () () ⟨rfl, trivial⟩ [0] (by kernel_rfl)
   ·refine TL.ixs (Int.tmod (w64 (r_2 + 2)) 3) ((Int.tmod (w64 (r_2 + 2)) 3).toNat) (RdM.inn (RdM.old h1) h2) h4 Try.underlying22 Try.sizeOf2 rfl rfl rfl rfl (by omega) ?_
    refine TL.done ?_
    exact TC.nrm () () ⟨rfl, trivial⟩ [0] (by kernel_rfl)
   ·refine TL.loadE (RdM.inn (RdM.old h1) h2) Try.isAgg2 (Int.tmod (w64 (r_2 + 2)) 3).toNat 0 (gt_spec h4) (v := .int .i64 (gt (gt x1 r_1) (Int.tmod (w64 (r_2 + 2)) 3))) rfl (by simp only [show Ei.sz = 1 from rfl] <;> omega) rfl rfl rfl ?_
    refine TL.done ?_
    exact TC.nrm () () ⟨rfl, trivial⟩ [0] (by kernel_rfl)
   ·refine TL.move rfl rfl (v := SV.v s1) rfl ?_
    refine TL.done ?_
    exact TC.nrm () () ⟨rfl, trivial⟩ [0] (by kernel_rfl)
   ·refine TL.move rfl rfl (v := .int .i64 r_3) rfl ?_
    refine TL.done ?_
    exact TC.nrm () () ⟨rfl, trivial⟩ [0] (by kernel_rfl)
   ·refine TL.ixsM r_3 r_3.toNat (RdM.old h1) h5 Try.underlying32 Try.sizeOf22 rfl rfl rfl rfl (by omega) ?_
    refine TL.done ?_
    exact TC.nrm () () ⟨rfl, trivial⟩ [0] (by kernel_rfl)
   ·refine TL.loadM2 (RdM.old h1) Try.isAgg22 r_3 h5 (by omega) rfl rfl rfl ?_
    refine TL.done ?_
    exact TC.nrm () () ⟨rfl, trivial⟩ [0] (by kernel_rfl)
   ·refine TL.move rfl rfl (v := .int .i64 r_4) rfl ?_
    refine TL.done ?_
    exact TC.nrm () () ⟨rfl, trivial⟩ [0] (by kernel_rfl)
   ·refine TL.bin .i64 r_4 1 rfl rfl rfl rfl (v := .int .i64 (w64 (r_4 + 1))) rfl ?_
    refine TL.done ?_
    exact TC.nrm () () ⟨rfl, trivial⟩ [0] (by kernel_rfl)
   ·refine TL.rem .i64 (w64 (r_4 + 1)) 3 (by decide) rfl rfl rfl rfl ?_
    refine TL.done ?_
    exact TC.nrm () () ⟨rfl, trivial⟩ [0] (by kernel_rfl)
   ·refine TL.ixs (Int.tmod (w64 (r_4 + 1)) 3) ((Int.tmod (w64 (r_4 + 1)) 3).toNat) (RdM.inn (RdM.old h1) h5) h6 Try.underlying22 Try.sizeOf2 rfl rfl rfl rfl (by omega) ?_
    refine TL.done ?_
    exact TC.nrm () () ⟨rfl, trivial⟩ [0] (by kernel_rfl)
   ·refine TL.loadE (RdM.inn (RdM.old h1) h5) Try.isAgg2 (Int.tmod (w64 (r_4 + 1)) 3).toNat 0 (gt_spec h6) (v := .int .i64 (gt (gt x1 r_3) (Int.tmod (w64 (r_4 + 1)) 3))) rfl (by simp only [show Ei.sz = 1 from rfl] <;> omega) rfl rfl rfl ?_
    refine TL.done ?_
    exact TC.nrm () () ⟨rfl, trivial⟩ [0] (by kernel_rfl)
   ·refine TL.move rfl rfl (v := SV.v s1) rfl ?_
    refine TL.done ?_
    exact TC.nrm () () ⟨rfl, trivial⟩ [0] (by kernel_rfl)
   ·refine TL.move rfl rfl (v := .int .i64 r_3) rfl ?_
    refine TL.done ?_
    exact TC.nrm () () ⟨rfl, trivial⟩ [0] (by kernel_rfl)
   ·refine TL.ixsM r_3 r_3.toNat (RdM.old h1) h5 Try.underlying32 Try.sizeOf22 rfl rfl rfl rfl (by omega) ?_
    refine TL.done ?_
    exact TC.nrm () () ⟨rfl, trivial⟩ [0] (by kernel_rfl)
   ·refine TL.loadM2 (RdM.old h1) Try.isAgg22 r_3 h5 (by omega) rfl rfl rfl ?_
    refine TL.done ?_
    exact TC.nrm () () ⟨rfl, trivial⟩ [0] (by kernel_rfl)
   ·refine TL.move rfl rfl (v := .int .i64 r_4) rfl ?_
    refine TL.done ?_
    exact TC.nrm () () ⟨rfl, trivial⟩ [0] (by kernel_rfl)
   ·refine TL.bin .i64 r_4 2 rfl rfl rfl rfl (v := .int .i64 (w64 (r_4 + 2))) rfl ?_
    refine TL.done ?_
    exact TC.nrm () () ⟨rfl, trivial⟩ [0] (by kernel_rfl)
   ·refine TL.rem .i64 (w64 (r_4 + 2)) 3 (by decide) rfl rfl rfl rfl ?_
    refine TL.done ?_
    exact TC.nrm () () ⟨rfl, trivial⟩ [0] (by kernel_rfl)
   ·refine TL.ixs (Int.tmod (w64 (r_4 + 2)) 3) ((Int.tmod (w64 (r_4 + 2)) 3).toNat) (RdM.inn (RdM.old h1) h5) h7 Try.underlying22 Try.sizeOf2 rfl rfl rfl rfl (by omega) ?_
    refine TL.done ?_
    exact TC.nrm () () ⟨rfl, trivial⟩ [0] (by kernel_rfl)
   ·refine TL.loadE (RdM.inn (RdM.old h1) h5) Try.isAgg2 (Int.tmod (w64 (r_4 + 2)) 3).toNat 0 (gt_spec h7) (v := .int .i64 (gt (gt x1 r_3) (Int.tmod (w64 (r_4 + 2)) 3))) rfl (by simp only [show Ei.sz = 1 from rfl] <;> omega) rfl rfl rfl ?_
    refine TL.done ?_
    exact TC.nrm () () ⟨rfl, trivial⟩ [0] (by kernel_rfl)
   ·refine TL.assign rfl rfl (v := .int .i64 (gt (gt x1 r_1) (Int.tmod (w64 (r_2 + 1)) 3))) rfl ?_
    refine TL.done ?_
    exact TC.nrm () () ⟨rfl, trivial⟩ [0] (by kernel_rfl)
   ·refine TL.assign rfl rfl (v := .int .i64 (gt (gt x1 r_1) (Int.tmod (w64 (r_2 + 2)) 3))) rfl ?_
    refine TL.done ?_
    exact TC.nrm () () ⟨rfl, trivial⟩ [0] (by kernel_rfl)
   ·refine TL.assign rfl rfl (v := .int .i64 (gt (gt x1 r_3) (Int.tmod (w64 (r_4 + 1)) 3))) rfl ?_
    refine TL.done ?_
    exact TC.nrm () () ⟨rfl, trivial⟩ [0] (by kernel_rfl)
   ·refine TL.assign rfl rfl (v := .int .i64 (gt (gt x1 r_3) (Int.tmod (w64 (r_4 + 2)) 3))) rfl ?_
    refine TL.done ?_
    exact TC.nrm () () ⟨rfl, trivial⟩ [0] (by kernel_rfl)
  ·refine TC.seq ?_
   refine TC.region ?_
   refine TL.move rfl rfl (v := SV.v s2) rfl ?_
   refine TL.move rfl rfl (v := .int .i64 r_1) rfl ?_
   refine TL.move rfl rfl (v := .int .i64 x2) rfl ?_
   refine TL.move rfl rfl (v := .int .i64 (gt (gt x1 r_1) (Int.tmod (w64 (r_2 + 2)) 3))) rfl ?_
   refine TL.move rfl rfl (v := .int .i64 (gt (gt x1 r_3) (Int.tmod (w64 (r_4 + 1)) 3))) rfl ?_
   refine TL.blit Ei ([x2, (gt (gt x1 r_1) (Int.tmod (w64 (r_2 + 2)) 3)), (gt (gt x1 r_3) (Int.tmod (w64 (r_4 + 1)) 3))] : List Int) Try.underlying22 Try.sizeOf2 Try.zeroValue2 rfl rfl rfl [(0, .int .i64 x2), (1, .int .i64 (gt (gt x1 r_1) (Int.tmod (w64 (r_2 + 2)) 3))), (2, .int .i64 (gt (gt x1 r_3) (Int.tmod (w64 (r_4 + 1)) 3)))] rfl ⟨rfl, rfl, rfl, rfl, rfl, rfl, trivial⟩ rfl rfl fun s3 => ?_
   refine TL.chk fun h8 => ?_
   refine TL.ixsM r_1 r_1.toNat (RdM.mat 1 rfl) h8 Try.underlying32 Try.sizeOf22 rfl rfl rfl rfl (by omega) ?_
   refine TL.matlen 1 rfl fun h9 => ?_
   refine TL.matcut 1 rfl ?_
   refine TL.stE 0 (r_1.toNat) s3 (v := SV.v s3) rfl Try.sizeOf22 rfl rfl rfl (by have h_ := h8; have l_ := h9; (try simp only [List.length_set] at h_ l_ ⊢); omega) (by simp only [show Ev.sz = 1 from rfl] <;> omega) rfl rfl rfl ?_
   refine TL.hole 2 r_1 rfl h8 ?_
   refine TL.rowsPut 1 2 rfl rfl ?_
   refine TL.matmk 0 2 rfl rfl ?_
   refine TL.drop 0 rfl ?_
   refine TL.asL [emp, mat Ei 2 22 s2 (ss2.set r_1.toNat s3) (r_5.set r_1.toNat ([x2, (gt (gt x1 r_1) (Int.tmod (w64 (r_2 + 2)) 3)), (gt (gt x1 r_3) (Int.tmod (w64 (r_4 + 1)) 3))] : List Int))] (by kernel_rfl) ?_
   refine TL.done ?_
   refine TC.seq ?_
   refine TC.region ?_
   refine TL.move rfl rfl (v := SV.v s2) rfl ?_
   refine TL.move rfl rfl (v := .int .i64 r_3) rfl ?_
   refine TL.move rfl rfl (v := .int .i64 x2) rfl ?_
   refine TL.neg .i64 x2 rfl rfl rfl ?_
   refine TL.move rfl rfl (v := .int .i64 (gt (gt x1 r_3) (Int.tmod (w64 (r_4 + 2)) 3))) rfl ?_
   refine TL.move rfl rfl (v := .int .i64 (gt (gt x1 r_1) (Int.tmod (w64 (r_2 + 1)) 3))) rfl ?_
   refine TL.blit Ei ([(w64 (0 - x2)), (gt (gt x1 r_3) (Int.tmod (w64 (r_4 + 2)) 3)), (gt (gt x1 r_1) (Int.tmod (w64 (r_2 + 1)) 3))] : List Int) Try.underlying22 Try.sizeOf2 Try.zeroValue2 rfl rfl rfl [(0, .int .i64 (w64 (0 - x2))), (1, .int .i64 (gt (gt x1 r_3) (Int.tmod (w64 (r_4 + 2)) 3))), (2, .int .i64 (gt (gt x1 r_1) (Int.tmod (w64 (r_2 + 1)) 3)))] rfl ⟨rfl, rfl, rfl, rfl, rfl, rfl, trivial⟩ rfl rfl fun s4 => ?_
   refine TL.chk fun h10 => ?_
   refine TL.ixsM r_3 r_3.toNat (RdM.mat 2 rfl) h10 Try.underlying32 Try.sizeOf22 rfl rfl rfl rfl (by omega) ?_
   refine TL.matlen 2 rfl fun h11 => ?_
   refine TL.matcut 2 rfl ?_
   refine TL.stE 0 (r_3.toNat) s4 (v := SV.v s4) rfl Try.sizeOf22 rfl rfl rfl (by have h_ := h10; have l_ := h11; (try simp only [List.length_set] at h_ l_ ⊢); omega) (by simp only [show Ev.sz = 1 from rfl] <;> omega) rfl rfl rfl ?_
   refine TL.hole 3 r_3 rfl h10 ?_
   refine TL.rowsPut 1 3 rfl rfl ?_
   refine TL.matmk 0 3 rfl rfl ?_
   refine TL.drop 0 rfl ?_
   refine TL.asL [emp, emp, mat Ei 2 22 s2 ((ss2.set r_1.toNat s3).set r_3.toNat s4) ((r_5.set r_1.toNat ([x2, (gt (gt x1 r_1) (Int.tmod (w64 (r_2 + 2)) 3)), (gt (gt x1 r_3) (Int.tmod (w64 (r_4 + 1)) 3))] : List Int)).set r_3.toNat ([(w64 (0 - x2)), (gt (gt x1 r_3) (Int.tmod (w64 (r_4 + 2)) 3)), (gt (gt x1 r_1) (Int.tmod (w64 (r_2 + 1)) 3))] : List Int))] (by kernel_rfl) ?_
   refine TL.done ?_
   refine TC.seq ?_
   refine TC.region ?_
   refine TL.move rfl rfl (v := SV.v s2) rfl ?_
   refine TL.assign rfl rfl (v := SV.v s2) rfl ?_
   refine TL.assign rfl rfl (v := .bool true) rfl ?_
   refine TL.done ?_
   exact TC.retF (Fin.body (fin2 (.inr rfl) rfl (.tmp rfl) (.tmp rfl) [2] rfl ⟨s2, ((ss2.set r_1.toNat s3).set r_3.toNat s4), rfl, rfl⟩))

end Go.Proofs.Ytiiljfpbcanphaa.G

/- spec.l07Split, as a pure function. -/
set_option linter.unusedVariables false
namespace Go.Proofs.Ytiiljfpbcanphaa.G
open Go Go.Sx Go.Proofs

def spec_l07Split.f (s1 : List (List Int)) (i1 : Int) : Option (List (List Int)) := (G.spec_l07Copy.f s1).bind (fun r_1 => chk i1 s1.length (chk 0 ((gt s1 i1).length) (chk i1 r_1.length (chk 1 ((gt s1 i1).length) (chk 2 ((gt s1 i1).length) (small ((r_1.set i1.toNat ([(gt (gt s1 i1) 0), (w64 ((w64 (Int.tdiv (w64 ((s1.length : Int) * 3)) 2)) + 1)), (w64 ((w64 (0 - (w64 (Int.tdiv (w64 ((s1.length : Int) * 3)) 2)))) - 2))] : List Int)).length + 2) (some ((r_1.set i1.toNat ([(gt (gt s1 i1) 0), (w64 ((w64 (Int.tdiv (w64 ((s1.length : Int) * 3)) 2)) + 1)), (w64 ((w64 (0 - (w64 (Int.tdiv (w64 ((s1.length : Int) * 3)) 2)))) - 2))] : List Int)) ++ [([(gt (gt s1 i1) 1), (w64 ((w64 (Int.tdiv (w64 ((s1.length : Int) * 3)) 2)) + 3)), (w64 ((w64 (0 - (w64 (Int.tdiv (w64 ((s1.length : Int) * 3)) 2)))) - 1))] : List Int), ([(gt (gt s1 i1) 2), (w64 ((w64 (Int.tdiv (w64 ((s1.length : Int) * 3)) 2)) + 2)), (w64 ((w64 (0 - (w64 (Int.tdiv (w64 ((s1.length : Int) * 3)) 2)))) - 3))] : List Int)]))))))))

def spec_l07Split.R (r : List (List Int)) (v : Value) (L : List Asn) : Prop := ∃ (s0 : SV) (ss0 : List SV), v = SV.v s0 ∧ L = [mat Ei 2 22 s0 ss0 r]

set_option maxRecDepth 100000 in
set_option maxHeartbeats 4000000 in
theorem spec_l07Split.calls (w : World) (s2 : SV) (ss1 : List SV) (s1 : List (List Int)) (i1 : Int) (h1 : ReadsM Ei (hp w) s2 ss1 s1) :
  ∀ r, spec_l07Split.f s1 i1 = some r → Calls Try.prog 130 #[SV.v s2, .int .i64 i1] w (Ret w (spec_l07Split.R r)) := by

 refine calls_T (n := 51) (Γ := [(0, SV.v s2), (1, .int .i64 i1)]) (R := spec_l07Split.R) Try.func130 rfl rfl (Nat.le_of_ble_eq_true rfl) ⟨rfl, rfl, trivial⟩ ?_
 unfold spec_l07Split.f
 refine TC.seq ?_
 refine TC.region ?_
 refine TL.assign rfl rfl (v := SV.v ⟨none, 0, 0⟩) rfl ?_
 refine TL.done ?_
 refine TC.seq ?_
 refine TC.wk (Γ' := [(0, SV.v s2), (1, .int .i64 i1), (4, SV.v ⟨none, 0, 0⟩)]) ⟨rfl, rfl, rfl, trivial⟩ ?_
 refine TC.bindE ?_
 rintro r_1 hr1
 refine TC.chk fun h2 => ?_
 refine TC.drawG [(0, SV.v s2), (1, .int .i64 i1), (4, SV.v ⟨none, 0, 0⟩)] [] ⟨rfl, rfl, rfl, trivial⟩ trivial (fun l_ g1 => [(bif nb l_ 1 then mat Ei 2 22 (gs (g1 8)) (g1 9) r_1 else emp)]) (fun g1 => [SV.v s2, SV.v (gs (g1 8)), SV.v s2, .int .i64 (s1.length : Int), .int .i64 (w64 ((s1.length : Int) * 3)), .int .i64 (w64 (Int.tdiv (w64 ((s1.length : Int) * 3)) 2)), SV.v s2, .int .i64 i1, ep s2 i1.toNat, SV.v (gt ss1 i1), SV.v (gs (g1 8)), .int .i64 (w64 (Int.tdiv (w64 ((s1.length : Int) * 3)) 2)), SV.v (gt ss1 i1)]) [[], [0], [], [2], [2, 3], [2, 3, 4], [], [], [6, 7], [6, 7, 8], [0, 1], [0, 1, 2, 3, 4, 5, 10], [0, 1, 2, 3, 4, 5, 6, 7, 8, 9, 10, 11]] [[some false, some false, none, none, none, none, none, none, none, none, some false, some false, some false], [some true, some false, none, none, none, none, none, none, none, none, some false, some false, some false], [none, none, some false, some false, some false, some false, none, none, none, none, none, some false, some false], [none, none, some true, some false, some false, some false, none, none, none, none, none, some false, some false], [none, none, some true, some true, some false, some false, none, none, none, none, none, some false, some false], [none, none, some true, some true, some true, some false, none, none, none, none, none, some false, some false], [none, none, none, none, none, none, some false, none, some false, some false, none, none, some false], [none, none, none, none, none, none, none, some false, some false, some false, none, none, some false], [none, none, none, none, none, none, some true, some true, some false, some false, none, none, some false], [none, none, none, none, none, none, some true, some true, some true, some false, none, none, some false], [some true, some true, none, none, none, none, none, none, none, none, some false, some false, some false], [some true, some true, some true, some true, some true, some true, none, none, none, none, some true, some false, some false], [some true, some true, some true, some true, some true, some true, some true, some true, some true, some true, some true, some true, some false]] (by kernel_rfl) (fun _ => rfl) rfl rfl rfl rfl rfl (fun _ _ => ⟨⟨⟨⟨⟨⟨⟨⟨⟨⟨⟨⟨⟨trivial, rfl⟩, rfl⟩, rfl⟩, rfl⟩, rfl⟩, rfl⟩, rfl⟩, rfl⟩, rfl⟩, rfl⟩, rfl⟩, rfl⟩, rfl⟩) 1 [0] (fun _ => by kernel_rfl) ?_ ?_
 ·refine ⟨rfl, ?_, rfl, ?_, rfl, ?_, rfl, ?_, rfl, ?_, rfl, ?_, rfl, ?_, rfl, ?_, rfl, ?_, rfl, ?_, rfl, ?_, rfl, ?_, rfl, ?_, trivial⟩
  ·intro b2_ b3_ b4_ b5_ b6_ b7_ b8_ b9_ g1
   refine TL.move rfl rfl (v := SV.v s2) rfl ?_
   refine TL.done ?_
   exact TC.nrm () [] ⟨rfl, trivial⟩ [0] (by kernel_rfl)
  ·intro b2_ b3_ b4_ b5_ b6_ b7_ b8_ b9_ g1
   refine TL.asL [emp] (by kernel_rfl) ?_
   refine TL.callH (R := G.spec_l07Copy.R) hr1 Try.call147 rfl rfl rfl (fun w hS => G.spec_l07Copy.calls w s2 ss1 s1 ((RdM.old h1) w hS)) ?_
   rintro _ _ ⟨s3, ss2, rfl, rfl⟩
   refine TL.done ?_
   exact TC.nrm () [[s3], ss2] ⟨rfl, trivial⟩ [0] (by kernel_rfl)
  ·intro b0_ b1_ b6_ b7_ b8_ b9_ b10_ g1
   refine TL.move rfl rfl (v := SV.v s2) rfl ?_
   refine TL.done ?_
   exact TC.nrm () [] ⟨rfl, trivial⟩ [0] (by kernel_rfl)
  ·intro b0_ b1_ b6_ b7_ b8_ b9_ b10_ g1
   refine TL.asL [(bif b1_ then mat Ei 2 22 (gs (g1 8)) (g1 9) r_1 else emp)] (by kernel_rfl) ?_
   refine TL.lenM (RdM.old h1) Try.underlying32 rfl rfl rfl ?_
   refine TL.done ?_
   exact TC.nrm () [] ⟨rfl, trivial⟩ [0] (by kernel_rfl)
  ·intro b0_ b1_ b6_ b7_ b8_ b9_ b10_ g1
   refine TL.bin .i64 (s1.length : Int) 3 rfl rfl rfl rfl (v := .int .i64 (w64 ((s1.length : Int) * 3))) rfl ?_
   refine TL.done ?_
   exact TC.nrm () [] ⟨rfl, trivial⟩ [0] (by kernel_rfl)
  ·intro b0_ b1_ b6_ b7_ b8_ b9_ b10_ g1
   refine TL.quo .i64 (w64 ((s1.length : Int) * 3)) 2 (by decide) rfl rfl rfl rfl ?_
   refine TL.done ?_
   exact TC.nrm () [] ⟨rfl, trivial⟩ [0] (by kernel_rfl)
  ·intro b0_ b1_ b2_ b3_ b4_ b5_ b7_ b10_ b11_ g1
   refine TL.move rfl rfl (v := SV.v s2) rfl ?_
   refine TL.done ?_
   exact TC.nrm () [] ⟨rfl, trivial⟩ [0] (by kernel_rfl)
  ·intro b0_ b1_ b2_ b3_ b4_ b5_ b6_ b10_ b11_ g1
   refine TL.move rfl rfl (v := .int .i64 i1) rfl ?_
   refine TL.done ?_
   exact TC.nrm () [] ⟨rfl, trivial⟩ [0] (by kernel_rfl)
  ·intro b0_ b1_ b2_ b3_ b4_ b5_ b10_ b11_ g1
   refine TL.asL [(bif b1_ then mat Ei 2 22 (gs (g1 8)) (g1 9) r_1 else emp)] (by kernel_rfl) ?_
   refine TL.ixsM i1 i1.toNat (RdM.old h1) h2 Try.underlying32 Try.sizeOf22 rfl rfl rfl rfl (by omega) ?_
   refine TL.done ?_
   exact TC.nrm () [] ⟨rfl, trivial⟩ [0] (by kernel_rfl)
  ·intro b0_ b1_ b2_ b3_ b4_ b5_ b10_ b11_ g1
   refine TL.asL [(bif b1_ then mat Ei 2 22 (gs (g1 8)) (g1 9) r_1 else emp)] (by kernel_rfl) ?_
   refine TL.loadM2 (RdM.old h1) Try.isAgg22 i1 h2 (by omega) rfl rfl rfl ?_
   refine TL.done ?_
   exact TC.nrm () [] ⟨rfl, trivial⟩ [0] (by kernel_rfl)
  ·intro b2_ b3_ b4_ b5_ b6_ b7_ b8_ b9_ g1
   refine TL.assign rfl rfl (v := SV.v (gs (g1 8))) rfl ?_
   refine TL.done ?_
   exact TC.nrm () [] ⟨rfl, trivial⟩ [0] (by kernel_rfl)
  ·intro b6_ b7_ b8_ b9_ g1
   refine TL.assign rfl rfl (v := .int .i64 (w64 (Int.tdiv (w64 ((s1.length : Int) * 3)) 2))) rfl ?_
   refine TL.done ?_
   exact TC.nrm () [] ⟨rfl, trivial⟩ [0] (by kernel_rfl)
  ·intro g1
   refine TL.assign rfl rfl (v := SV.v (gt ss1 i1)) rfl ?_
   refine TL.done ?_
   exact TC.nrm () [] ⟨rfl, trivial⟩ [0] (by kernel_rfl)
 ·intro g1
  refine TC.asL [mat Ei 2 22 (gs (g1 8)) (g1 9) r_1] (by kernel_rfl) ?_
  refine TC.seq ?_
  refine TC.region ?_
  refine TL.move rfl rfl (v := SV.v (gs (g1 8))) rfl ?_
  refine TL.move rfl rfl (v := .int .i64 i1) rfl ?_
  refine TL.move rfl rfl (v := SV.v (gt ss1 i1)) rfl ?_
  refine TL.chk fun h3 => ?_
  refine TL.ixs 0 0 (RdM.inn (RdM.old h1) h2) h3 Try.underlying22 Try.sizeOf2 rfl rfl rfl rfl rfl ?_
  refine TL.loadE (RdM.inn (RdM.old h1) h2) Try.isAgg2 0 0 (gt_spec h3) (v := .int .i64 (gt (gt s1 i1) 0)) rfl rfl rfl rfl rfl ?_
  refine TL.move rfl rfl (v := .int .i64 (w64 (Int.tdiv (w64 ((s1.length : Int) * 3)) 2))) rfl ?_
  refine TL.bin .i64 (w64 (Int.tdiv (w64 ((s1.length : Int) * 3)) 2)) 1 rfl rfl rfl rfl (v := .int .i64 (w64 ((w64 (Int.tdiv (w64 ((s1.length : Int) * 3)) 2)) + 1))) rfl ?_
  refine TL.move rfl rfl (v := .int .i64 (w64 (Int.tdiv (w64 ((s1.length : Int) * 3)) 2))) rfl ?_
  refine TL.neg .i64 (w64 (Int.tdiv (w64 ((s1.length : Int) * 3)) 2)) rfl rfl rfl ?_
  refine TL.bin .i64 (w64 (0 - (w64 (Int.tdiv (w64 ((s1.length : Int) * 3)) 2)))) 2 rfl rfl rfl rfl (v := .int .i64 (w64 ((w64 (0 - (w64 (Int.tdiv (w64 ((s1.length : Int) * 3)) 2)))) - 2))) rfl ?_
  refine TL.blit Ei ([(gt (gt s1 i1) 0), (w64 ((w64 (Int.tdiv (w64 ((s1.length : Int) * 3)) 2)) + 1)), (w64 ((w64 (0 - (w64 (Int.tdiv (w64 ((s1.length : Int) * 3)) 2)))) - 2))] : List Int) Try.underlying22 Try.sizeOf2 Try.zeroValue2 rfl rfl rfl [(0, .int .i64 (gt (gt s1 i1) 0)), (1, .int .i64 (w64 ((w64 (Int.tdiv (w64 ((s1.length : Int) * 3)) 2)) + 1))), (2, .int .i64 (w64 ((w64 (0 - (w64 (Int.tdiv (w64 ((s1.length : Int) * 3)) 2)))) - 2)))] rfl ⟨rfl, rfl, rfl, rfl, rfl, rfl, trivial⟩ rfl rfl fun s4 => ?_
  refine TL.chk fun h4 => ?_
  refine TL.ixsM i1 i1.toNat (RdM.mat 1 rfl) h4 Try.underlying32 Try.sizeOf22 rfl rfl rfl rfl (by omega) ?_
  refine TL.matlen 1 rfl fun h5 => ?_
  refine TL.matcut 1 rfl ?_
  refine TL.stE 0 (i1.toNat) s4 (v := SV.v s4) rfl Try.sizeOf22 rfl rfl rfl (by have h_ := h4; have l_ := h5; (try simp only [List.length_set] at h_ l_ ⊢); omega) (by simp only [show Ev.sz = 1 from rfl] <;> omega) rfl rfl rfl ?_
  refine TL.hole 2 i1 rfl h4 ?_
  refine TL.rowsPut 1 2 rfl rfl ?_
  refine TL.matmk 0 2 rfl rfl ?_
  refine TL.drop 0 rfl ?_
  refine TL.asL [emp, mat Ei 2 22 (gs (g1 8)) ((g1 9).set i1.toNat s4) (r_1.set i1.toNat ([(gt (gt s1 i1) 0), (w64 ((w64 (Int.tdiv (w64 ((s1.length : Int) * 3)) 2)) + 1)), (w64 ((w64 (0 - (w64 (Int.tdiv (w64 ((s1.length : Int) * 3)) 2)))) - 2))] : List Int))] (by kernel_rfl) ?_
  refine TL.done ?_
  refine TC.seq ?_
  refine TC.wk (Γ' := [(0, SV.v s2), (1, .int .i64 i1), (8, SV.v s2), (9, SV.v (gs (g1 8))), (10, SV.v s2), (11, .int .i64 (s1.length : Int)), (12, .int .i64 (w64 ((s1.length : Int) * 3))), (13, .int .i64 (w64 (Int.tdiv (w64 ((s1.length : Int) * 3)) 2))), (14, SV.v s2), (15, .int .i64 i1), (16, ep s2 i1.toNat), (17, SV.v (gt ss1 i1)), (5, SV.v (gs (g1 8))), (6, .int .i64 (w64 (Int.tdiv (w64 ((s1.length : Int) * 3)) 2))), (7, SV.v (gt ss1 i1)), (18, SV.v (gs (g1 8))), (19, .int .i64 i1), (20, SV.v (gt ss1 i1)), (21, ep (gt ss1 i1) 0), (22, .int .i64 (gt (gt s1 i1) 0)), (23, .int .i64 (w64 (Int.tdiv (w64 ((s1.length : Int) * 3)) 2))), (24, .int .i64 (w64 ((w64 (Int.tdiv (w64 ((s1.length : Int) * 3)) 2)) + 1))), (25, .int .i64 (w64 (Int.tdiv (w64 ((s1.length : Int) * 3)) 2))), (26, .int .i64 (w64 (0 - (w64 (Int.tdiv (w64 ((s1.length : Int) * 3)) 2))))), (27, .int .i64 (w64 ((w64 (0 - (w64 (Int.tdiv (w64 ((s1.length : Int) * 3)) 2)))) - 2))), (28, SV.v s4), (29, ep (gs (g1 8)) i1.toNat)]) ⟨rfl, rfl, rfl, rfl, rfl, rfl, rfl, rfl, rfl, rfl, rfl, rfl, rfl, rfl, rfl, rfl, rfl, rfl, rfl, rfl, rfl, rfl, rfl, rfl, rfl, rfl, rfl, trivial⟩ ?_
  refine TC.chk fun h6 => ?_
  refine TC.chk fun h7 => ?_
  refine TC.small fun h8 => ?_
  refine TC.drawG [(0, SV.v s2), (1, .int .i64 i1), (8, SV.v s2), (9, SV.v (gs (g1 8))), (10, SV.v s2), (11, .int .i64 (s1.length : Int)), (12, .int .i64 (w64 ((s1.length : Int) * 3))), (13, .int .i64 (w64 (Int.tdiv (w64 ((s1.length : Int) * 3)) 2))), (14, SV.v s2), (15, .int .i64 i1), (16, ep s2 i1.toNat), (17, SV.v (gt ss1 i1)), (5, SV.v (gs (g1 8))), (6, .int .i64 (w64 (Int.tdiv (w64 ((s1.length : Int) * 3)) 2))), (7, SV.v (gt ss1 i1)), (18, SV.v (gs (g1 8))), (19, .int .i64 i1), (20, SV.v (gt ss1 i1)), (21, ep (gt ss1 i1) 0), (22, .int .i64 (gt (gt s1 i1) 0)), (23, .int .i64 (w64 (Int.tdiv (w64 ((s1.length : Int) * 3)) 2))), (24, .int .i64 (w64 ((w64 (Int.tdiv (w64 ((s1.length : Int) * 3)) 2)) + 1))), (25, .int .i64 (w64 (Int.tdiv (w64 ((s1.length : Int) * 3)) 2))), (26, .int .i64 (w64 (0 - (w64 (Int.tdiv (w64 ((s1.length : Int) * 3)) 2))))), (27, .int .i64 (w64 ((w64 (0 - (w64 (Int.tdiv (w64 ((s1.length : Int) * 3)) 2)))) - 2))), (28, SV.v s4), (29, ep (gs (g1 8)) i1.toNat)] [] ⟨rfl, rfl, rfl, rfl, rfl, rfl, rfl, rfl, rfl, rfl, rfl, rfl, rfl, rfl, rfl, rfl, rfl, rfl, rfl, rfl, rfl, rfl, rfl, rfl, rfl, rfl, rfl, trivial⟩ trivial (fun l_ g2 => [emp, (bif nb l_ 20 then emp else mat Ei 2 22 (gs (g1 8)) ((g1 9).set i1.toNat s4) (r_1.set i1.toNat ([(gt (gt s1 i1) 0), (w64 ((w64 (Int.tdiv (w64 ((s1.length : Int) * 3)) 2)) + 1)), (w64 ((w64 (0 - (w64 (Int.tdiv (w64 ((s1.length : Int) * 3)) 2)))) - 2))] : List Int))), (bif nb l_ 20 then emp else (bif nb l_ 9 then row Ei 2 (gs (g2 72)) ([(gt (gt s1 i1) 1), (w64 ((w64 (Int.tdiv (w64 ((s1.length : Int) * 3)) 2)) + 3)), (w64 ((w64 (0 - (w64 (Int.tdiv (w64 ((s1.length : Int) * 3)) 2)))) - 1))] : List Int) else emp)), (bif nb l_ 20 then mat Ei 2 22 (gs (g2 160)) (((g1 9).set i1.toNat s4) ++ [(gs (g2 72)), (gs (g2 144))]) ((r_1.set i1.toNat ([(gt (gt s1 i1) 0), (w64 ((w64 (Int.tdiv (w64 ((s1.length : Int) * 3)) 2)) + 1)), (w64 ((w64 (0 - (w64 (Int.tdiv (w64 ((s1.length : Int) * 3)) 2)))) - 2))] : List Int)) ++ [([(gt (gt s1 i1) 1), (w64 ((w64 (Int.tdiv (w64 ((s1.length : Int) * 3)) 2)) + 3)), (w64 ((w64 (0 - (w64 (Int.tdiv (w64 ((s1.length : Int) * 3)) 2)))) - 1))] : List Int), ([(gt (gt s1 i1) 2), (w64 ((w64 (Int.tdiv (w64 ((s1.length : Int) * 3)) 2)) + 2)), (w64 ((w64 (0 - (w64 (Int.tdiv (w64 ((s1.length : Int) * 3)) 2)))) - 3))] : List Int)]) else (bif nb l_ 18 then row Ei 2 (gs (g2 144)) ([(gt (gt s1 i1) 2), (w64 ((w64 (Int.tdiv (w64 ((s1.length : Int) * 3)) 2)) + 2)), (w64 ((w64 (0 - (w64 (Int.tdiv (w64 ((s1.length : Int) * 3)) 2)))) - 3))] : List Int) else emp)), (bif nb l_ 19 then row Ev 22 (gs (g2 152)) ([(gs (g2 72)), (gs (g2 144))] : List SV) else emp)]) (fun g2 => [SV.v (gs (g1 8)), SV.v (gt ss1 i1), ep (gt ss1 i1) 1, .int .i64 (gt (gt s1 i1) 1), .int .i64 (w64 (Int.tdiv (w64 ((s1.length : Int) * 3)) 2)), .int .i64 (w64 ((w64 (Int.tdiv (w64 ((s1.length : Int) * 3)) 2)) + 3)), .int .i64 (w64 (Int.tdiv (w64 ((s1.length : Int) * 3)) 2)), .int .i64 (w64 (0 - (w64 (Int.tdiv (w64 ((s1.length : Int) * 3)) 2)))), .int .i64 (w64 ((w64 (0 - (w64 (Int.tdiv (w64 ((s1.length : Int) * 3)) 2)))) - 1)), SV.v (gs (g2 72)), SV.v (gt ss1 i1), ep (gt ss1 i1) 2, .int .i64 (gt (gt s1 i1) 2), .int .i64 (w64 (Int.tdiv (w64 ((s1.length : Int) * 3)) 2)), .int .i64 (w64 ((w64 (Int.tdiv (w64 ((s1.length : Int) * 3)) 2)) + 2)), .int .i64 (w64 (Int.tdiv (w64 ((s1.length : Int) * 3)) 2)), .int .i64 (w64 (0 - (w64 (Int.tdiv (w64 ((s1.length : Int) * 3)) 2)))), .int .i64 (w64 ((w64 (0 - (w64 (Int.tdiv (w64 ((s1.length : Int) * 3)) 2)))) - 3)), SV.v (gs (g2 144)), SV.v (gs (g2 152)), SV.v (gs (g2 160)), SV.v (gs (g2 160))]) [[], [], [1], [1, 2], [], [4], [], [6], [6, 7], [1, 2, 3, 4, 5, 6, 7, 8], [], [10], [10, 11], [], [13], [], [15], [15, 16], [10, 11, 12, 13, 14, 15, 16, 17], [1, 2, 3, 4, 5, 6, 7, 8, 9, 10, 11, 12, 13, 14, 15, 16, 17, 18], [0, 1, 2, 3, 4, 5, 6, 7, 8, 9, 10, 11, 12, 13, 14, 15, 16, 17, 18, 19], [0, 1, 2, 3, 4, 5, 6, 7, 8, 9, 10, 11, 12, 13, 14, 15, 16, 17, 18, 19, 20]] [[some false, none, none, none, none, none, none, none, none, none, none, none, none, none, none, none, none, none, none, none, some false, some false], [none, some false, some false, some false, none, none, none, none, none, some false, none, none, none, none, none, none, none, none, none, some false, some false, some false], [none, some true, some false, some false, none, none, none, none, none, some false, none, none, none, none, none, none, none, none, none, some false, some false, some false], [none, some true, some true, some false, none, none, none, none, none, some false, none, none, none, none, none, none, none, none, none, some false, some false, some false], [none, none, none, none, some false, some false, none, none, none, some false, none, none, none, none, none, none, none, none, none, some false, some false, some false], [none, none, none, none, some true, some false, none, none, none, some false, none, none, none, none, none, none, none, none, none, some false, some false, some false], [none, none, none, none, none, none, some false, some false, some false, some false, none, none, none, none, none, none, none, none, none, some false, some false, some false], [none, none, none, none, none, none, some true, some false, some false, some false, none, none, none, none, none, none, none, none, none, some false, some false, some false], [none, none, none, none, none, none, some true, some true, some false, some false, none, none, none, none, none, none, none, none, none, some false, some false, some false], [none, some true, some true, some true, some true, some true, some true, some true, some true, some false, none, none, none, none, none, none, none, none, none, some false, some false, some false], [none, none, none, none, none, none, none, none, none, none, some false, some false, some false, none, none, none, none, none, some false, some false, some false, some false], [none, none, none, none, none, none, none, none, none, none, some true, some false, some false, none, none, none, none, none, some false, some false, some false, some false], [none, none, none, none, none, none, none, none, none, none, some true, some true, some false, none, none, none, none, none, some false, some false, some false, some false], [none, none, none, none, none, none, none, none, none, none, none, none, none, some false, some false, none, none, none, some false, some false, some false, some false], [none, none, none, none, none, none, none, none, none, none, none, none, none, some true, some false, none, none, none, some false, some false, some false, some false], [none, none, none, none, none, none, none, none, none, none, none, none, none, none, none, some false, some false, some false, some false, some false, some false, some false], [none, none, none, none, none, none, none, none, none, none, none, none, none, none, none, some true, some false, some false, some false, some false, some false, some false], [none, none, none, none, none, none, none, none, none, none, none, none, none, none, none, some true, some true, some false, some false, some false, some false, some false], [none, none, none, none, none, none, none, none, none, none, some true, some true, some true, some true, some true, some true, some true, some true, some false, some false, some false, some false], [none, some true, some true, some true, some true, some true, some true, some true, some true, some true, some true, some true, some true, some true, some true, some true, some true, some true, some true, some false, some false, some false], [some true, some true, some true, some true, some true, some true, some true, some true, some true, some true, some true, some true, some true, some true, some true, some true, some true, some true, some true, some true, some false, some false], [some true, some true, some true, some true, some true, some true, some true, some true, some true, some true, some true, some true, some true, some true, some true, some true, some true, some true, some true, some true, some true, some false]] (by kernel_rfl) (fun _ => rfl) rfl rfl rfl rfl rfl (fun _ _ => ⟨⟨⟨⟨⟨⟨⟨⟨⟨⟨⟨⟨⟨⟨⟨⟨⟨⟨⟨⟨⟨⟨trivial, rfl⟩, rfl⟩, rfl⟩, rfl⟩, rfl⟩, rfl⟩, rfl⟩, rfl⟩, rfl⟩, rfl⟩, rfl⟩, rfl⟩, rfl⟩, rfl⟩, rfl⟩, rfl⟩, rfl⟩, rfl⟩, rfl⟩, rfl⟩, rfl⟩, rfl⟩) 3 [3, 3, 0, 0, 0] (fun _ => by kernel_rfl) ?_ ?_
  ·refine ⟨rfl, ?_, rfl, ?_, rfl, ?_, rfl, ?_, rfl, ?_, rfl, ?_, rfl, ?_, rfl, ?_, rfl, ?_, rfl, ?_, rfl, ?_, rfl, ?_, rfl, ?_, rfl, ?_, rfl, ?_, rfl, ?_, rfl, ?_, rfl, ?_, rfl, ?_, rfl, ?_, rfl, ?_, rfl, ?_, trivial⟩
   ·intro b1_ b2_ b3_ b4_ b5_ b6_ b7_ b8_ b9_ b10_ b11_ b12_ b13_ b14_ b15_ b16_ b17_ b18_ b19_ g2
    refine TL.move rfl rfl (v := SV.v (gs (g1 8))) rfl ?_
    refine TL.done ?_
    exact TC.nrm () [] ⟨rfl, trivial⟩ [0, 0, 0, 0, 0] (by kernel_rfl)
   ·intro b0_ b4_ b5_ b6_ b7_ b8_ b10_ b11_ b12_ b13_ b14_ b15_ b16_ b17_ b18_ g2
    refine TL.move rfl rfl (v := SV.v (gt ss1 i1)) rfl ?_
    refine TL.done ?_
    exact TC.nrm () [] ⟨rfl, trivial⟩ [0, 0, 0, 0, 0] (by kernel_rfl)
   ·intro b0_ b4_ b5_ b6_ b7_ b8_ b10_ b11_ b12_ b13_ b14_ b15_ b16_ b17_ b18_ g2
    refine TL.asL [emp, mat Ei 2 22 (gs (g1 8)) ((g1 9).set i1.toNat s4) (r_1.set i1.toNat ([(gt (gt s1 i1) 0), (w64 ((w64 (Int.tdiv (w64 ((s1.length : Int) * 3)) 2)) + 1)), (w64 ((w64 (0 - (w64 (Int.tdiv (w64 ((s1.length : Int) * 3)) 2)))) - 2))] : List Int)), emp, (bif b18_ then row Ei 2 (gs (g2 144)) ([(gt (gt s1 i1) 2), (w64 ((w64 (Int.tdiv (w64 ((s1.length : Int) * 3)) 2)) + 2)), (w64 ((w64 (0 - (w64 (Int.tdiv (w64 ((s1.length : Int) * 3)) 2)))) - 3))] : List Int) else emp), emp] (by kernel_rfl) ?_
    refine TL.ixs 1 1 (RdM.inn (RdM.old h1) h2) h6 Try.underlying22 Try.sizeOf2 rfl rfl rfl rfl rfl ?_
    refine TL.done ?_
    exact TC.nrm () [] ⟨rfl, trivial⟩ [0, 0, 0, 0, 0] (by kernel_rfl)
   ·intro b0_ b4_ b5_ b6_ b7_ b8_ b10_ b11_ b12_ b13_ b14_ b15_ b16_ b17_ b18_ g2
    refine TL.asL [emp, mat Ei 2 22 (gs (g1 8)) ((g1 9).set i1.toNat s4) (r_1.set i1.toNat ([(gt (gt s1 i1) 0), (w64 ((w64 (Int.tdiv (w64 ((s1.length : Int) * 3)) 2)) + 1)), (w64 ((w64 (0 - (w64 (Int.tdiv (w64 ((s1.length : Int) * 3)) 2)))) - 2))] : List Int)), emp, (bif b18_ then row Ei 2 (gs (g2 144)) ([(gt (gt s1 i1) 2), (w64 ((w64 (Int.tdiv (w64 ((s1.length : Int) * 3)) 2)) + 2)), (w64 ((w64 (0 - (w64 (Int.tdiv (w64 ((s1.length : Int) * 3)) 2)))) - 3))] : List Int) else emp), emp] (by kernel_rfl) ?_
    refine TL.loadE (RdM.inn (RdM.old h1) h2) Try.isAgg2 1 0 (gt_spec h6) (v := .int .i64 (gt (gt s1 i1) 1)) rfl rfl rfl rfl rfl ?_
    refine TL.done ?_
    exact TC.nrm () [] ⟨rfl, trivial⟩ [0, 0, 0, 0, 0] (by kernel_rfl)
   ·intro b0_ b1_ b2_ b3_ b6_ b7_ b8_ b10_ b11_ b12_ b13_ b14_ b15_ b16_ b17_ b18_ g2
    refine TL.move rfl rfl (v := .int .i64 (w64 (Int.tdiv (w64 ((s1.length : Int) * 3)) 2))) rfl ?_
    refine TL.done ?_
    exact TC.nrm () [] ⟨rfl, trivial⟩ [0, 0, 0, 0, 0] (by kernel_rfl)
   ·intro b0_ b1_ b2_ b3_ b6_ b7_ b8_ b10_ b11_ b12_ b13_ b14_ b15_ b16_ b17_ b18_ g2
    refine TL.bin .i64 (w64 (Int.tdiv (w64 ((s1.length : Int) * 3)) 2)) 3 rfl rfl rfl rfl (v := .int .i64 (w64 ((w64 (Int.tdiv (w64 ((s1.length : Int) * 3)) 2)) + 3))) rfl ?_
    refine TL.done ?_
    exact TC.nrm () [] ⟨rfl, trivial⟩ [0, 0, 0, 0, 0] (by kernel_rfl)
   ·intro b0_ b1_ b2_ b3_ b4_ b5_ b10_ b11_ b12_ b13_ b14_ b15_ b16_ b17_ b18_ g2
    refine TL.move rfl rfl (v := .int .i64 (w64 (Int.tdiv (w64 ((s1.length : Int) * 3)) 2))) rfl ?_
    refine TL.done ?_
    exact TC.nrm () [] ⟨rfl, trivial⟩ [0, 0, 0, 0, 0] (by kernel_rfl)
   ·intro b0_ b1_ b2_ b3_ b4_ b5_ b10_ b11_ b12_ b13_ b14_ b15_ b16_ b17_ b18_ g2
    refine TL.neg .i64 (w64 (Int.tdiv (w64 ((s1.length : Int) * 3)) 2)) rfl rfl rfl ?_
    refine TL.done ?_
    exact TC.nrm () [] ⟨rfl, trivial⟩ [0, 0, 0, 0, 0] (by kernel_rfl)
   ·intro b0_ b1_ b2_ b3_ b4_ b5_ b10_ b11_ b12_ b13_ b14_ b15_ b16_ b17_ b18_ g2
    refine TL.bin .i64 (w64 (0 - (w64 (Int.tdiv (w64 ((s1.length : Int) * 3)) 2)))) 1 rfl rfl rfl rfl (v := .int .i64 (w64 ((w64 (0 - (w64 (Int.tdiv (w64 ((s1.length : Int) * 3)) 2)))) - 1))) rfl ?_
    refine TL.done ?_
    exact TC.nrm () [] ⟨rfl, trivial⟩ [0, 0, 0, 0, 0] (by kernel_rfl)
   ·intro b0_ b10_ b11_ b12_ b13_ b14_ b15_ b16_ b17_ b18_ g2
    refine TL.asL [emp, mat Ei 2 22 (gs (g1 8)) ((g1 9).set i1.toNat s4) (r_1.set i1.toNat ([(gt (gt s1 i1) 0), (w64 ((w64 (Int.tdiv (w64 ((s1.length : Int) * 3)) 2)) + 1)), (w64 ((w64 (0 - (w64 (Int.tdiv (w64 ((s1.length : Int) * 3)) 2)))) - 2))] : List Int)), emp, (bif b18_ then row Ei 2 (gs (g2 144)) ([(gt (gt s1 i1) 2), (w64 ((w64 (Int.tdiv (w64 ((s1.length : Int) * 3)) 2)) + 2)), (w64 ((w64 (0 - (w64 (Int.tdiv (w64 ((s1.length : Int) * 3)) 2)))) - 3))] : List Int) else emp), emp] (by kernel_rfl) ?_
    refine TL.blit Ei ([(gt (gt s1 i1) 1), (w64 ((w64 (Int.tdiv (w64 ((s1.length : Int) * 3)) 2)) + 3)), (w64 ((w64 (0 - (w64 (Int.tdiv (w64 ((s1.length : Int) * 3)) 2)))) - 1))] : List Int) Try.underlying22 Try.sizeOf2 Try.zeroValue2 rfl rfl rfl [(0, .int .i64 (gt (gt s1 i1) 1)), (1, .int .i64 (w64 ((w64 (Int.tdiv (w64 ((s1.length : Int) * 3)) 2)) + 3))), (2, .int .i64 (w64 ((w64 (0 - (w64 (Int.tdiv (w64 ((s1.length : Int) * 3)) 2)))) - 1)))] rfl ⟨rfl, rfl, rfl, rfl, rfl, rfl, trivial⟩ rfl rfl fun s5 => ?_
    refine TL.done ?_
    exact TC.nrm () [[s5]] ⟨rfl, trivial⟩ [1, 1, 0, 1, 1] (by kernel_rfl)
   ·intro b0_ b1_ b2_ b3_ b4_ b5_ b6_ b7_ b8_ b9_ b13_ b14_ b15_ b16_ b17_ g2
    refine TL.move rfl rfl (v := SV.v (gt ss1 i1)) rfl ?_
    refine TL.done ?_
    exact TC.nrm () [] ⟨rfl, trivial⟩ [0, 0, 0, 0, 0] (by kernel_rfl)
   ·intro b0_ b1_ b2_ b3_ b4_ b5_ b6_ b7_ b8_ b9_ b13_ b14_ b15_ b16_ b17_ g2
    refine TL.asL [emp, mat Ei 2 22 (gs (g1 8)) ((g1 9).set i1.toNat s4) (r_1.set i1.toNat ([(gt (gt s1 i1) 0), (w64 ((w64 (Int.tdiv (w64 ((s1.length : Int) * 3)) 2)) + 1)), (w64 ((w64 (0 - (w64 (Int.tdiv (w64 ((s1.length : Int) * 3)) 2)))) - 2))] : List Int)), (bif b9_ then row Ei 2 (gs (g2 72)) ([(gt (gt s1 i1) 1), (w64 ((w64 (Int.tdiv (w64 ((s1.length : Int) * 3)) 2)) + 3)), (w64 ((w64 (0 - (w64 (Int.tdiv (w64 ((s1.length : Int) * 3)) 2)))) - 1))] : List Int) else emp), emp, emp] (by kernel_rfl) ?_
    refine TL.ixs 2 2 (RdM.inn (RdM.old h1) h2) h7 Try.underlying22 Try.sizeOf2 rfl rfl rfl rfl rfl ?_
    refine TL.done ?_
    exact TC.nrm () [] ⟨rfl, trivial⟩ [0, 0, 0, 0, 0] (by kernel_rfl)
   ·intro b0_ b1_ b2_ b3_ b4_ b5_ b6_ b7_ b8_ b9_ b13_ b14_ b15_ b16_ b17_ g2
    refine TL.asL [emp, mat Ei 2 22 (gs (g1 8)) ((g1 9).set i1.toNat s4) (r_1.set i1.toNat ([(gt (gt s1 i1) 0), (w64 ((w64 (Int.tdiv (w64 ((s1.length : Int) * 3)) 2)) + 1)), (w64 ((w64 (0 - (w64 (Int.tdiv (w64 ((s1.length : Int) * 3)) 2)))) - 2))] : List Int)), (bif b9_ then row Ei 2 (gs (g2 72)) ([(gt (gt s1 i1) 1), (w64 ((w64 (Int.tdiv (w64 ((s1.length : Int) * 3)) 2)) + 3)), (w64 ((w64 (0 - (w64 (Int.tdiv (w64 ((s1.length : Int) * 3)) 2)))) - 1))] : List Int) else emp), emp, emp] (by kernel_rfl) ?_
    refine TL.loadE (RdM.inn (RdM.old h1) h2) Try.isAgg2 2 0 (gt_spec h7) (v := .int .i64 (gt (gt s1 i1) 2)) rfl rfl rfl rfl rfl ?_
    refine TL.done ?_
    exact TC.nrm () [] ⟨rfl, trivial⟩ [0, 0, 0, 0, 0] (by kernel_rfl)
   ·intro b0_ b1_ b2_ b3_ b4_ b5_ b6_ b7_ b8_ b9_ b10_ b11_ b12_ b15_ b16_ b17_ g2
    refine TL.move rfl rfl (v := .int .i64 (w64 (Int.tdiv (w64 ((s1.length : Int) * 3)) 2))) rfl ?_
    refine TL.done ?_
    exact TC.nrm () [] ⟨rfl, trivial⟩ [0, 0, 0, 0, 0] (by kernel_rfl)
   ·intro b0_ b1_ b2_ b3_ b4_ b5_ b6_ b7_ b8_ b9_ b10_ b11_ b12_ b15_ b16_ b17_ g2
    refine TL.bin .i64 (w64 (Int.tdiv (w64 ((s1.length : Int) * 3)) 2)) 2 rfl rfl rfl rfl (v := .int .i64 (w64 ((w64 (Int.tdiv (w64 ((s1.length : Int) * 3)) 2)) + 2))) rfl ?_
    refine TL.done ?_
    exact TC.nrm () [] ⟨rfl, trivial⟩ [0, 0, 0, 0, 0] (by kernel_rfl)
   ·intro b0_ b1_ b2_ b3_ b4_ b5_ b6_ b7_ b8_ b9_ b10_ b11_ b12_ b13_ b14_ g2
    refine TL.move rfl rfl (v := .int .i64 (w64 (Int.tdiv (w64 ((s1.length : Int) * 3)) 2))) rfl ?_
    refine TL.done ?_
    exact TC.nrm () [] ⟨rfl, trivial⟩ [0, 0, 0, 0, 0] (by kernel_rfl)
   ·intro b0_ b1_ b2_ b3_ b4_ b5_ b6_ b7_ b8_ b9_ b10_ b11_ b12_ b13_ b14_ g2
    refine TL.neg .i64 (w64 (Int.tdiv (w64 ((s1.length : Int) * 3)) 2)) rfl rfl rfl ?_
    refine TL.done ?_
    exact TC.nrm () [] ⟨rfl, trivial⟩ [0, 0, 0, 0, 0] (by kernel_rfl)
   ·intro b0_ b1_ b2_ b3_ b4_ b5_ b6_ b7_ b8_ b9_ b10_ b11_ b12_ b13_ b14_ g2
    refine TL.bin .i64 (w64 (0 - (w64 (Int.tdiv (w64 ((s1.length : Int) * 3)) 2)))) 3 rfl rfl rfl rfl (v := .int .i64 (w64 ((w64 (0 - (w64 (Int.tdiv (w64 ((s1.length : Int) * 3)) 2)))) - 3))) rfl ?_
    refine TL.done ?_
    exact TC.nrm () [] ⟨rfl, trivial⟩ [0, 0, 0, 0, 0] (by kernel_rfl)
   ·intro b0_ b1_ b2_ b3_ b4_ b5_ b6_ b7_ b8_ b9_ g2
    refine TL.asL [emp, mat Ei 2 22 (gs (g1 8)) ((g1 9).set i1.toNat s4) (r_1.set i1.toNat ([(gt (gt s1 i1) 0), (w64 ((w64 (Int.tdiv (w64 ((s1.length : Int) * 3)) 2)) + 1)), (w64 ((w64 (0 - (w64 (Int.tdiv (w64 ((s1.length : Int) * 3)) 2)))) - 2))] : List Int)), (bif b9_ then row Ei 2 (gs (g2 72)) ([(gt (gt s1 i1) 1), (w64 ((w64 (Int.tdiv (w64 ((s1.length : Int) * 3)) 2)) + 3)), (w64 ((w64 (0 - (w64 (Int.tdiv (w64 ((s1.length : Int) * 3)) 2)))) - 1))] : List Int) else emp), emp, emp] (by kernel_rfl) ?_
    refine TL.blit Ei ([(gt (gt s1 i1) 2), (w64 ((w64 (Int.tdiv (w64 ((s1.length : Int) * 3)) 2)) + 2)), (w64 ((w64 (0 - (w64 (Int.tdiv (w64 ((s1.length : Int) * 3)) 2)))) - 3))] : List Int) Try.underlying22 Try.sizeOf2 Try.zeroValue2 rfl rfl rfl [(0, .int .i64 (gt (gt s1 i1) 2)), (1, .int .i64 (w64 ((w64 (Int.tdiv (w64 ((s1.length : Int) * 3)) 2)) + 2))), (2, .int .i64 (w64 ((w64 (0 - (w64 (Int.tdiv (w64 ((s1.length : Int) * 3)) 2)))) - 3)))] rfl ⟨rfl, rfl, rfl, rfl, rfl, rfl, trivial⟩ rfl rfl fun s6 => ?_
    refine TL.done ?_
    exact TC.nrm () [[s6]] ⟨rfl, trivial⟩ [1, 1, 1, 0, 1] (by kernel_rfl)
   ·intro b0_ g2
    refine TL.asL [emp, mat Ei 2 22 (gs (g1 8)) ((g1 9).set i1.toNat s4) (r_1.set i1.toNat ([(gt (gt s1 i1) 0), (w64 ((w64 (Int.tdiv (w64 ((s1.length : Int) * 3)) 2)) + 1)), (w64 ((w64 (0 - (w64 (Int.tdiv (w64 ((s1.length : Int) * 3)) 2)))) - 2))] : List Int)), row Ei 2 (gs (g2 72)) ([(gt (gt s1 i1) 1), (w64 ((w64 (Int.tdiv (w64 ((s1.length : Int) * 3)) 2)) + 3)), (w64 ((w64 (0 - (w64 (Int.tdiv (w64 ((s1.length : Int) * 3)) 2)))) - 1))] : List Int), row Ei 2 (gs (g2 144)) ([(gt (gt s1 i1) 2), (w64 ((w64 (Int.tdiv (w64 ((s1.length : Int) * 3)) 2)) + 2)), (w64 ((w64 (0 - (w64 (Int.tdiv (w64 ((s1.length : Int) * 3)) 2)))) - 3))] : List Int), emp] (by kernel_rfl) ?_
    refine TL.blit Ev ([(gs (g2 72)), (gs (g2 144))] : List SV) Try.underlying32 Try.sizeOf22 Try.zeroValue22 rfl rfl rfl [(0, SV.v (gs (g2 72))), (1, SV.v (gs (g2 144)))] rfl ⟨rfl, rfl, rfl, rfl, trivial⟩ rfl rfl fun s7 => ?_
    refine TL.done ?_
    exact TC.nrm () [[s7]] ⟨rfl, trivial⟩ [1, 1, 1, 1, 0] (by kernel_rfl)
   ·intro g2
    refine TL.asL [emp, mat Ei 2 22 (gs (g1 8)) ((g1 9).set i1.toNat s4) (r_1.set i1.toNat ([(gt (gt s1 i1) 0), (w64 ((w64 (Int.tdiv (w64 ((s1.length : Int) * 3)) 2)) + 1)), (w64 ((w64 (0 - (w64 (Int.tdiv (w64 ((s1.length : Int) * 3)) 2)))) - 2))] : List Int)), row Ei 2 (gs (g2 72)) ([(gt (gt s1 i1) 1), (w64 ((w64 (Int.tdiv (w64 ((s1.length : Int) * 3)) 2)) + 3)), (w64 ((w64 (0 - (w64 (Int.tdiv (w64 ((s1.length : Int) * 3)) 2)))) - 1))] : List Int), row Ei 2 (gs (g2 144)) ([(gt (gt s1 i1) 2), (w64 ((w64 (Int.tdiv (w64 ((s1.length : Int) * 3)) 2)) + 2)), (w64 ((w64 (0 - (w64 (Int.tdiv (w64 ((s1.length : Int) * 3)) 2)))) - 3))] : List Int), row Ev 22 (gs (g2 152)) ([(gs (g2 72)), (gs (g2 144))] : List SV)] (by kernel_rfl) ?_
    refine TL.matlen 1 rfl fun h9 => ?_
    refine TL.matcut 1 rfl ?_
    refine TL.append 0 rfl (Rd.row 5 rfl) Try.underlying32 (info_of Try.type22) (zv := (Try.t22.zero.getD (.bool false))) rfl rfl rfl (by decide) (by have h_ := h8; have l_ := h9; (try simp only [List.length_cons, List.length_nil] at h_ l_ ⊢); omega) rfl rfl rfl rfl fun s8 => ?_
    refine TL.rowsPush 2 3 rfl rfl ?_
    refine TL.rowsPush 3 4 rfl rfl ?_
    refine TL.asL [row Ev 22 s8 (((g1 9).set i1.toNat s4) ++ [(gs (g2 72)), (gs (g2 144))]), emp, emp, emp, rows Ei 2 (((g1 9).set i1.toNat s4) ++ [(gs (g2 72)), (gs (g2 144))]) ((r_1.set i1.toNat ([(gt (gt s1 i1) 0), (w64 ((w64 (Int.tdiv (w64 ((s1.length : Int) * 3)) 2)) + 1)), (w64 ((w64 (0 - (w64 (Int.tdiv (w64 ((s1.length : Int) * 3)) 2)))) - 2))] : List Int)) ++ [([(gt (gt s1 i1) 1), (w64 ((w64 (Int.tdiv (w64 ((s1.length : Int) * 3)) 2)) + 3)), (w64 ((w64 (0 - (w64 (Int.tdiv (w64 ((s1.length : Int) * 3)) 2)))) - 1))] : List Int), ([(gt (gt s1 i1) 2), (w64 ((w64 (Int.tdiv (w64 ((s1.length : Int) * 3)) 2)) + 2)), (w64 ((w64 (0 - (w64 (Int.tdiv (w64 ((s1.length : Int) * 3)) 2)))) - 3))] : List Int)]), row Ev 22 (gs (g2 152)) ([(gs (g2 72)), (gs (g2 144))] : List SV)] (by simp only [List.append_assoc, List.cons_append, List.nil_append]; rfl) ?_
    refine TL.matmk 0 4 rfl rfl ?_
    refine TL.drop 0 rfl ?_
    refine TL.asL [emp, emp, emp, mat Ei 2 22 s8 (((g1 9).set i1.toNat s4) ++ [(gs (g2 72)), (gs (g2 144))]) ((r_1.set i1.toNat ([(gt (gt s1 i1) 0), (w64 ((w64 (Int.tdiv (w64 ((s1.length : Int) * 3)) 2)) + 1)), (w64 ((w64 (0 - (w64 (Int.tdiv (w64 ((s1.length : Int) * 3)) 2)))) - 2))] : List Int)) ++ [([(gt (gt s1 i1) 1), (w64 ((w64 (Int.tdiv (w64 ((s1.length : Int) * 3)) 2)) + 3)), (w64 ((w64 (0 - (w64 (Int.tdiv (w64 ((s1.length : Int) * 3)) 2)))) - 1))] : List Int), ([(gt (gt s1 i1) 2), (w64 ((w64 (Int.tdiv (w64 ((s1.length : Int) * 3)) 2)) + 2)), (w64 ((w64 (0 - (w64 (Int.tdiv (w64 ((s1.length : Int) * 3)) 2)))) - 3))] : List Int)]), row Ev 22 (gs (g2 152)) ([(gs (g2 72)), (gs (g2 144))] : List SV)] (by kernel_rfl) ?_
    refine TL.done ?_
    exact TC.nrm () [[s8]] ⟨rfl, trivial⟩ [0, 0, 0, 0, 0] (by kernel_rfl)
   ·intro g2
    refine TL.assign rfl rfl (v := SV.v (gs (g2 160))) rfl ?_
    refine TL.done ?_
    exact TC.nrm () [] ⟨rfl, trivial⟩ [0, 0, 0, 0, 0] (by kernel_rfl)
  ·intro g2
   refine TC.asL [emp, emp, emp, mat Ei 2 22 (gs (g2 160)) (((g1 9).set i1.toNat s4) ++ [(gs (g2 72)), (gs (g2 144))]) ((r_1.set i1.toNat ([(gt (gt s1 i1) 0), (w64 ((w64 (Int.tdiv (w64 ((s1.length : Int) * 3)) 2)) + 1)), (w64 ((w64 (0 - (w64 (Int.tdiv (w64 ((s1.length : Int) * 3)) 2)))) - 2))] : List Int)) ++ [([(gt (gt s1 i1) 1), (w64 ((w64 (Int.tdiv (w64 ((s1.length : Int) * 3)) 2)) + 3)), (w64 ((w64 (0 - (w64 (Int.tdiv (w64 ((s1.length : Int) * 3)) 2)))) - 1))] : List Int), ([(gt (gt s1 i1) 2), (w64 ((w64 (Int.tdiv (w64 ((s1.length : Int) * 3)) 2)) + 2)), (w64 ((w64 (0 - (w64 (Int.tdiv (w64 ((s1.length : Int) * 3)) 2)))) - 3))] : List Int)]), row Ev 22 (gs (g2 152)) ([(gs (g2 72)), (gs (g2 144))] : List SV)] (by kernel_rfl) ?_
   exact TC.retF (Fin.body (fin1 (.inr rfl) rfl (.tmp rfl) [3] rfl ⟨(gs (g2 160)), (((g1 9).set i1.toNat s4) ++ [(gs (g2 72)), (gs (g2 144))]), rfl, rfl⟩))

end Go.Proofs.Ytiiljfpbcanphaa.G

/- spec.l07Named, as a pure function. -/
set_option linter.unusedVariables false
namespace Go.Proofs.Ytiiljfpbcanphaa.G
open Go Go.Sx Go.Proofs

def spec_l07Named.f (name1 : Str) : Option ((List (List Int)) × Bool) := (bif (name1 == ([115, 112, 104, 101, 114, 101] : Str)) then some (([([1, 2, 3] : List Int), ([(-3), (-2), (-1)] : List Int)] : List (List Int)), true) else (bif (name1 == ([116, 111, 114, 117, 115] : Str)) then some (([([1, 2, (-3)] : List Int), ([3, (-1), (-2)] : List Int)] : List (List Int)), true) else (bif (name1 == ([112, 108, 97, 110, 101] : Str)) then some (([([1, 2, (-3)] : List Int), ([3, 1, 2] : List Int)] : List (List Int)), true) else (bif (name1 == ([98, 111, 116, 116, 108, 101] : Str)) then some (([([1, 2, (-3)] : List Int), ([3, 1, (-2)] : List Int)] : List (List Int)), true) else (bif (name1 == ([100, 111, 117, 98, 108, 101] : Str)) then some (([([1, 2, (-5)] : List Int), ([5, (-1), 6] : List Int), ([(-6), (-2), 7] : List Int), ([(-7), 3, 8] : List Int), ([(-8), 4, 9] : List Int), ([(-9), (-3), (-4)] : List Int)] : List (List Int)), true) else some (([] : List (List Int)), false))))))

def spec_l07Named.R (r : (List (List Int)) × Bool) (v : Value) (L : List Asn) : Prop := ∃ (s0 : SV) (ss0 : List SV), v = .tuple #[SV.v s0, .bool r.2] ∧ L = [mat Ei 2 22 s0 ss0 r.1]

set_option maxRecDepth 100000 in
set_option maxHeartbeats 4000000 in
theorem spec_l07Named.calls (w : World) (name1 : Str) :
  ∀ r, spec_l07Named.f name1 = some r → Calls Try.prog 136 #[strv name1] w (Ret w (spec_l07Named.R r)) := by

 refine calls_T (n := 34) (Γ := [(0, strv name1)]) (R := spec_l07Named.R) Try.func136 rfl rfl (Nat.le_of_ble_eq_true rfl) ⟨rfl, trivial⟩ ?_
 unfold spec_l07Named.f
 refine TC.seq ?_
 refine TC.region ?_
 refine TL.assign rfl rfl (v := SV.v ⟨none, 0, 0⟩) rfl ?_
 refine TL.assign rfl rfl (v := .bool false) rfl ?_
 refine TL.done ?_
 refine TC.seq ?_
 refine TC.seq ?_
 refine TC.region ?_
 refine TL.move rfl rfl (v := strv name1) rfl ?_
 refine TL.done ?_
 refine TC.block NoEx.body ?_
 refine TC.seq ?_
 refine TC.region ?_
 refine TL.strEq name1 ([115, 112, 104, 101, 114, 101] : Str) rfl rfl rfl rfl ?_
 refine TL.assign rfl rfl (v := .bool (name1 == ([115, 112, 104, 101, 114, 101] : Str))) rfl ?_
 refine TL.done ?_
 refine TC.cond (b := (name1 == ([115, 112, 104, 101, 114, 101] : Str))) rfl (fun c1 => ?_) (fun c2 => ?_)
 ·refine TC.seq ?_
  refine TC.region ?_
  refine TL.blit Ei ([1, 2, 3] : List Int) Try.underlying22 Try.sizeOf2 Try.zeroValue2 rfl rfl rfl [(0, .int .i64 1), (1, .int .i64 2), (2, .int .i64 3)] rfl ⟨rfl, rfl, rfl, rfl, rfl, rfl, trivial⟩ rfl rfl fun s1 => ?_
  refine TL.blit Ei ([(-3), (-2), (-1)] : List Int) Try.underlying22 Try.sizeOf2 Try.zeroValue2 rfl rfl rfl [(0, .int .i64 (-3)), (1, .int .i64 (-2)), (2, .int .i64 (-1))] rfl ⟨rfl, rfl, rfl, rfl, rfl, rfl, trivial⟩ rfl rfl fun s2 => ?_
  refine TL.blit Ev ([s1, s2] : List SV) Try.underlying32 Try.sizeOf22 Try.zeroValue22 rfl rfl rfl [(0, SV.v s1), (1, SV.v s2)] rfl ⟨rfl, rfl, rfl, rfl, trivial⟩ rfl rfl fun s3 => ?_
  refine TL.rows0 Ei 2 ?_
  refine TL.rowsPush 0 3 rfl rfl ?_
  refine TL.rowsPush 3 2 rfl rfl ?_
  refine TL.matmk 1 2 rfl rfl ?_
  refine TL.asL [emp, emp, mat Ei 2 22 s3 ([s1, s2] : List SV) ([([1, 2, 3] : List Int), ([(-3), (-2), (-1)] : List Int)] : List (List Int)), emp] (by kernel_rfl) ?_
  refine TL.assign rfl rfl (v := SV.v s3) rfl ?_
  refine TL.assign rfl rfl (v := .bool true) rfl ?_
  refine TL.done ?_
  exact TC.retF (Fin.body (fin2 (.inr rfl) rfl (.tmp rfl) (.tmp rfl) [2] rfl ⟨s3, ([s1, s2] : List SV), rfl, rfl⟩))
 ·refine TC.seq ?_
  refine TC.region ?_
  refine TL.strEq name1 ([116, 111, 114, 117, 115] : Str) rfl rfl rfl rfl ?_
  refine TL.assign rfl rfl (v := .bool (name1 == ([116, 111, 114, 117, 115] : Str))) rfl ?_
  refine TL.done ?_
  refine TC.cond (b := (name1 == ([116, 111, 114, 117, 115] : Str))) rfl (fun c3 => ?_) (fun c4 => ?_)
  ·refine TC.seq ?_
   refine TC.region ?_
   refine TL.blit Ei ([1, 2, (-3)] : List Int) Try.underlying22 Try.sizeOf2 Try.zeroValue2 rfl rfl rfl [(0, .int .i64 1), (1, .int .i64 2), (2, .int .i64 (-3))] rfl ⟨rfl, rfl, rfl, rfl, rfl, rfl, trivial⟩ rfl rfl fun s4 => ?_
   refine TL.blit Ei ([3, (-1), (-2)] : List Int) Try.underlying22 Try.sizeOf2 Try.zeroValue2 rfl rfl rfl [(0, .int .i64 3), (1, .int .i64 (-1)), (2, .int .i64 (-2))] rfl ⟨rfl, rfl, rfl, rfl, rfl, rfl, trivial⟩ rfl rfl fun s5 => ?_
   refine TL.blit Ev ([s4, s5] : List SV) Try.underlying32 Try.sizeOf22 Try.zeroValue22 rfl rfl rfl [(0, SV.v s4), (1, SV.v s5)] rfl ⟨rfl, rfl, rfl, rfl, trivial⟩ rfl rfl fun s6 => ?_
   refine TL.rows0 Ei 2 ?_
   refine TL.rowsPush 0 3 rfl rfl ?_
   refine TL.rowsPush 3 2 rfl rfl ?_
   refine TL.matmk 1 2 rfl rfl ?_
   refine TL.asL [emp, emp, mat Ei 2 22 s6 ([s4, s5] : List SV) ([([1, 2, (-3)] : List Int), ([3, (-1), (-2)] : List Int)] : List (List Int)), emp] (by kernel_rfl) ?_
   refine TL.assign rfl rfl (v := SV.v s6) rfl ?_
   refine TL.assign rfl rfl (v := .bool true) rfl ?_
   refine TL.done ?_
   exact TC.retF (Fin.body (fin2 (.inr rfl) rfl (.tmp rfl) (.tmp rfl) [2] rfl ⟨s6, ([s4, s5] : List SV), rfl, rfl⟩))
  ·refine TC.seq ?_
   refine TC.region ?_
   refine TL.strEq name1 ([112, 108, 97, 110, 101] : Str) rfl rfl rfl rfl ?_
   refine TL.assign rfl rfl (v := .bool (name1 == ([112, 108, 97, 110, 101] : Str))) rfl ?_
   refine TL.done ?_
   refine TC.cond (b := (name1 == ([112, 108, 97, 110, 101] : Str))) rfl (fun c5 => ?_) (fun c6 => ?_)
   ·refine TC.seq ?_
    refine TC.region ?_
    refine TL.blit Ei ([1, 2, (-3)] : List Int) Try.underlying22 Try.sizeOf2 Try.zeroValue2 rfl rfl rfl [(0, .int .i64 1), (1, .int .i64 2), (2, .int .i64 (-3))] rfl ⟨rfl, rfl, rfl, rfl, rfl, rfl, trivial⟩ rfl rfl fun s7 => ?_
    refine TL.blit Ei ([3, 1, 2] : List Int) Try.underlying22 Try.sizeOf2 Try.zeroValue2 rfl rfl rfl [(0, .int .i64 3), (1, .int .i64 1), (2, .int .i64 2)] rfl ⟨rfl, rfl, rfl, rfl, rfl, rfl, trivial⟩ rfl rfl fun s8 => ?_
    refine TL.blit Ev ([s7, s8] : List SV) Try.underlying32 Try.sizeOf22 Try.zeroValue22 rfl rfl rfl [(0, SV.v s7), (1, SV.v s8)] rfl ⟨rfl, rfl, rfl, rfl, trivial⟩ rfl rfl fun s9 => ?_
    refine TL.rows0 Ei 2 ?_
    refine TL.rowsPush 0 3 rfl rfl ?_
    refine TL.rowsPush 3 2 rfl rfl ?_
    refine TL.matmk 1 2 rfl rfl ?_
    refine TL.asL [emp, emp, mat Ei 2 22 s9 ([s7, s8] : List SV) ([([1, 2, (-3)] : List Int), ([3, 1, 2] : List Int)] : List (List Int)), emp] (by kernel_rfl) ?_
    refine TL.assign rfl rfl (v := SV.v s9) rfl ?_
    refine TL.assign rfl rfl (v := .bool true) rfl ?_
    refine TL.done ?_
    exact TC.retF (Fin.body (fin2 (.inr rfl) rfl (.tmp rfl) (.tmp rfl) [2] rfl ⟨s9, ([s7, s8] : List SV), rfl, rfl⟩))
   ·refine TC.seq ?_
    refine TC.region ?_
    refine TL.strEq name1 ([98, 111, 116, 116, 108, 101] : Str) rfl rfl rfl rfl ?_
    refine TL.assign rfl rfl (v := .bool (name1 == ([98, 111, 116, 116, 108, 101] : Str))) rfl ?_
    refine TL.done ?_
    refine TC.cond (b := (name1 == ([98, 111, 116, 116, 108, 101] : Str))) rfl (fun c7 => ?_) (fun c8 => ?_)
    ·refine TC.seq ?_
     refine TC.region ?_
     refine TL.blit Ei ([1, 2, (-3)] : List Int) Try.underlying22 Try.sizeOf2 Try.zeroValue2 rfl rfl rfl [(0, .int .i64 1), (1, .int .i64 2), (2, .int .i64 (-3))] rfl ⟨rfl, rfl, rfl, rfl, rfl, rfl, trivial⟩ rfl rfl fun s10 => ?_
     refine TL.blit Ei ([3, 1, (-2)] : List Int) Try.underlying22 Try.sizeOf2 Try.zeroValue2 rfl rfl rfl [(0, .int .i64 3), (1, .int .i64 1), (2, .int .i64 (-2))] rfl ⟨rfl, rfl, rfl, rfl, rfl, rfl, trivial⟩ rfl rfl fun s11 => ?_
     refine TL.blit Ev ([s10, s11] : List SV) Try.underlying32 Try.sizeOf22 Try.zeroValue22 rfl rfl rfl [(0, SV.v s10), (1, SV.v s11)] rfl ⟨rfl, rfl, rfl, rfl, trivial⟩ rfl rfl fun s12 => ?_
     refine TL.rows0 Ei 2 ?_
     refine TL.rowsPush 0 3 rfl rfl ?_
     refine TL.rowsPush 3 2 rfl rfl ?_
     refine TL.matmk 1 2 rfl rfl ?_
     refine TL.asL [emp, emp, mat Ei 2 22 s12 ([s10, s11] : List SV) ([([1, 2, (-3)] : List Int), ([3, 1, (-2)] : List Int)] : List (List Int)), emp] (by kernel_rfl) ?_
     refine TL.assign rfl rfl (v := SV.v s12) rfl ?_
     refine TL.assign rfl rfl (v := .bool true) rfl ?_
     refine TL.done ?_
     exact TC.retF (Fin.body (fin2 (.inr rfl) rfl (.tmp rfl) (.tmp rfl) [2] rfl ⟨s12, ([s10, s11] : List SV), rfl, rfl⟩))
    ·refine TC.seq ?_
     refine TC.region ?_
     refine TL.strEq name1 ([100, 111, 117, 98, 108, 101] : Str) rfl rfl rfl rfl ?_
     refine TL.assign rfl rfl (v := .bool (name1 == ([100, 111, 117, 98, 108, 101] : Str))) rfl ?_
     refine TL.done ?_
     refine TC.cond (b := (name1 == ([100, 111, 117, 98, 108, 101] : Str))) rfl (fun c9 => ?_) (fun c10 => ?_)
     ·refine TC.seq ?_
      refine TC.region ?_
      refine TL.blit Ei ([1, 2, (-5)] : List Int) Try.underlying22 Try.sizeOf2 Try.zeroValue2 rfl rfl rfl [(0, .int .i64 1), (1, .int .i64 2), (2, .int .i64 (-5))] rfl ⟨rfl, rfl, rfl, rfl, rfl, rfl, trivial⟩ rfl rfl fun s13 => ?_
      refine TL.blit Ei ([5, (-1), 6] : List Int) Try.underlying22 Try.sizeOf2 Try.zeroValue2 rfl rfl rfl [(0, .int .i64 5), (1, .int .i64 (-1)), (2, .int .i64 6)] rfl ⟨rfl, rfl, rfl, rfl, rfl, rfl, trivial⟩ rfl rfl fun s14 => ?_
      refine TL.blit Ei ([(-6), (-2), 7] : List Int) Try.underlying22 Try.sizeOf2 Try.zeroValue2 rfl rfl rfl [(0, .int .i64 (-6)), (1, .int .i64 (-2)), (2, .int .i64 7)] rfl ⟨rfl, rfl, rfl, rfl, rfl, rfl, trivial⟩ rfl rfl fun s15 => ?_
      refine TL.blit Ei ([(-7), 3, 8] : List Int) Try.underlying22 Try.sizeOf2 Try.zeroValue2 rfl rfl rfl [(0, .int .i64 (-7)), (1, .int .i64 3), (2, .int .i64 8)] rfl ⟨rfl, rfl, rfl, rfl, rfl, rfl, trivial⟩ rfl rfl fun s16 => ?_
      refine TL.blit Ei ([(-8), 4, 9] : List Int) Try.underlying22 Try.sizeOf2 Try.zeroValue2 rfl rfl rfl [(0, .int .i64 (-8)), (1, .int .i64 4), (2, .int .i64 9)] rfl ⟨rfl, rfl, rfl, rfl, rfl, rfl, trivial⟩ rfl rfl fun s17 => ?_
      refine TL.blit Ei ([(-9), (-3), (-4)] : List Int) Try.underlying22 Try.sizeOf2 Try.zeroValue2 rfl rfl rfl [(0, .int .i64 (-9)), (1, .int .i64 (-3)), (2, .int .i64 (-4))] rfl ⟨rfl, rfl, rfl, rfl, rfl, rfl, trivial⟩ rfl rfl fun s18 => ?_
      refine TL.blit Ev ([s13, s14, s15, s16, s17, s18] : List SV) Try.underlying32 Try.sizeOf22 Try.zeroValue22 rfl rfl rfl [(0, SV.v s13), (1, SV.v s14), (2, SV.v s15), (3, SV.v s16), (4, SV.v s17), (5, SV.v s18)] rfl ⟨rfl, rfl, rfl, rfl, rfl, rfl, rfl, rfl, rfl, rfl, rfl, rfl, trivial⟩ rfl rfl fun s19 => ?_
      refine TL.rows0 Ei 2 ?_
      refine TL.rowsPush 0 7 rfl rfl ?_
      refine TL.rowsPush 7 6 rfl rfl ?_
      refine TL.rowsPush 6 5 rfl rfl ?_
      refine TL.rowsPush 5 4 rfl rfl ?_
      refine TL.rowsPush 4 3 rfl rfl ?_
      refine TL.rowsPush 3 2 rfl rfl ?_
      refine TL.matmk 1 2 rfl rfl ?_
      refine TL.asL [emp, emp, mat Ei 2 22 s19 ([s13, s14, s15, s16, s17, s18] : List SV) ([([1, 2, (-5)] : List Int), ([5, (-1), 6] : List Int), ([(-6), (-2), 7] : List Int), ([(-7), 3, 8] : List Int), ([(-8), 4, 9] : List Int), ([(-9), (-3), (-4)] : List Int)] : List (List Int)), emp, emp, emp, emp, emp] (by kernel_rfl) ?_
      refine TL.assign rfl rfl (v := SV.v s19) rfl ?_
      refine TL.assign rfl rfl (v := .bool true) rfl ?_
      refine TL.done ?_
      exact TC.retF (Fin.body (fin2 (.inr rfl) rfl (.tmp rfl) (.tmp rfl) [2] rfl ⟨s19, ([s13, s14, s15, s16, s17, s18] : List SV), rfl, rfl⟩))
     ·refine TC.skip ?_
      refine TC.seq ?_
      refine TC.region ?_
      refine TL.assign rfl rfl (v := SV.v ⟨none, 0, 0⟩) rfl ?_
      refine TL.assign rfl rfl (v := .bool false) rfl ?_
      refine TL.done ?_
      refine TC.nilmat Ei 2 22 ?_
      exact TC.retF (Fin.body (fin2 (.inr rfl) rfl (.tmp rfl) (.tmp rfl) [0] rfl ⟨⟨none, 0, 0⟩, [], rfl, rfl⟩))

end Go.Proofs.Ytiiljfpbcanphaa.G

/- spec.l07Draw, as a pure function. -/
set_option linter.unusedVariables false
namespace Go.Proofs.Ytiiljfpbcanphaa.G
open Go Go.Sx Go.Proofs

def spec_l07Draw.b0 (x1 : List UInt8) : Int × Int × (List (List Int)) × Int → Option (LB (Int × Int × (List (List Int)) × Int)) := fun p => match p with | (y5, y6, x4, x5) => (bif ((decide (x5 > 0)) && (decide ((x4.length : Int) ≤ 6))) then (G.spec_l01Next.f x1 y5 y6 (x4.length : Int)).bind (fun p => match p with | (r_5, y7, y8) => (G.spec_l07Split.f x4 r_5).bind (fun r_6 => some (.next (y7, y8, r_6, (w64 (x5 - 1)))))) else some (.brk (y5, y6, x4, x5)))

def spec_l07Draw.b1 (x1 : List UInt8) : Int × Int × (List (List Int)) × Int → Option (LB (Int × Int × (List (List Int)) × Int)) := fun p => match p with | (y11, y12, x6, x7) => (bif (decide (x7 > 0)) then (G.spec_l07Oriented.f x6).bind (fun r_8 => some r_8) else some false).bind (fun b_2 => (bif b_2 then (G.spec_l01Next.f x1 y11 y12 (w64 (Int.tdiv (w64 ((x6.length : Int) * 3)) 2))).bind (fun p => match p with | (r_9, y13, y14) => (G.spec_l07Flip.f x6 (w64 (1 + r_9))).bind (fun p => match p with | (r_10, r_11) => ((bif r_11 then some r_10 else some x6)).bind (fun x8 => some (.next (y13, y14, x8, (w64 (x7 - 1))))))) else some (.brk (y11, y12, x6, x7))))

def spec_l07Draw.f (x1 : List UInt8) (x2 : Int) (x3 : Int) : Option ((List (List Int)) × Int × Int) := (G.spec_l01Next.f x1 x2 x3 7).bind (fun p => match p with | (r_1, y1, y2) => chk r_1 (([([115, 112, 104, 101, 114, 101] : Str), ([116, 111, 114, 117, 115] : Str), ([115, 112, 104, 101, 114, 101] : Str), ([116, 111, 114, 117, 115] : Str), ([112, 108, 97, 110, 101] : Str), ([98, 111, 116, 116, 108, 101] : Str), ([100, 111, 117, 98, 108, 101] : Str)] : List Str).length) ((G.spec_l07Named.f (gt ([([115, 112, 104, 101, 114, 101] : Str), ([116, 111, 114, 117, 115] : Str), ([115, 112, 104, 101, 114, 101] : Str), ([116, 111, 114, 117, 115] : Str), ([112, 108, 97, 110, 101] : Str), ([98, 111, 116, 116, 108, 101] : Str), ([100, 111, 117, 98, 108, 101] : Str)] : List Str) r_1)).bind (fun p => match p with | (r_2, r_3) => (G.spec_l01Next.f x1 y1 y2 3).bind (fun p => match p with | (r_4, y3, y4) => (loop1 (spec_l07Draw.b0 x1) (y3, y4, r_2, r_4)).bind (fun p => match p with | (y5, y6, x4, x5) => (G.spec_l01Next.f x1 y5 y6 4).bind (fun p => match p with | (r_7, y9, y10) => (loop1 (spec_l07Draw.b1 x1) (y9, y10, x4, r_7)).bind (fun p => match p with | (y11, y12, x6, x7) => (G.spec_l01Next.f x1 y11 y12 4).bind (fun p => match p with | (r_12, y15, y16) => ((bif (r_12 == 0) then (G.spec_l01Next.f x1 y15 y16 (x6.length : Int)).bind (fun p => match p with | (r_13, y24, y25) => chk r_13 x6.length ((G.spec_l07Over.f (gt x6 r_13)).bind (fun r_14 => some (y24, y25, (x6.set r_13.toNat r_14))))) else some (y15, y16, x6))).bind (fun p => match p with | (y22, y23, l2) => (G.spec_l01Next.f x1 y22 y23 12).bind (fun p => match p with | (r_15, y26, y27) => ((bif ((r_15 == 0) && (decide ((l2.length : Int) ≤ 6))) then small (l2.length + 2) (some (l2 ++ [([(w64 ((w64 (Int.tdiv (w64 ((l2.length : Int) * 3)) 2)) + 1)), (w64 ((w64 (Int.tdiv (w64 ((l2.length : Int) * 3)) 2)) + 2)), (w64 ((w64 (Int.tdiv (w64 ((l2.length : Int) * 3)) 2)) + 3))] : List Int), ([(w64 ((w64 (0 - (w64 (Int.tdiv (w64 ((l2.length : Int) * 3)) 2)))) - 3)), (w64 ((w64 (0 - (w64 (Int.tdiv (w64 ((l2.length : Int) * 3)) 2)))) - 2)), (w64 ((w64 (0 - (w64 (Int.tdiv (w64 ((l2.length : Int) * 3)) 2)))) - 1))] : List Int)])) else some l2)).bind (fun x9 => some (x9, y26, y27))))))))))))

def spec_l07Draw.R (b_1 : Nat) (s1 : SV) (r : (List (List Int)) × Int × Int) (v : Value) (L : List Asn) : Prop := ∃ (s0 : SV) (ss0 : List SV), v = SV.v s0 ∧ L = [mat Ei 2 22 s0 ss0 r.1, box b_1 143 [.one (SV.v s1), .one (.int .i64 r.2.1), .one (.int .u64 r.2.2)]]

set_option maxRecDepth 100000 in
set_option maxHeartbeats 4000000 in
theorem spec_l07Draw.calls (w0 : World) (I : Hp) (w : World) (b_1 : Nat) (s1 : SV) (x1 : List UInt8) (x2 : Int) (x3 : Int) (hS : St w0 I [box b_1 143 [.one (SV.v s1), .one (.int .i64 x2), .one (.int .u64 x3)]] w) (h1 : Reads Eu I s1 x1) :
  ∀ r, spec_l07Draw.f x1 x2 x3 = some r → Calls Try.prog 164 #[bp b_1 0] w (RetM w0 I ((spec_l07Draw.R b_1 s1) r)) := by

 refine calls_TM (w0 := w0) (I := I) (L := [box b_1 143 [.one (SV.v s1), .one (.int .i64 x2), .one (.int .u64 x3)]]) (n := 111) (Γ := [(0, bp b_1 0)]) (R := (spec_l07Draw.R b_1 s1)) Try.func164 rfl rfl (Nat.le_of_ble_eq_true rfl) ⟨rfl, trivial⟩ ?_ w hS
 unfold spec_l07Draw.f
 refine TC.seq ?_
 refine TC.region ?_
 refine TL.assign rfl rfl (v := SV.v ⟨none, 0, 0⟩) rfl ?_
 refine TL.done ?_
 refine TC.seq ?_
 refine TC.region ?_
 refine TL.blit Es ([([115, 112, 104, 101, 114, 101] : Str), ([116, 111, 114, 117, 115] : Str), ([115, 112, 104, 101, 114, 101] : Str), ([116, 111, 114, 117, 115] : Str), ([112, 108, 97, 110, 101] : Str), ([98, 111, 116, 116, 108, 101] : Str), ([100, 111, 117, 98, 108, 101] : Str)] : List Str) Try.underlying117 Try.sizeOf9 Try.zeroValue9 rfl rfl rfl [(0, strv ([115, 112, 104, 101, 114, 101] : Str)), (1, strv ([116, 111, 114, 117, 115] : Str)), (2, strv ([115, 112, 104, 101, 114, 101] : Str)), (3, strv ([116, 111, 114, 117, 115] : Str)), (4, strv ([112, 108, 97, 110, 101] : Str)), (5, strv ([98, 111, 116, 116, 108, 101] : Str)), (6, strv ([100, 111, 117, 98, 108, 101] : Str))] rfl ⟨rfl, rfl, rfl, rfl, rfl, rfl, rfl, rfl, rfl, rfl, rfl, rfl, rfl, rfl, trivial⟩ rfl rfl fun s2 => ?_
 refine TL.assign rfl rfl (v := SV.v s2) rfl ?_
 refine TL.done ?_
 refine TC.seq ?_
 refine TC.region ?_
 refine TL.move rfl rfl (v := SV.v s2) rfl ?_
 refine TL.move rfl rfl (v := bp b_1 0) rfl ?_
 refine TL.callX (R := G.spec_l01Next.R b_1 s1) [1, 0] [box b_1 143 [.one (SV.v s1), .one (.int .i64 x2), .one (.int .u64 x3)]] [row Es 9 s2 ([([115, 112, 104, 101, 114, 101] : Str), ([116, 111, 114, 117, 115] : Str), ([115, 112, 104, 101, 114, 101] : Str), ([116, 111, 114, 117, 115] : Str), ([112, 108, 97, 110, 101] : Str), ([98, 111, 116, 116, 108, 101] : Str), ([100, 111, 117, 98, 108, 101] : Str)] : List Str)] rfl Try.call129 rfl rfl rfl (fun w I_ hle hB hS => G.spec_l01Next.calls _ I_ w b_1 s1 x1 x2 x3 7 hS (h1.mono hle)) ?_
 rintro ⟨r_1, y1, y2⟩ _ _ ⟨rfl, rfl⟩
 refine TL.chk fun h2 => ?_
 refine TL.ixs r_1 r_1.toNat (Rd.row 1 rfl) h2 Try.underlying117 Try.sizeOf9 rfl rfl rfl rfl (by omega) ?_
 refine TL.loadE (Rd.row 1 rfl) Try.isAgg9 r_1.toNat 0 (gt_spec h2) (v := strv (gt ([([115, 112, 104, 101, 114, 101] : Str), ([116, 111, 114, 117, 115] : Str), ([115, 112, 104, 101, 114, 101] : Str), ([116, 111, 114, 117, 115] : Str), ([112, 108, 97, 110, 101] : Str), ([98, 111, 116, 116, 108, 101] : Str), ([100, 111, 117, 98, 108, 101] : Str)] : List Str) r_1)) rfl (by simp only [show Es.sz = 1 from rfl] <;> omega) rfl rfl rfl ?_
 refine TL.call (R := G.spec_l07Named.R) Try.call136 rfl rfl rfl (fun w hS => G.spec_l07Named.calls w (gt ([([115, 112, 104, 101, 114, 101] : Str), ([116, 111, 114, 117, 115] : Str), ([115, 112, 104, 101, 114, 101] : Str), ([116, 111, 114, 117, 115] : Str), ([112, 108, 97, 110, 101] : Str), ([98, 111, 116, 116, 108, 101] : Str), ([100, 111, 117, 98, 108, 101] : Str)] : List Str) r_1)) ?_
 rintro ⟨r_2, r_3⟩ _ _ ⟨s3, ss1, rfl, rfl⟩
 refine TL.move rfl rfl (v := .tuple #[SV.v s3, .bool r_3]) rfl ?_
 refine TL.extract rfl rfl rfl (v := SV.v s3) rfl ?_
 refine TL.extract rfl rfl rfl (v := .bool r_3) rfl ?_
 refine TL.assign rfl rfl (v := SV.v s3) rfl ?_
 refine TL.assign rfl rfl (v := .bool r_3) rfl ?_
 refine TL.done ?_
 refine TC.seq ?_
 refine TC.seq ?_
 refine TC.region ?_
 refine TL.move rfl rfl (v := bp b_1 0) rfl ?_
 refine TL.callX (R := G.spec_l01Next.R b_1 s1) [1, 0, 0] [box b_1 143 [.one (SV.v s1), .one (.int .i64 y1), .one (.int .u64 y2)]] [mat Ei 2 22 s3 ss1 r_2, row Es 9 s2 ([([115, 112, 104, 101, 114, 101] : Str), ([116, 111, 114, 117, 115] : Str), ([115, 112, 104, 101, 114, 101] : Str), ([116, 111, 114, 117, 115] : Str), ([112, 108, 97, 110, 101] : Str), ([98, 111, 116, 116, 108, 101] : Str), ([100, 111, 117, 98, 108, 101] : Str)] : List Str)] rfl Try.call129 rfl rfl rfl (fun w I_ hle hB hS => G.spec_l01Next.calls _ I_ w b_1 s1 x1 y1 y2 3 hS (h1.mono hle)) ?_
 rintro ⟨r_4, y3, y4⟩ _ _ ⟨rfl, rfl⟩
 refine TL.assign rfl rfl (v := .int .i64 r_4) rfl ?_
 refine TL.done ?_
 refine TC.loop1 (σ := Int × Int × (List (List Int)) × Int) (γ := SV × (List SV)) (Γ' := (fun p q => match p, q with | (y5, y6, x4, x5), (s4, ss2) => [(0, bp b_1 0), (4, SV.v s4), (6, .int .i64 x5)])) (L' := (fun p q => match p, q with | (y5, y6, x4, x5), (s4, ss2) => [box b_1 143 [.one (SV.v s1), .one (.int .i64 y5), .one (.int .u64 y6)], mat Ei 2 22 s4 ss2 x4])) (Γb := (fun p q => match p, q with | (y5, y6, x4, x5), (s4, ss2) => [(0, bp b_1 0), (4, SV.v s4), (6, .int .i64 x5)])) (Lb := (fun p q => match p, q with | (y5, y6, x4, x5), (s4, ss2) => [box b_1 143 [.one (SV.v s1), .one (.int .i64 y5), .one (.int .u64 y6)], mat Ei 2 22 s4 ss2 x4])) ((y3, y4, r_2, r_4)) ((s3, ss1)) ⟨rfl, rfl, rfl, trivial⟩ [0, 0] rfl ?_ ?_
 ·rintro ⟨y5, y6, x4, x5⟩ ⟨s4, ss2⟩
  refine TC.seq ?_
  refine TC.seq ?_
  refine TC.region ?_
  refine TL.move rfl rfl (v := .int .i64 x5) rfl ?_
  refine TL.bin .i64 x5 0 rfl rfl rfl rfl (v := .bool (decide (x5 > 0))) rfl ?_
  refine TL.move rfl rfl (v := .bool (decide (x5 > 0))) rfl ?_
  refine TL.cutU 4 [(30, .bool ((decide (x5 > 0)) && (decide ((x4.length : Int) ≤ 6)))), (0, bp b_1 0), (4, SV.v s4), (6, .int .i64 x5), (24, .int .i64 x5), (25, .bool (decide (x5 > 0))), (26, .bool (decide (x5 > 0)))] [box b_1 143 [.one (SV.v s1), .one (.int .i64 y5), .one (.int .u64 y6)], mat Ei 2 22 s4 ss2 x4] ?_ ?_
  ·refine TL.cases (t := 26) (b := (decide (x5 > 0))) rfl (fun c1 => ?_) (fun c2 => ?_)
   ·refine TL.move rfl rfl (v := SV.v s4) rfl ?_
    refine TL.lenM (RdM.mat 1 rfl) Try.underlying32 rfl rfl rfl ?_
    refine TL.bin .i64 (x4.length : Int) 6 rfl rfl rfl rfl (v := .bool (decide ((x4.length : Int) ≤ 6))) rfl ?_
    refine TL.pick rfl rfl (b := true) rfl (r := .bool (decide ((x4.length : Int) ≤ 6))) rfl ?_
    refine TL.done ?_
    exact TC.nrm () () ⟨(by rw [c1]; rfl), rfl, rfl, rfl, rfl, rfl, (by rw [c1]; rfl), trivial⟩ [0, 0] (by kernel_rfl)
   ·refine TL.skip rfl rfl (by decide) ?_
    refine TL.skip rfl rfl (by decide) ?_
    refine TL.skip rfl rfl (by decide) ?_
    refine TL.pick rfl rfl (b := false) rfl (r := .bool false) rfl ?_
    refine TL.done ?_
    exact TC.nrm () () ⟨(by rw [c2]; rfl), rfl, rfl, rfl, rfl, rfl, (by rw [c2]; rfl), trivial⟩ [0, 0] (by kernel_rfl)
  ·refine TL.done ?_
   refine TC.cond (b := ((decide (x5 > 0)) && (decide ((x4.length : Int) ≤ 6)))) rfl (fun c3 => ?_) (fun c4 => ?_)
   ·refine TC.skip ?_
    refine TC.seq ?_
    refine TC.block (NoEx.loop1 rfl) ?_
    refine TC.region ?_
    refine TL.move rfl rfl (v := SV.v s4) rfl ?_
    refine TL.move rfl rfl (v := bp b_1 0) rfl ?_
    refine TL.move rfl rfl (v := SV.v s4) rfl ?_
    refine TL.lenM (RdM.mat 1 rfl) Try.underlying32 rfl rfl rfl ?_
    refine TL.callX (R := G.spec_l01Next.R b_1 s1) [0, 0] [box b_1 143 [.one (SV.v s1), .one (.int .i64 y5), .one (.int .u64 y6)]] [mat Ei 2 22 s4 ss2 x4] rfl Try.call129 rfl rfl rfl (fun w I_ hle hB hS => G.spec_l01Next.calls _ I_ w b_1 s1 x1 y5 y6 (x4.length : Int) hS (h1.mono hle)) ?_
    rintro ⟨r_5, y7, y8⟩ _ _ ⟨rfl, rfl⟩
    refine TL.call (R := G.spec_l07Split.R) Try.call130 rfl rfl rfl (fun w hS => G.spec_l07Split.calls w s4 ss2 x4 r_5 ((RdM.mat 1 rfl) w hS)) ?_
    rintro r_6 _ _ ⟨s5, ss3, rfl, rfl⟩
    refine TL.assign rfl rfl (v := SV.v s5) rfl ?_
    refine TL.done ?_
    refine TC.region ?_
    refine TL.move rfl rfl (v := .int .i64 x5) rfl ?_
    refine TL.bin .i64 x5 1 rfl rfl rfl rfl (v := .int .i64 (w64 (x5 - 1))) rfl ?_
    refine TL.assign rfl rfl (v := .int .i64 (w64 (x5 - 1))) rfl ?_
    refine TL.done ?_
    exact TC.next1 ((y7, y8, r_6, (w64 (x5 - 1)))) ((s5, ss3)) ⟨rfl, rfl, rfl, trivial⟩ [1, 0] rfl
   ·exact TC.brk1 ((y5, y6, x4, x5)) ((s4, ss2)) ⟨rfl, rfl, rfl, trivial⟩ [0, 0] rfl
 ·rintro ⟨y5, y6, x4, x5⟩ ⟨s4, ss2⟩
  refine TC.seq ?_
  refine TC.seq ?_
  refine TC.region ?_
  refine TL.move rfl rfl (v := bp b_1 0) rfl ?_
  refine TL.callX (R := G.spec_l01Next.R b_1 s1) [0, 0] [box b_1 143 [.one (SV.v s1), .one (.int .i64 y5), .one (.int .u64 y6)]] [mat Ei 2 22 s4 ss2 x4] rfl Try.call129 rfl rfl rfl (fun w I_ hle hB hS => G.spec_l01Next.calls _ I_ w b_1 s1 x1 y5 y6 4 hS (h1.mono hle)) ?_
  rintro ⟨r_7, y9, y10⟩ _ _ ⟨rfl, rfl⟩
  refine TL.assign rfl rfl (v := .int .i64 r_7) rfl ?_
  refine TL.done ?_
  refine TC.loop1 (σ := Int × Int × (List (List Int)) × Int) (γ := SV × (List SV)) (Γ' := (fun p q => match p, q with | (y11, y12, x6, x7), (s6, ss4) => [(0, bp b_1 0), (4, SV.v s6), (7, .int .i64 x7)])) (L' := (fun p q => match p, q with | (y11, y12, x6, x7), (s6, ss4) => [box b_1 143 [.one (SV.v s1), .one (.int .i64 y11), .one (.int .u64 y12)], mat Ei 2 22 s6 ss4 x6])) (Γb := (fun p q => match p, q with | (y11, y12, x6, x7), (s6, ss4) => [(0, bp b_1 0), (4, SV.v s6), (7, .int .i64 x7)])) (Lb := (fun p q => match p, q with | (y11, y12, x6, x7), (s6, ss4) => [box b_1 143 [.one (SV.v s1), .one (.int .i64 y11), .one (.int .u64 y12)], mat Ei 2 22 s6 ss4 x6])) ((y9, y10, x4, r_7)) ((s4, ss2)) ⟨rfl, rfl, rfl, trivial⟩ [0, 0] rfl ?_ ?_
  ·rintro ⟨y11, y12, x6, x7⟩ ⟨s6, ss4⟩
   refine TC.seq ?_
   refine TC.seq ?_
   refine TC.region ?_
   refine TL.move rfl rfl (v := .int .i64 x7) rfl ?_
   refine TL.bin .i64 x7 0 rfl rfl rfl rfl (v := .bool (decide (x7 > 0))) rfl ?_
   refine TL.move rfl rfl (v := .bool (decide (x7 > 0))) rfl ?_
   refine TL.cutJ (σ := Bool) (γ := Unit) (Γ' := fun b_2 _ => [(46, .bool b_2), (0, bp b_1 0), (4, SV.v s6), (7, .int .i64 x7), (41, .int .i64 x7), (42, .bool (decide (x7 > 0))), (43, .bool (decide (x7 > 0)))]) (L' := fun _ _ => [box b_1 143 [.one (SV.v s1), .one (.int .i64 y11), .one (.int .u64 y12)], mat Ei 2 22 s6 ss4 x6]) 3 ?_ ?_
   ·refine TL.ifb (t := 43) (b := (decide (x7 > 0))) rfl (fun c5 => ?_) (fun c6 => ?_)
    ·refine TL.move rfl rfl (v := SV.v s6) rfl ?_
     refine TL.call (R := G.spec_l07Oriented.R) Try.call121 rfl rfl rfl (fun w hS => G.spec_l07Oriented.calls w s6 ss4 x6 ((RdM.mat 1 rfl) w hS)) ?_
     rintro r_8 _ _ ⟨rfl, rfl⟩
     refine TL.pick rfl rfl (b := true) rfl (r := .bool r_8) rfl ?_
     refine TL.done ?_
     exact TC.nrm (r_8) () ⟨rfl, rfl, rfl, rfl, rfl, rfl, (by rw [c5]; rfl), trivial⟩ [0, 0] (by kernel_rfl)
    ·refine TL.skip rfl rfl (by decide) ?_
     refine TL.skip rfl rfl (by decide) ?_
     refine TL.pick rfl rfl (b := false) rfl (r := .bool false) rfl ?_
     refine TL.done ?_
     exact TC.nrm (false) () ⟨rfl, rfl, rfl, rfl, rfl, rfl, (by rw [c6]; rfl), trivial⟩ [0, 0] (by kernel_rfl)
   ·rintro b_2 _
    refine TL.done ?_
    refine TC.cond (b := b_2) rfl (fun c7 => ?_) (fun c8 => ?_)
    ·refine TC.skip ?_
     refine TC.seq ?_
     refine TC.block (NoEx.loop1 rfl) ?_
     refine TC.seq ?_
     refine TC.region ?_
     refine TL.move rfl rfl (v := SV.v s6) rfl ?_
     refine TL.move rfl rfl (v := bp b_1 0) rfl ?_
     refine TL.move rfl rfl (v := SV.v s6) rfl ?_
     refine TL.lenM (RdM.mat 1 rfl) Try.underlying32 rfl rfl rfl ?_
     refine TL.bin .i64 (x6.length : Int) 3 rfl rfl rfl rfl (v := .int .i64 (w64 ((x6.length : Int) * 3))) rfl ?_
     refine TL.quo .i64 (w64 ((x6.length : Int) * 3)) 2 (by decide) rfl rfl rfl rfl ?_
     refine TL.callX (R := G.spec_l01Next.R b_1 s1) [0, 0] [box b_1 143 [.one (SV.v s1), .one (.int .i64 y11), .one (.int .u64 y12)]] [mat Ei 2 22 s6 ss4 x6] rfl Try.call129 rfl rfl rfl (fun w I_ hle hB hS => G.spec_l01Next.calls _ I_ w b_1 s1 x1 y11 y12 (w64 (Int.tdiv (w64 ((x6.length : Int) * 3)) 2)) hS (h1.mono hle)) ?_
     rintro ⟨r_9, y13, y14⟩ _ _ ⟨rfl, rfl⟩
     refine TL.bin .i64 1 r_9 rfl rfl rfl rfl (v := .int .i64 (w64 (1 + r_9))) rfl ?_
     refine TL.call (R := G.spec_l07Flip.R) Try.call122 rfl rfl rfl (fun w hS => G.spec_l07Flip.calls w s6 ss4 x6 (w64 (1 + r_9)) ((RdM.mat 1 rfl) w hS)) ?_
     rintro ⟨r_10, r_11⟩ _ _ ⟨s7, ss5, rfl, rfl⟩
     refine TL.move rfl rfl (v := .tuple #[SV.v s7, .bool r_11]) rfl ?_
     refine TL.extract rfl rfl rfl (v := SV.v s7) rfl ?_
     refine TL.extract rfl rfl rfl (v := .bool r_11) rfl ?_
     refine TL.assign rfl rfl (v := SV.v s7) rfl ?_
     refine TL.assign rfl rfl (v := .bool r_11) rfl ?_
     refine TL.done ?_
     refine TC.seq ?_
     refine TC.region ?_
     refine TL.move rfl rfl (v := .bool r_11) rfl ?_
     refine TL.done ?_
     refine TC.join1 (σ := (List (List Int))) (γ := SV × (List SV)) (Γ' := (fun p q => match p, q with | x8, (s8, ss6) => [(0, bp b_1 0), (4, SV.v s8), (7, .int .i64 x7)])) (L' := (fun p q => match p, q with | x8, (s8, ss6) => [box b_1 143 [.one (SV.v s1), .one (.int .i64 y13), .one (.int .u64 y14)], mat Ei 2 22 s8 ss6 x8])) ?_ ?_
     ·refine TC.cond (b := r_11) rfl (fun c9 => ?_) (fun c10 => ?_)
      ·refine TC.region ?_
       refine TL.move rfl rfl (v := SV.v s7) rfl ?_
       refine TL.assign rfl rfl (v := SV.v s7) rfl ?_
       refine TL.done ?_
       exact TC.nrm (r_10) ((s7, ss5)) ⟨rfl, rfl, rfl, trivial⟩ [1, 0] rfl
      ·refine TC.skip ?_
       exact TC.nrm (x6) ((s6, ss4)) ⟨rfl, rfl, rfl, trivial⟩ [1, 1] rfl
     ·rintro x8 ⟨s8, ss6⟩
      refine TC.region ?_
      refine TL.move rfl rfl (v := .int .i64 x7) rfl ?_
      refine TL.bin .i64 x7 1 rfl rfl rfl rfl (v := .int .i64 (w64 (x7 - 1))) rfl ?_
      refine TL.assign rfl rfl (v := .int .i64 (w64 (x7 - 1))) rfl ?_
      refine TL.done ?_
      exact TC.next1 ((y13, y14, x8, (w64 (x7 - 1)))) ((s8, ss6)) ⟨rfl, rfl, rfl, trivial⟩ [0, 0] rfl
    ·exact TC.brk1 ((y11, y12, x6, x7)) ((s6, ss4)) ⟨rfl, rfl, rfl, trivial⟩ [0, 0] rfl
  ·rintro ⟨y11, y12, x6, x7⟩ ⟨s6, ss4⟩
   refine TC.seq ?_
   refine TC.seq ?_
   refine TC.region ?_
   refine TL.move rfl rfl (v := bp b_1 0) rfl ?_
   refine TL.callX (R := G.spec_l01Next.R b_1 s1) [0, 0] [box b_1 143 [.one (SV.v s1), .one (.int .i64 y11), .one (.int .u64 y12)]] [mat Ei 2 22 s6 ss4 x6] rfl Try.call129 rfl rfl rfl (fun w I_ hle hB hS => G.spec_l01Next.calls _ I_ w b_1 s1 x1 y11 y12 4 hS (h1.mono hle)) ?_
   rintro ⟨r_12, y15, y16⟩ _ _ ⟨rfl, rfl⟩
   refine TL.bin .i64 r_12 0 rfl rfl rfl rfl (v := .bool (r_12 == 0)) rfl ?_
   refine TL.done ?_
   refine TC.join1 (σ := Int × Int × (List (List Int))) (γ := (List SV)) (Γ' := (fun p q => match p, q with | (y22, y23, l2), ss7 => [(0, bp b_1 0), (4, SV.v s6)])) (L' := (fun p q => match p, q with | (y22, y23, l2), ss7 => [box b_1 143 [.one (SV.v s1), .one (.int .i64 y22), .one (.int .u64 y23)], mat Ei 2 22 s6 ss7 l2])) ?_ ?_
   ·refine TC.cond (b := (r_12 == 0)) rfl (fun c11 => ?_) (fun c12 => ?_)
    ·refine TC.seq ?_
     refine TC.region ?_
     refine TL.move rfl rfl (v := bp b_1 0) rfl ?_
     refine TL.move rfl rfl (v := SV.v s6) rfl ?_
     refine TL.lenM (RdM.mat 1 rfl) Try.underlying32 rfl rfl rfl ?_
     refine TL.callX (R := G.spec_l01Next.R b_1 s1) [0, 0] [box b_1 143 [.one (SV.v s1), .one (.int .i64 y15), .one (.int .u64 y16)]] [mat Ei 2 22 s6 ss4 x6] rfl Try.call129 rfl rfl rfl (fun w I_ hle hB hS => G.spec_l01Next.calls _ I_ w b_1 s1 x1 y15 y16 (x6.length : Int) hS (h1.mono hle)) ?_
     rintro ⟨r_13, y24, y25⟩ _ _ ⟨rfl, rfl⟩
     refine TL.assign rfl rfl (v := .int .i64 r_13) rfl ?_
     refine TL.done ?_
     refine TC.region ?_
     refine TL.move rfl rfl (v := SV.v s6) rfl ?_
     refine TL.move rfl rfl (v := .int .i64 r_13) rfl ?_
     refine TL.move rfl rfl (v := SV.v s6) rfl ?_
     refine TL.move rfl rfl (v := .int .i64 r_13) rfl ?_
     refine TL.chk fun h3 => ?_
     refine TL.ixsM r_13 r_13.toNat (RdM.mat 1 rfl) h3 Try.underlying32 Try.sizeOf22 rfl rfl rfl rfl (by omega) ?_
     refine TL.loadM2 (RdM.mat 1 rfl) Try.isAgg22 r_13 h3 (by omega) rfl rfl rfl ?_
     refine TL.call (R := G.spec_l07Over.R) Try.call149 rfl rfl rfl (fun w hS => G.spec_l07Over.calls w (gt ss4 r_13) (gt x6 r_13) ((RdM.inn (RdM.mat 1 rfl) h3) w hS)) ?_
     rintro r_14 _ _ ⟨s9, rfl, rfl⟩
     refine TL.ixsM r_13 r_13.toNat (RdM.mat 2 rfl) h3 Try.underlying32 Try.sizeOf22 rfl rfl rfl rfl (by omega) ?_
     refine TL.matlen 2 rfl fun h4 => ?_
     refine TL.matcut 2 rfl ?_
     refine TL.stE 0 (r_13.toNat) s9 (v := SV.v s9) rfl Try.sizeOf22 rfl rfl rfl (by have h_ := h3; have l_ := h4; (try simp only [List.length_set] at h_ l_ ⊢); omega) (by simp only [show Ev.sz = 1 from rfl] <;> omega) rfl rfl rfl ?_
     refine TL.hole 3 r_13 rfl h3 ?_
     refine TL.rowsPut 1 3 rfl rfl ?_
     refine TL.matmk 0 3 rfl rfl ?_
     refine TL.drop 0 rfl ?_
     refine TL.asL [emp, box b_1 143 [.one (SV.v s1), .one (.int .i64 y24), .one (.int .u64 y25)], mat Ei 2 22 s6 (ss4.set r_13.toNat s9) (x6.set r_13.toNat r_14)] (by kernel_rfl) ?_
     refine TL.done ?_
     exact TC.nrm ((y24, y25, (x6.set r_13.toNat r_14))) ((ss4.set r_13.toNat s9)) ⟨rfl, rfl, trivial⟩ [1, 1] rfl
    ·refine TC.skip ?_
     exact TC.nrm ((y15, y16, x6)) (ss4) ⟨rfl, rfl, trivial⟩ [0, 0] rfl
   ·rintro ⟨y22, y23, l2⟩ ss7
    refine TC.seq ?_
    refine TC.seq ?_
    refine TC.region ?_
    refine TL.move rfl rfl (v := bp b_1 0) rfl ?_
    refine TL.callX (R := G.spec_l01Next.R b_1 s1) [0, 0] [box b_1 143 [.one (SV.v s1), .one (.int .i64 y22), .one (.int .u64 y23)]] [mat Ei 2 22 s6 ss7 l2] rfl Try.call129 rfl rfl rfl (fun w I_ hle hB hS => G.spec_l01Next.calls _ I_ w b_1 s1 x1 y22 y23 12 hS (h1.mono hle)) ?_
    rintro ⟨r_15, y26, y27⟩ _ _ ⟨rfl, rfl⟩
    refine TL.bin .i64 r_15 0 rfl rfl rfl rfl (v := .bool (r_15 == 0)) rfl ?_
    refine TL.move rfl rfl (v := .bool (r_15 == 0)) rfl ?_
    refine TL.cutU 4 [(85, .bool ((r_15 == 0) && (decide ((l2.length : Int) ≤ 6)))), (0, bp b_1 0), (4, SV.v s6), (78, bp b_1 0), (79, .int .i64 r_15), (80, .bool (r_15 == 0)), (81, .bool (r_15 == 0))] [box b_1 143 [.one (SV.v s1), .one (.int .i64 y26), .one (.int .u64 y27)], mat Ei 2 22 s6 ss7 l2] ?_ ?_
    ·refine TL.cases (t := 81) (b := (r_15 == 0)) rfl (fun c13 => ?_) (fun c14 => ?_)
     ·refine TL.move rfl rfl (v := SV.v s6) rfl ?_
      refine TL.lenM (RdM.mat 1 rfl) Try.underlying32 rfl rfl rfl ?_
      refine TL.bin .i64 (l2.length : Int) 6 rfl rfl rfl rfl (v := .bool (decide ((l2.length : Int) ≤ 6))) rfl ?_
      refine TL.pick rfl rfl (b := true) rfl (r := .bool (decide ((l2.length : Int) ≤ 6))) rfl ?_
      refine TL.done ?_
      exact TC.nrm () () ⟨(by rw [c13]; rfl), rfl, rfl, rfl, rfl, rfl, (by rw [c13]; rfl), trivial⟩ [0, 0] (by kernel_rfl)
     ·refine TL.skip rfl rfl (by decide) ?_
      refine TL.skip rfl rfl (by decide) ?_
      refine TL.skip rfl rfl (by decide) ?_
      refine TL.pick rfl rfl (b := false) rfl (r := .bool false) rfl ?_
      refine TL.done ?_
      exact TC.nrm () () ⟨(by rw [c14]; rfl), rfl, rfl, rfl, rfl, rfl, (by rw [c14]; rfl), trivial⟩ [0, 0] (by kernel_rfl)
    ·refine TL.done ?_
     refine TC.join1 (σ := (List (List Int))) (γ := SV × (List SV)) (Γ' := (fun p q => match p, q with | x9, (s10, ss8) => [(0, bp b_1 0), (4, SV.v s10)])) (L' := (fun p q => match p, q with | x9, (s10, ss8) => [box b_1 143 [.one (SV.v s1), .one (.int .i64 y26), .one (.int .u64 y27)], mat Ei 2 22 s10 ss8 x9])) ?_ ?_
     ·refine TC.cond (b := ((r_15 == 0) && (decide ((l2.length : Int) ≤ 6)))) rfl (fun c15 => ?_) (fun c16 => ?_)
      ·refine TC.seq ?_
       refine TC.region ?_
       refine TL.move rfl rfl (v := SV.v s6) rfl ?_
       refine TL.lenM (RdM.mat 1 rfl) Try.underlying32 rfl rfl rfl ?_
       refine TL.bin .i64 (l2.length : Int) 3 rfl rfl rfl rfl (v := .int .i64 (w64 ((l2.length : Int) * 3))) rfl ?_
       refine TL.quo .i64 (w64 ((l2.length : Int) * 3)) 2 (by decide) rfl rfl rfl rfl ?_
       refine TL.assign rfl rfl (v := .int .i64 (w64 (Int.tdiv (w64 ((l2.length : Int) * 3)) 2))) rfl ?_
       refine TL.done ?_
       refine TC.region ?_
       refine TL.move rfl rfl (v := SV.v s6) rfl ?_
       refine TL.move rfl rfl (v := .int .i64 (w64 (Int.tdiv (w64 ((l2.length : Int) * 3)) 2))) rfl ?_
       refine TL.bin .i64 (w64 (Int.tdiv (w64 ((l2.length : Int) * 3)) 2)) 1 rfl rfl rfl rfl (v := .int .i64 (w64 ((w64 (Int.tdiv (w64 ((l2.length : Int) * 3)) 2)) + 1))) rfl ?_
       refine TL.move rfl rfl (v := .int .i64 (w64 (Int.tdiv (w64 ((l2.length : Int) * 3)) 2))) rfl ?_
       refine TL.bin .i64 (w64 (Int.tdiv (w64 ((l2.length : Int) * 3)) 2)) 2 rfl rfl rfl rfl (v := .int .i64 (w64 ((w64 (Int.tdiv (w64 ((l2.length : Int) * 3)) 2)) + 2))) rfl ?_
       refine TL.move rfl rfl (v := .int .i64 (w64 (Int.tdiv (w64 ((l2.length : Int) * 3)) 2))) rfl ?_
       refine TL.bin .i64 (w64 (Int.tdiv (w64 ((l2.length : Int) * 3)) 2)) 3 rfl rfl rfl rfl (v := .int .i64 (w64 ((w64 (Int.tdiv (w64 ((l2.length : Int) * 3)) 2)) + 3))) rfl ?_
       refine TL.blit Ei ([(w64 ((w64 (Int.tdiv (w64 ((l2.length : Int) * 3)) 2)) + 1)), (w64 ((w64 (Int.tdiv (w64 ((l2.length : Int) * 3)) 2)) + 2)), (w64 ((w64 (Int.tdiv (w64 ((l2.length : Int) * 3)) 2)) + 3))] : List Int) Try.underlying22 Try.sizeOf2 Try.zeroValue2 rfl rfl rfl [(0, .int .i64 (w64 ((w64 (Int.tdiv (w64 ((l2.length : Int) * 3)) 2)) + 1))), (1, .int .i64 (w64 ((w64 (Int.tdiv (w64 ((l2.length : Int) * 3)) 2)) + 2))), (2, .int .i64 (w64 ((w64 (Int.tdiv (w64 ((l2.length : Int) * 3)) 2)) + 3)))] rfl ⟨rfl, rfl, rfl, rfl, rfl, rfl, trivial⟩ rfl rfl fun s11 => ?_
       refine TL.move rfl rfl (v := .int .i64 (w64 (Int.tdiv (w64 ((l2.length : Int) * 3)) 2))) rfl ?_
       refine TL.neg .i64 (w64 (Int.tdiv (w64 ((l2.length : Int) * 3)) 2)) rfl rfl rfl ?_
       refine TL.bin .i64 (w64 (0 - (w64 (Int.tdiv (w64 ((l2.length : Int) * 3)) 2)))) 3 rfl rfl rfl rfl (v := .int .i64 (w64 ((w64 (0 - (w64 (Int.tdiv (w64 ((l2.length : Int) * 3)) 2)))) - 3))) rfl ?_
       refine TL.move rfl rfl (v := .int .i64 (w64 (Int.tdiv (w64 ((l2.length : Int) * 3)) 2))) rfl ?_
       refine TL.neg .i64 (w64 (Int.tdiv (w64 ((l2.length : Int) * 3)) 2)) rfl rfl rfl ?_
       refine TL.bin .i64 (w64 (0 - (w64 (Int.tdiv (w64 ((l2.length : Int) * 3)) 2)))) 2 rfl rfl rfl rfl (v := .int .i64 (w64 ((w64 (0 - (w64 (Int.tdiv (w64 ((l2.length : Int) * 3)) 2)))) - 2))) rfl ?_
       refine TL.move rfl rfl (v := .int .i64 (w64 (Int.tdiv (w64 ((l2.length : Int) * 3)) 2))) rfl ?_
       refine TL.neg .i64 (w64 (Int.tdiv (w64 ((l2.length : Int) * 3)) 2)) rfl rfl rfl ?_
       refine TL.bin .i64 (w64 (0 - (w64 (Int.tdiv (w64 ((l2.length : Int) * 3)) 2)))) 1 rfl rfl rfl rfl (v := .int .i64 (w64 ((w64 (0 - (w64 (Int.tdiv (w64 ((l2.length : Int) * 3)) 2)))) - 1))) rfl ?_
       refine TL.blit Ei ([(w64 ((w64 (0 - (w64 (Int.tdiv (w64 ((l2.length : Int) * 3)) 2)))) - 3)), (w64 ((w64 (0 - (w64 (Int.tdiv (w64 ((l2.length : Int) * 3)) 2)))) - 2)), (w64 ((w64 (0 - (w64 (Int.tdiv (w64 ((l2.length : Int) * 3)) 2)))) - 1))] : List Int) Try.underlying22 Try.sizeOf2 Try.zeroValue2 rfl rfl rfl [(0, .int .i64 (w64 ((w64 (0 - (w64 (Int.tdiv (w64 ((l2.length : Int) * 3)) 2)))) - 3))), (1, .int .i64 (w64 ((w64 (0 - (w64 (Int.tdiv (w64 ((l2.length : Int) * 3)) 2)))) - 2))), (2, .int .i64 (w64 ((w64 (0 - (w64 (Int.tdiv (w64 ((l2.length : Int) * 3)) 2)))) - 1)))] rfl ⟨rfl, rfl, rfl, rfl, rfl, rfl, trivial⟩ rfl rfl fun s12 => ?_
       refine TL.blit Ev ([s11, s12] : List SV) Try.underlying32 Try.sizeOf22 Try.zeroValue22 rfl rfl rfl [(0, SV.v s11), (1, SV.v s12)] rfl ⟨rfl, rfl, rfl, rfl, trivial⟩ rfl rfl fun s13 => ?_
       refine TL.small fun h5 => ?_
       refine TL.matlen 4 rfl fun h6 => ?_
       refine TL.matcut 4 rfl ?_
       refine TL.append 0 rfl (Rd.row 1 rfl) Try.underlying32 (info_of Try.type22) (zv := (Try.t22.zero.getD (.bool false))) rfl rfl rfl (by decide) (by have h_ := h5; have l_ := h6; (try simp only [List.length_cons, List.length_nil] at h_ l_ ⊢); omega) rfl rfl rfl rfl fun s14 => ?_
       refine TL.rowsPush 5 3 rfl rfl ?_
       refine TL.rowsPush 3 2 rfl rfl ?_
       refine TL.asL [row Ev 22 s14 (ss7 ++ [s11, s12]), row Ev 22 s13 ([s11, s12] : List SV), rows Ei 2 (ss7 ++ [s11, s12]) (l2 ++ [([(w64 ((w64 (Int.tdiv (w64 ((l2.length : Int) * 3)) 2)) + 1)), (w64 ((w64 (Int.tdiv (w64 ((l2.length : Int) * 3)) 2)) + 2)), (w64 ((w64 (Int.tdiv (w64 ((l2.length : Int) * 3)) 2)) + 3))] : List Int), ([(w64 ((w64 (0 - (w64 (Int.tdiv (w64 ((l2.length : Int) * 3)) 2)))) - 3)), (w64 ((w64 (0 - (w64 (Int.tdiv (w64 ((l2.length : Int) * 3)) 2)))) - 2)), (w64 ((w64 (0 - (w64 (Int.tdiv (w64 ((l2.length : Int) * 3)) 2)))) - 1))] : List Int)]), emp, box b_1 143 [.one (SV.v s1), .one (.int .i64 y26), .one (.int .u64 y27)], emp] (by simp only [List.append_assoc, List.cons_append, List.nil_append]; rfl) ?_
       refine TL.matmk 0 2 rfl rfl ?_
       refine TL.drop 0 rfl ?_
       refine TL.asL [row Ev 22 s13 ([s11, s12] : List SV), mat Ei 2 22 s14 (ss7 ++ [s11, s12]) (l2 ++ [([(w64 ((w64 (Int.tdiv (w64 ((l2.length : Int) * 3)) 2)) + 1)), (w64 ((w64 (Int.tdiv (w64 ((l2.length : Int) * 3)) 2)) + 2)), (w64 ((w64 (Int.tdiv (w64 ((l2.length : Int) * 3)) 2)) + 3))] : List Int), ([(w64 ((w64 (0 - (w64 (Int.tdiv (w64 ((l2.length : Int) * 3)) 2)))) - 3)), (w64 ((w64 (0 - (w64 (Int.tdiv (w64 ((l2.length : Int) * 3)) 2)))) - 2)), (w64 ((w64 (0 - (w64 (Int.tdiv (w64 ((l2.length : Int) * 3)) 2)))) - 1))] : List Int)]), emp, box b_1 143 [.one (SV.v s1), .one (.int .i64 y26), .one (.int .u64 y27)], emp] (by kernel_rfl) ?_
       refine TL.assign rfl rfl (v := SV.v s14) rfl ?_
       refine TL.done ?_
       exact TC.nrm ((l2 ++ [([(w64 ((w64 (Int.tdiv (w64 ((l2.length : Int) * 3)) 2)) + 1)), (w64 ((w64 (Int.tdiv (w64 ((l2.length : Int) * 3)) 2)) + 2)), (w64 ((w64 (Int.tdiv (w64 ((l2.length : Int) * 3)) 2)) + 3))] : List Int), ([(w64 ((w64 (0 - (w64 (Int.tdiv (w64 ((l2.length : Int) * 3)) 2)))) - 3)), (w64 ((w64 (0 - (w64 (Int.tdiv (w64 ((l2.length : Int) * 3)) 2)))) - 2)), (w64 ((w64 (0 - (w64 (Int.tdiv (w64 ((l2.length : Int) * 3)) 2)))) - 1))] : List Int)])) ((s14, (ss7 ++ [s11, s12]))) ⟨rfl, rfl, trivial⟩ [3, 1] rfl
      ·refine TC.skip ?_
       exact TC.nrm (l2) ((s6, ss7)) ⟨rfl, rfl, trivial⟩ [0, 0] rfl
     ·rintro x9 ⟨s10, ss8⟩
      refine TC.seq ?_
      refine TC.region ?_
      refine TL.move rfl rfl (v := SV.v s10) rfl ?_
      refine TL.assign rfl rfl (v := SV.v s10) rfl ?_
      refine TL.done ?_
      exact TC.retF (Fin.body (fin1 (.inr rfl) rfl (.tmp rfl) [1, 0] rfl ⟨s10, ss8, rfl, rfl⟩))

end Go.Proofs.Ytiiljfpbcanphaa.G
