/- Functions of the program, as pure functions. -/
import Derived.Test.YtpejnjpckacciaaGreatDoorMFnCobordisms5
import Derived.Test.YtpejnjpckacciaaGreatDoorProg
set_option linter.unusedVariables false
set_option maxRecDepth 100000
set_option maxHeartbeats 4000000
namespace Go.Proofs.YtpejnjpckacciaaGreatDoor.G
open Go Go.Sx Go.Proofs
def spec_l04Join.b0 (web1 : List Int) (k_1 : Int) (i1 : Int) : (List Int) × Int → Option (LB ((List Int) × Int)) := fun p => match p with | (l1, j1) => (bif (decide (j1 < (l1.length : Int))) then chk j1 l1.length (((bif ((gt l1 j1) == (gt web1 k_1)) then some (l1.set j1.toNat (gt web1 i1)) else some l1)).bind (fun l2 => some (.next (l2, (w64 (j1 + 1)))))) else some (.brk (l1, j1)))
def spec_l04Join.f (web1 : List Int) (web2 : List Int) (web3 : List Int) (i1 : Int) (k_1 : Int) : Option ((List Int) × (List Int) × (List Int)) := chk i1 web1.length (chk k_1 web1.length ((loop1 (spec_l04Join.b0 web1 k_1 i1) (web1, 0)).bind (fun p => match p with | (l1, j1) => some (l1, web2, web3))))
def spec_l04Join.R (r : (List Int) × (List Int) × (List Int)) (v : Value) (L : List Asn) : Prop := ∃ (s0 : SV) (s1 : SV) (s2 : SV), v = sval [.one (SV.v s0), .one (SV.v s1), .one (SV.v s2)] ∧ L = [row Ei 2 s0 r.1, row Ei 2 s1 r.2.1, row Ei 2 s2 r.2.2, emp, emp, emp]
theorem spec_l04Join.calls (w0 : World) (I : Hp) (w : World) (s1 : SV) (web1 : List Int) (s2 : SV) (web2 : List Int) (s3 : SV) (web3 : List Int) (i1 : Int) (k_1 : Int) (hS : St w0 I [row Ei 2 s1 web1, row Ei 2 s2 web2, row Ei 2 s3 web3] w) :
  ∀ r, spec_l04Join.f web1 web2 web3 i1 k_1 = some r → Calls Tryz.prog 84 #[sval [.one (SV.v s1), .one (SV.v s2), .one (SV.v s3)], .int .i64 i1, .int .i64 k_1] w (RetM w0 I ((spec_l04Join.R) r)) := by
 refine calls_TM (w0 := w0) (I := I) (L := [row Ei 2 s1 web1, row Ei 2 s2 web2, row Ei 2 s3 web3]) (n := 40) (Γ := [(0, sval [.one (SV.v s1), .one (SV.v s2), .one (SV.v s3)]), (1, .int .i64 i1), (2, .int .i64 k_1)]) (R := (spec_l04Join.R)) Tryz.func84 rfl rfl (Nat.le_of_ble_eq_true rfl) ⟨rfl, rfl, rfl, trivial⟩ ?_ w hS
 unfold spec_l04Join.f
 refine TC.seq <| TC.region ?_
 refine TL.box [.one (SV.v s1), .one (SV.v s2), .one (SV.v s3)] rfl rfl rfl rfl fun b_1 => ?_
 refine TL.alloc [.one (SV.v ⟨none, 0, 0⟩), .one (SV.v ⟨none, 0, 0⟩), .one (SV.v ⟨none, 0, 0⟩)] rfl rfl Tryz.zeroValue88 rfl fun b_2 => ?_
 refine TL.done <| TC.seq ?_
 refine TC.wk (Γ' := [(0, sval [.one (SV.v s1), .one (SV.v s2), .one (SV.v s3)]), (1, .int .i64 i1), (2, .int .i64 k_1), (3, bp b_1 0), (6, bp b_2 0)]) ⟨rfl, rfl, rfl, rfl, rfl, trivial⟩ ?_
 refine TC.chk fun h1 => ?_
 refine TC.chk fun h2 => ?_
 refine TC.draw [bp b_1 0, SV.v s1, .int .i64 i1, ep s1 i1.toNat, .int .i64 (gt web1 i1), bp b_1 0, SV.v s1, .int .i64 k_1, ep s1 k_1.toNat, .int .i64 (gt web1 k_1), .int .i64 (gt web1 i1), .int .i64 (gt web1 k_1)] 12 [box b_2 88 [.one (SV.v ⟨none, 0, 0⟩), .one (SV.v ⟨none, 0, 0⟩), .one (SV.v ⟨none, 0, 0⟩)], box b_1 88 [.one (SV.v s1), .one (SV.v s2), .one (SV.v s3)], row Ei 2 s1 web1, row Ei 2 s2 web2, row Ei 2 s3 web3] (by kernel_rfl) rfl rfl rfl rfl ?_ ?_
 ·refine ⟨?_, ?_, ?_, ?_, ?_, ?_, ?_, ?_, ?_, ?_, ?_, ?_, trivial⟩
  ·exact TL.fa Tryz.underlying88 rfl Tryz.sizeOf36 rfl 0 rfl rfl rfl rfl <| TL.done <| TC.n0 [0, 0, 0, 0, 0]
  ·exact TL.load1 0 (Src.box 1 rfl) Tryz.isAgg36 rfl rfl rfl rfl rfl <| TL.done <| TC.n0 [0, 0, 0, 0, 0]
  ·exact TL.mv (.int .i64 i1) <| TL.done <| TC.n0 [0, 0, 0, 0, 0]
  ·exact TL.ixs i1 i1.toNat (Rd.row 2 rfl) h1 Tryz.underlying36 Tryz.sizeOf2 rfl rfl rfl rfl (by omega) <| TL.done <| TC.n0 [0, 0, 0, 0, 0]
  ·refine TL.loadE (Rd.row 2 rfl) Tryz.isAgg2 i1.toNat 0 (gt_spec h1) (v := .int .i64 (gt web1 i1)) rfl (by simp only [show Ei.sz = 1 from rfl] <;> omega) rfl rfl rfl ?_
   exact TL.done <| TC.n0 [0, 0, 0, 0, 0]
  ·exact TL.fa Tryz.underlying88 rfl Tryz.sizeOf36 rfl 0 rfl rfl rfl rfl <| TL.done <| TC.n0 [0, 0, 0, 0, 0]
  ·exact TL.load1 0 (Src.box 1 rfl) Tryz.isAgg36 rfl rfl rfl rfl rfl <| TL.done <| TC.n0 [0, 0, 0, 0, 0]
  ·exact TL.mv (.int .i64 k_1) <| TL.done <| TC.n0 [0, 0, 0, 0, 0]
  ·exact TL.ixs k_1 k_1.toNat (Rd.row 2 rfl) h2 Tryz.underlying36 Tryz.sizeOf2 rfl rfl rfl rfl (by omega) <| TL.done <| TC.n0 [0, 0, 0, 0, 0]
  ·refine TL.loadE (Rd.row 2 rfl) Tryz.isAgg2 k_1.toNat 0 (gt_spec h2) (v := .int .i64 (gt web1 k_1)) rfl (by simp only [show Ei.sz = 1 from rfl] <;> omega) rfl rfl rfl ?_
   exact TL.done <| TC.n0 [0, 0, 0, 0, 0]
  ·exact TL.as (.int .i64 (gt web1 i1)) <| TL.done <| TC.n0 [0, 0, 0, 0, 0]
  exact TL.as (.int .i64 (gt web1 k_1)) <| TL.done <| TC.n0 [0, 0, 0, 0, 0]
 refine TC.seq <| TC.seq <| TC.region <| TL.as (.int .i64 0) <| TL.done ?_
 refine TC.loop1 (σ := (List Int) × Int) (γ := Unit) (Γ' := (fun p q => match p, q with | (l1, j1), _ => [(3, bp b_1 0), (6, bp b_2 0), (7, .int .i64 (gt web1 i1)), (8, .int .i64 (gt web1 k_1)), (9, .int .i64 j1)])) (L' := (fun p q => match p, q with | (l1, j1), _ => [box b_1 88 [.one (SV.v s1), .one (SV.v s2), .one (SV.v s3)], row Ei 2 s1 l1, row Ei 2 s2 web2, row Ei 2 s3 web3, box b_2 88 [.one (SV.v ⟨none, 0, 0⟩), .one (SV.v ⟨none, 0, 0⟩), .one (SV.v ⟨none, 0, 0⟩)]])) (Γb := (fun p q => match p, q with | (l1, j1), _ => [(3, bp b_1 0), (6, bp b_2 0), (7, .int .i64 (gt web1 i1)), (8, .int .i64 (gt web1 k_1)), (9, .int .i64 j1)])) (Lb := (fun p q => match p, q with | (l1, j1), _ => [box b_1 88 [.one (SV.v s1), .one (SV.v s2), .one (SV.v s3)], row Ei 2 s1 l1, row Ei 2 s2 web2, row Ei 2 s3 web3, box b_2 88 [.one (SV.v ⟨none, 0, 0⟩), .one (SV.v ⟨none, 0, 0⟩), .one (SV.v ⟨none, 0, 0⟩)]])) ((web1, 0)) (()) ⟨rfl, rfl, rfl, rfl, rfl, trivial⟩ [1, 1, 1, 1, 0] rfl ?_ ?_
 ·rintro ⟨l1, j1⟩ _
  refine TC.seq <| TC.seq <| TC.region <| TL.mv (.int .i64 j1) <| TL.fa Tryz.underlying88 rfl Tryz.sizeOf36 rfl 0 rfl rfl rfl rfl <| TL.load1 0 (Src.box 0 rfl) Tryz.isAgg36 rfl rfl rfl rfl rfl ?_
  refine TL.len (Rd.row 1 rfl) Tryz.underlying36 rfl rfl rfl <| TL.bn .i64 j1 (l1.length : Int) (.bool (decide (j1 < (l1.length : Int)))) <| TL.done ?_
  refine TC.cond (b := (decide (j1 < (l1.length : Int)))) rfl (fun c1 => ?_) (fun c2 => ?_)
  ·refine TC.skip <| TC.seq <| TC.block (NoEx.loop1 rfl) <| TC.seq <| TC.region <| TL.fa Tryz.underlying88 rfl Tryz.sizeOf36 rfl 0 rfl rfl rfl rfl ?_
   refine TL.load1 0 (Src.box 0 rfl) Tryz.isAgg36 rfl rfl rfl rfl rfl <| TL.mv (.int .i64 j1) ?_
   refine TL.chk fun h3 => ?_
   refine TL.ixs j1 j1.toNat (Rd.row 1 rfl) h3 Tryz.underlying36 Tryz.sizeOf2 rfl rfl rfl rfl (by omega) ?_
   refine TL.loadE (Rd.row 1 rfl) Tryz.isAgg2 j1.toNat 0 (gt_spec h3) (v := .int .i64 (gt l1 j1)) rfl (by simp only [show Ei.sz = 1 from rfl] <;> omega) rfl rfl rfl ?_
   refine TL.mv (.int .i64 (gt web1 k_1)) <| TL.bn .i64 (gt l1 j1) (gt web1 k_1) (.bool ((gt l1 j1) == (gt web1 k_1))) <| TL.done ?_
   refine TC.join1 (σ := (List Int)) (γ := Unit) (Γ' := (fun l2 _ => [(3, bp b_1 0), (6, bp b_2 0), (7, .int .i64 (gt web1 i1)), (8, .int .i64 (gt web1 k_1)), (9, .int .i64 j1)])) (L' := (fun l2 _ => [box b_1 88 [.one (SV.v s1), .one (SV.v s2), .one (SV.v s3)], row Ei 2 s1 l2, row Ei 2 s2 web2, row Ei 2 s3 web3, box b_2 88 [.one (SV.v ⟨none, 0, 0⟩), .one (SV.v ⟨none, 0, 0⟩), .one (SV.v ⟨none, 0, 0⟩)]])) ?_ ?_
   ·refine TC.cond (b := ((gt l1 j1) == (gt web1 k_1))) rfl (fun c3 => ?_) (fun c4 => ?_)
    ·refine TC.region <| TL.fa Tryz.underlying88 rfl Tryz.sizeOf36 rfl 0 rfl rfl rfl rfl <| TL.load1 0 (Src.box 0 rfl) Tryz.isAgg36 rfl rfl rfl rfl rfl <| TL.mv (.int .i64 j1) <| TL.mv (.int .i64 (gt web1 i1)) <| TL.ixs j1 j1.toNat (Rd.row 1 rfl) h3 Tryz.underlying36 Tryz.sizeOf2 rfl rfl rfl rfl (by omega) ?_
     refine TL.stE 1 (j1.toNat) (gt web1 i1) (v := .int .i64 (gt web1 i1)) rfl Tryz.sizeOf2 rfl rfl rfl (by have h_ := h3; omega) (by simp only [show Ei.sz = 1 from rfl] <;> omega) rfl rfl rfl ?_
     exact TL.done <| TC.nrm ((l1.set j1.toNat (gt web1 i1))) (()) ⟨rfl, rfl, rfl, rfl, rfl, trivial⟩ [0, 0, 0, 0, 0] rfl
    exact TC.skip <| TC.nrm (l1) (()) ⟨rfl, rfl, rfl, rfl, rfl, trivial⟩ [0, 0, 0, 0, 0] rfl
   rintro l2 _
   refine TC.region <| TL.mv (.int .i64 j1) <| TL.bn .i64 j1 1 (.int .i64 (w64 (j1 + 1))) <| TL.as (.int .i64 (w64 (j1 + 1))) <| TL.done ?_
   exact TC.next1 ((l2, (w64 (j1 + 1)))) (()) ⟨rfl, rfl, rfl, rfl, rfl, trivial⟩ [0, 0, 0, 0, 0] rfl
  exact TC.brk1 ((l1, j1)) (()) ⟨rfl, rfl, rfl, rfl, rfl, trivial⟩ [0, 0, 0, 0, 0] rfl
 rintro ⟨l1, j1⟩ _
 refine TC.seq <| TC.region <| TL.loadM 0 3 (Src.box 0 rfl) Tryz.isAgg88 Tryz.sizeOf88 (mid := [.one (SV.v s1), .one (SV.v s2), .one (SV.v s3)]) rfl rfl rfl rfl rfl rfl ?_
 refine TL.stM (news := [.one (SV.v s1), .one (SV.v s2), .one (SV.v s3)]) 4 0 3 rfl Tryz.sizeOf88 (ones_one rfl (ones_one rfl (ones_one rfl ones_nil))) rfl rfl rfl rfl rfl rfl ?_
 refine TL.done ?_
 refine TC.mkemp ?_
 refine TC.mkemp ?_
 refine TC.mkemp ?_
 exact TC.retF (Fin.body (fin1 (.inr rfl) rfl (.cellN rfl (Src.box 7 rfl) Tryz.isAgg88 Tryz.sizeOf88 rfl) [4, 4, 4, 0, 0, 0] rfl ⟨s1, s2, s3, rfl, rfl⟩))
def spec_l04Step.b0 (r_1 : Int) (r_8 : Int) : (List Int) × (List Int) × (List Int) × Int × Int → Option (LB ((List Int) × (List Int) × (List Int) × Int × Int)) := fun p => match p with | (y10, y11, y12, x16, x17) => (bif (decide (x17 < r_1)) then chk x16 y12.length ((G.spec_l04Join.f y10 y11 y12 r_8 (gt y12 x16)).bind (fun p => match p with | (r_9, r_10, r_11) => some (.next (r_9, r_10, r_11, (w64 (x16 + 1)), (w64 (x17 + 1)))))) else some (.brk (y10, y11, y12, x16, x17)))
def spec_l04Step.b1 (r_2 : Int) (r_8 : Int) : (List Int) × Int → Option (LB ((List Int) × Int)) := fun p => match p with | (x18, x19) => (bif (decide (x19 < r_2)) then small (x18.length + ([r_8] : List Int).length) (some (.next ((x18 ++ ([r_8] : List Int)), (w64 (x19 + 1))))) else some (.brk (x18, x19)))
def spec_l04Step.b2 (x4 : Str) : (List Int) × (List Int) × (List Int) × (List Int) × Int × Int → Option (LB ((List Int) × (List Int) × (List Int) × (List Int) × Int × Int)) := fun p => match p with | (y1, y2, y3, x5, x6, x7) => (bif (decide (x7 < (x4.length : Int))) then (chk x7 x4.length ((G.spec_l04Legs.f (gt x4 x7)).bind (fun p => match p with | (r_1, r_2, r_3) => (bif (((gt x4 x7).toNat : Int) == ((120 : UInt8).toNat : Int)) then chk (w64 (x6 + 1)) y3.length (chk x6 y3.length (small (x5.length + ([(gt y3 (w64 (x6 + 1))), (gt y3 x6)] : List Int).length) (some (.inl (y1, y2, y3, (x5 ++ ([(gt y3 (w64 (x6 + 1))), (gt y3 x6)] : List Int)), (w64 (x6 + 2))))))) else (G.spec_l04Euler.f (gt x4 x7)).bind (fun r_4 => (G.spec_l04Thing.f y1 y2 y3 r_4).bind (fun p => match p with | (r_5, r_6, r_7, r_8) => (loop1 (spec_l04Step.b0 r_1 r_8) (r_5, r_6, r_7, x6, 0)).bind (fun p => match p with | (y10, y11, y12, x16, x17) => (loop1 (spec_l04Step.b1 r_2 r_8) (x5, 0)).bind (fun p => match p with | (x18, x19) => some (.inl (y10, y11, y12, x18, x16)))))))))).bind (jn (fun p => match p with | (y7, y8, y9, x14, x15) => some (.next (y7, y8, y9, x14, x15, (w64 (x7 + 1)))))) else some (.brk (y1, y2, y3, x5, x6, x7)))
def spec_l04Step.f (x1 : List Int) (x2 : List Int) (x3 : List Int) (x4 : Str) : Option ((List Int) × (List Int) × (List Int)) := (loop1 (spec_l04Step.b2 x4) (x1, x2, x3, ([] : List Int), 0, 0)).bind (fun p => match p with | (y1, y2, y3, x5, x6, x7) => some (y1, y2, x5))
def spec_l04Step.R (r : (List Int) × (List Int) × (List Int)) (v : Value) (L : List Asn) : Prop := ∃ (s0 : SV) (s1 : SV) (s2 : SV), v = sval [.one (SV.v s0), .one (SV.v s1), .one (SV.v s2)] ∧ L = [row Ei 2 s0 r.1, row Ei 2 s1 r.2.1, row Ei 2 s2 r.2.2, emp, emp, emp]
theorem spec_l04Step.calls (w0 : World) (I : Hp) (w : World) (s1 : SV) (x1 : List Int) (s2 : SV) (x2 : List Int) (s3 : SV) (x3 : List Int) (x4 : Str) (hS : St w0 I [row Ei 2 s1 x1, row Ei 2 s2 x2, row Ei 2 s3 x3] w) :
  ∀ r, spec_l04Step.f x1 x2 x3 x4 = some r → Calls Tryz.prog 62 #[sval [.one (SV.v s1), .one (SV.v s2), .one (SV.v s3)], strv x4] w (RetM w0 I ((spec_l04Step.R) r)) := by
 refine calls_TM (w0 := w0) (I := I) (L := [row Ei 2 s1 x1, row Ei 2 s2 x2, row Ei 2 s3 x3]) (n := 87) (Γ := [(0, sval [.one (SV.v s1), .one (SV.v s2), .one (SV.v s3)]), (1, strv x4)]) (R := (spec_l04Step.R)) Tryz.func62 rfl rfl (Nat.le_of_ble_eq_true rfl) ⟨rfl, rfl, trivial⟩ ?_ w hS
 unfold spec_l04Step.f
 refine TC.seq <| TC.region ?_
 refine TL.box [.one (SV.v s1), .one (SV.v s2), .one (SV.v s3)] rfl rfl rfl rfl fun b_1 => ?_
 refine TL.alloc [.one (SV.v ⟨none, 0, 0⟩), .one (SV.v ⟨none, 0, 0⟩), .one (SV.v ⟨none, 0, 0⟩)] rfl rfl Tryz.zeroValue88 rfl fun b_2 => ?_
 refine TL.done <| TC.seq <| TC.region ?_
 refine TL.bslice0 Ei Tryz.underlying36 Tryz.sizeOf2 rfl rfl fun s4 => ?_
 refine TL.as (SV.v s4) <| TL.as (.int .i64 0) <| TL.done <| TC.seq <| TC.seq <| TC.region ?_
 refine TL.as (.int .i64 0) <| TL.done ?_
 refine TC.loop1 (σ := (List Int) × (List Int) × (List Int) × (List Int) × Int × Int) (γ := SV × SV × SV × SV) (Γ' := (fun p q => match p, q with | (y1, y2, y3, x5, x6, x7), (s5, s6, s7, s8) => [(1, strv x4), (2, bp b_1 0), (4, bp b_2 0), (5, SV.v s8), (6, .int .i64 x6), (7, .int .i64 x7)])) (L' := (fun p q => match p, q with | (y1, y2, y3, x5, x6, x7), (s5, s6, s7, s8) => [box b_1 88 [.one (SV.v s5), .one (SV.v s6), .one (SV.v s7)], row Ei 2 s5 y1, row Ei 2 s6 y2, row Ei 2 s7 y3, box b_2 88 [.one (SV.v ⟨none, 0, 0⟩), .one (SV.v ⟨none, 0, 0⟩), .one (SV.v ⟨none, 0, 0⟩)], row Ei 2 s8 x5])) (Γb := (fun p q => match p, q with | (y1, y2, y3, x5, x6, x7), (s5, s6, s7, s8) => [(1, strv x4), (2, bp b_1 0), (4, bp b_2 0), (5, SV.v s8), (6, .int .i64 x6), (7, .int .i64 x7)])) (Lb := (fun p q => match p, q with | (y1, y2, y3, x5, x6, x7), (s5, s6, s7, s8) => [box b_1 88 [.one (SV.v s5), .one (SV.v s6), .one (SV.v s7)], row Ei 2 s5 y1, row Ei 2 s6 y2, row Ei 2 s7 y3, box b_2 88 [.one (SV.v ⟨none, 0, 0⟩), .one (SV.v ⟨none, 0, 0⟩), .one (SV.v ⟨none, 0, 0⟩)], row Ei 2 s8 x5])) ((x1, x2, x3, ([] : List Int), 0, 0)) ((s1, s2, s3, s4)) ⟨rfl, rfl, rfl, rfl, rfl, rfl, trivial⟩ [2, 2, 2, 2, 1, 0] rfl ?_ ?_
 ·rintro ⟨y1, y2, y3, x5, x6, x7⟩ ⟨s5, s6, s7, s8⟩
  refine TC.seq <| TC.seq <| TC.region <| TL.mv (.int .i64 x7) <| TL.mv (strv x4) <| TL.lenstr Tryz.underlying9 rfl rfl rfl ?_
  refine TL.bn .i64 x7 (x4.length : Int) (.bool (decide (x7 < (x4.length : Int)))) <| TL.done ?_
  refine TC.cond (b := (decide (x7 < (x4.length : Int)))) rfl (fun c1 => ?_) (fun c2 => ?_)
  ·refine TC.skip <| TC.seq ?_
   refine TC.blockJ (σ := (List Int) × (List Int) × (List Int) × (List Int) × Int) (γ := SV × SV × SV × SV) (Γ' := (fun p q => match p, q with | (y7, y8, y9, x14, x15), (s15, s16, s17, s18) => [(1, strv x4), (2, bp b_1 0), (4, bp b_2 0), (5, SV.v s18), (6, .int .i64 x15), (7, .int .i64 x7)])) (L' := (fun p q => match p, q with | (y7, y8, y9, x14, x15), (s15, s16, s17, s18) => [box b_1 88 [.one (SV.v s15), .one (SV.v s16), .one (SV.v s17)], row Ei 2 s15 y7, row Ei 2 s16 y8, row Ei 2 s17 y9, box b_2 88 [.one (SV.v ⟨none, 0, 0⟩), .one (SV.v ⟨none, 0, 0⟩), .one (SV.v ⟨none, 0, 0⟩)], row Ei 2 s18 x14])) ?_ ?_
   ·refine TC.seq <| TC.region <| TL.mv (strv x4) <| TL.mv (.int .i64 x7) ?_
    refine TL.chk fun h1 => ?_
    refine TL.ixstr x7 h1 Tryz.underlying9 rfl rfl rfl rfl ?_
    refine TL.call (R := G.spec_l04Legs.R) Tryz.call75 rfl rfl rfl (fun w hS => G.spec_l04Legs.calls w (gt x4 x7)) ?_
    rintro ⟨r_1, r_2, r_3⟩ _ _ ⟨rfl, rfl⟩
    refine TL.mv (.tuple #[.int .i64 r_1, .int .i64 r_2, .bool r_3]) <| TL.extract rfl rfl rfl (v := .int .i64 r_1) rfl <| TL.extract rfl rfl rfl (v := .int .i64 r_2) rfl <| TL.extract rfl rfl rfl (v := .bool r_3) rfl <| TL.as (.int .i64 r_1) <| TL.as (.int .i64 r_2) ?_
    refine TL.as (.bool r_3) <| TL.done <| TC.seq <| TC.seq <| TC.region <| TL.mv (strv x4) ?_
    refine TL.mv (.int .i64 x7) <| TL.ixstr x7 h1 Tryz.underlying9 rfl rfl rfl rfl <| TL.bn .u8 ((gt x4 x7).toNat : Int) ((120 : UInt8).toNat : Int) (.bool (((gt x4 x7).toNat : Int) == ((120 : UInt8).toNat : Int))) <| TL.done ?_
    refine TC.cond (b := (((gt x4 x7).toNat : Int) == ((120 : UInt8).toNat : Int))) rfl (fun c3 => ?_) (fun c4 => ?_)
    ·refine TC.seq ?_
     refine TC.wk (Γ' := [(1, strv x4), (2, bp b_1 0), (4, bp b_2 0), (6, .int .i64 x6), (7, .int .i64 x7), (16, .int .i64 x7), (17, strv x4), (18, .int .i64 (x4.length : Int)), (19, .bool (decide (x7 < (x4.length : Int)))), (23, strv x4), (24, .int .i64 x7), (25, u8v (gt x4 x7)), (26, .tuple #[.int .i64 r_1, .int .i64 r_2, .bool r_3]), (22, .tuple #[.int .i64 r_1, .int .i64 r_2, .bool r_3]), (27, .int .i64 r_1), (28, .int .i64 r_2), (29, .bool r_3), (8, .int .i64 r_1), (9, .int .i64 r_2), (10, .bool r_3), (30, strv x4), (31, .int .i64 x7), (32, u8v (gt x4 x7)), (33, .bool (((gt x4 x7).toNat : Int) == ((120 : UInt8).toNat : Int))), (5, SV.v s8)]) ⟨rfl, rfl, rfl, rfl, rfl, rfl, rfl, rfl, rfl, rfl, rfl, rfl, rfl, rfl, rfl, rfl, rfl, rfl, rfl, rfl, rfl, rfl, rfl, rfl, rfl, trivial⟩ ?_
     refine TC.chk fun h2 => ?_
     refine TC.chk fun h3 => ?_
     refine TC.small fun h4 => ?_
     refine TC.drawG [(1, strv x4), (2, bp b_1 0), (4, bp b_2 0), (6, .int .i64 x6), (7, .int .i64 x7), (16, .int .i64 x7), (17, strv x4), (18, .int .i64 (x4.length : Int)), (19, .bool (decide (x7 < (x4.length : Int)))), (23, strv x4), (24, .int .i64 x7), (25, u8v (gt x4 x7)), (26, .tuple #[.int .i64 r_1, .int .i64 r_2, .bool r_3]), (22, .tuple #[.int .i64 r_1, .int .i64 r_2, .bool r_3]), (27, .int .i64 r_1), (28, .int .i64 r_2), (29, .bool r_3), (8, .int .i64 r_1), (9, .int .i64 r_2), (10, .bool r_3), (30, strv x4), (31, .int .i64 x7), (32, u8v (gt x4 x7)), (33, .bool (((gt x4 x7).toNat : Int) == ((120 : UInt8).toNat : Int)))] [(5, SV.v s8, 14)] ⟨rfl, rfl, rfl, rfl, rfl, rfl, rfl, rfl, rfl, rfl, rfl, rfl, rfl, rfl, rfl, rfl, rfl, rfl, rfl, rfl, rfl, rfl, rfl, rfl, trivial⟩ ⟨rfl, trivial⟩ (fun l_ g1 => [box b_1 88 [.one (SV.v s5), .one (SV.v s6), .one (SV.v s7)], row Ei 2 s5 y1, row Ei 2 s6 y2, row Ei 2 s7 y3, box b_2 88 [.one (SV.v ⟨none, 0, 0⟩), .one (SV.v ⟨none, 0, 0⟩), .one (SV.v ⟨none, 0, 0⟩)], (bif nb l_ 13 then row Ei 2 (gs (g1 104)) (x5 ++ ([(gt y3 (w64 (x6 + 1))), (gt y3 x6)] : List Int)) else row Ei 2 s8 x5), (bif nb l_ 12 then row Ei 2 (gs (g1 96)) ([(gt y3 (w64 (x6 + 1))), (gt y3 x6)] : List Int) else emp)]) (fun g1 => [SV.v s8, bp b_1 2, SV.v s7, .int .i64 x6, .int .i64 (w64 (x6 + 1)), ep s7 ((w64 (x6 + 1)).toNat), .int .i64 (gt y3 (w64 (x6 + 1))), bp b_1 2, SV.v s7, .int .i64 x6, ep s7 x6.toNat, .int .i64 (gt y3 x6), SV.v (gs (g1 96)), SV.v (gs (g1 104)), SV.v (gs (g1 104))]) [[], [], [1], [], [3], [1, 2, 3, 4], [1, 2, 3, 4, 5], [], [7], [], [7, 8, 9], [7, 8, 9, 10], [1, 2, 3, 4, 5, 6, 7, 8, 9, 10, 11], [0, 1, 2, 3, 4, 5, 6, 7, 8, 9, 10, 11, 12], [0, 1, 2, 3, 4, 5, 6, 7, 8, 9, 10, 11, 12, 13]] [[oF, none, none, none, none, none, none, none, none, none, none, none, none, oF, oF], [none, oF, oF, none, none, oF, oF, none, none, none, none, none, oF, oF, oF], [none, oT, oF, none, none, oF, oF, none, none, none, none, none, oF, oF, oF], [none, none, none, oF, oF, oF, oF, none, none, none, none, none, oF, oF, oF], [none, none, none, oT, oF, oF, oF, none, none, none, none, none, oF, oF, oF], [none, oT, oT, oT, oT, oF, oF, none, none, none, none, none, oF, oF, oF], [none, oT, oT, oT, oT, oT, oF, none, none, none, none, none, oF, oF, oF], [none, none, none, none, none, none, none, oF, oF, none, oF, oF, oF, oF, oF], [none, none, none, none, none, none, none, oT, oF, none, oF, oF, oF, oF, oF], [none, none, none, none, none, none, none, none, none, oF, oF, oF, oF, oF, oF], [none, none, none, none, none, none, none, oT, oT, oT, oF, oF, oF, oF, oF], [none, none, none, none, none, none, none, oT, oT, oT, oT, oF, oF, oF, oF], [none, oT, oT, oT, oT, oT, oT, oT, oT, oT, oT, oT, oF, oF, oF], [oT, oT, oT, oT, oT, oT, oT, oT, oT, oT, oT, oT, oT, oF, oF], [oT, oT, oT, oT, oT, oT, oT, oT, oT, oT, oT, oT, oT, oT, oF]] (by kernel_rfl) (fun _ => rfl) rfl rfl rfl rfl rfl (fun _ _ => ⟨⟨⟨⟨⟨⟨⟨⟨⟨⟨⟨⟨⟨⟨⟨trivial, rfl⟩, rfl⟩, rfl⟩, rfl⟩, rfl⟩, rfl⟩, rfl⟩, rfl⟩, rfl⟩, rfl⟩, rfl⟩, rfl⟩, rfl⟩, rfl⟩, rfl⟩) 1 [1, 1, 1, 1, 1, 1, 0] (fun _ => by kernel_rfl) ?_ ?_
     ·refine ⟨rfl, ?_, rfl, ?_, rfl, ?_, rfl, ?_, rfl, ?_, rfl, ?_, rfl, ?_, rfl, ?_, rfl, ?_, rfl, ?_, rfl, ?_, rfl, ?_, rfl, ?_, rfl, ?_, rfl, ?_, trivial⟩
      ·intro b1_ b2_ b3_ b4_ b5_ b6_ b7_ b8_ b9_ b10_ b11_ b12_ g1
       exact TL.mv (SV.v s8) <| TL.done <| TC.n1 [0, 0, 0, 0, 0, 0, 0]
      ·intro b0_ b3_ b4_ b7_ b8_ b9_ b10_ b11_ g1
       exact TL.ll [box b_1 88 [.one (SV.v s5), .one (SV.v s6), .one (SV.v s7)], row Ei 2 s5 y1, row Ei 2 s6 y2, row Ei 2 s7 y3, box b_2 88 [.one (SV.v ⟨none, 0, 0⟩), .one (SV.v ⟨none, 0, 0⟩), .one (SV.v ⟨none, 0, 0⟩)], row Ei 2 s8 x5, emp] <| TL.fa Tryz.underlying88 rfl Tryz.sizeOf36 rfl 2 rfl rfl rfl rfl <| TL.done <| TC.n1 [0, 0, 0, 0, 0, 0, 0]
      ·intro b0_ b3_ b4_ b7_ b8_ b9_ b10_ b11_ g1
       exact TL.ll [box b_1 88 [.one (SV.v s5), .one (SV.v s6), .one (SV.v s7)], row Ei 2 s5 y1, row Ei 2 s6 y2, row Ei 2 s7 y3, box b_2 88 [.one (SV.v ⟨none, 0, 0⟩), .one (SV.v ⟨none, 0, 0⟩), .one (SV.v ⟨none, 0, 0⟩)], row Ei 2 s8 x5, emp] <| TL.load1 2 (Src.box 0 rfl) Tryz.isAgg36 rfl rfl rfl rfl rfl <| TL.done <| TC.n1 [0, 0, 0, 0, 0, 0, 0]
      ·intro b0_ b1_ b2_ b7_ b8_ b9_ b10_ b11_ g1
       exact TL.mv (.int .i64 x6) <| TL.done <| TC.n1 [0, 0, 0, 0, 0, 0, 0]
      ·intro b0_ b1_ b2_ b7_ b8_ b9_ b10_ b11_ g1
       exact TL.bn .i64 x6 1 (.int .i64 (w64 (x6 + 1))) <| TL.done <| TC.n1 [0, 0, 0, 0, 0, 0, 0]
      ·intro b0_ b7_ b8_ b9_ b10_ b11_ g1
       exact TL.ll [box b_1 88 [.one (SV.v s5), .one (SV.v s6), .one (SV.v s7)], row Ei 2 s5 y1, row Ei 2 s6 y2, row Ei 2 s7 y3, box b_2 88 [.one (SV.v ⟨none, 0, 0⟩), .one (SV.v ⟨none, 0, 0⟩), .one (SV.v ⟨none, 0, 0⟩)], row Ei 2 s8 x5, emp] <| TL.ixs (w64 (x6 + 1)) ((w64 (x6 + 1)).toNat) (Rd.row 3 rfl) h2 Tryz.underlying36 Tryz.sizeOf2 rfl rfl rfl rfl (by omega) <| TL.done <| TC.n1 [0, 0, 0, 0, 0, 0, 0]
      ·intro b0_ b7_ b8_ b9_ b10_ b11_ g1
       refine TL.ll [box b_1 88 [.one (SV.v s5), .one (SV.v s6), .one (SV.v s7)], row Ei 2 s5 y1, row Ei 2 s6 y2, row Ei 2 s7 y3, box b_2 88 [.one (SV.v ⟨none, 0, 0⟩), .one (SV.v ⟨none, 0, 0⟩), .one (SV.v ⟨none, 0, 0⟩)], row Ei 2 s8 x5, emp] ?_
       refine TL.loadE (Rd.row 3 rfl) Tryz.isAgg2 (w64 (x6 + 1)).toNat 0 (gt_spec h2) (v := .int .i64 (gt y3 (w64 (x6 + 1)))) rfl (by simp only [show Ei.sz = 1 from rfl] <;> omega) rfl rfl rfl ?_
       exact TL.done <| TC.n1 [0, 0, 0, 0, 0, 0, 0]
      ·intro b0_ b1_ b2_ b3_ b4_ b5_ b6_ b9_ g1
       exact TL.ll [box b_1 88 [.one (SV.v s5), .one (SV.v s6), .one (SV.v s7)], row Ei 2 s5 y1, row Ei 2 s6 y2, row Ei 2 s7 y3, box b_2 88 [.one (SV.v ⟨none, 0, 0⟩), .one (SV.v ⟨none, 0, 0⟩), .one (SV.v ⟨none, 0, 0⟩)], row Ei 2 s8 x5, emp] <| TL.fa Tryz.underlying88 rfl Tryz.sizeOf36 rfl 2 rfl rfl rfl rfl <| TL.done <| TC.n1 [0, 0, 0, 0, 0, 0, 0]
      ·intro b0_ b1_ b2_ b3_ b4_ b5_ b6_ b9_ g1
       exact TL.ll [box b_1 88 [.one (SV.v s5), .one (SV.v s6), .one (SV.v s7)], row Ei 2 s5 y1, row Ei 2 s6 y2, row Ei 2 s7 y3, box b_2 88 [.one (SV.v ⟨none, 0, 0⟩), .one (SV.v ⟨none, 0, 0⟩), .one (SV.v ⟨none, 0, 0⟩)], row Ei 2 s8 x5, emp] <| TL.load1 2 (Src.box 0 rfl) Tryz.isAgg36 rfl rfl rfl rfl rfl <| TL.done <| TC.n1 [0, 0, 0, 0, 0, 0, 0]
      ·intro b0_ b1_ b2_ b3_ b4_ b5_ b6_ b7_ b8_ g1
       exact TL.mv (.int .i64 x6) <| TL.done <| TC.n1 [0, 0, 0, 0, 0, 0, 0]
      ·intro b0_ b1_ b2_ b3_ b4_ b5_ b6_ g1
       exact TL.ll [box b_1 88 [.one (SV.v s5), .one (SV.v s6), .one (SV.v s7)], row Ei 2 s5 y1, row Ei 2 s6 y2, row Ei 2 s7 y3, box b_2 88 [.one (SV.v ⟨none, 0, 0⟩), .one (SV.v ⟨none, 0, 0⟩), .one (SV.v ⟨none, 0, 0⟩)], row Ei 2 s8 x5, emp] <| TL.ixs x6 x6.toNat (Rd.row 3 rfl) h3 Tryz.underlying36 Tryz.sizeOf2 rfl rfl rfl rfl (by omega) <| TL.done <| TC.n1 [0, 0, 0, 0, 0, 0, 0]
      ·intro b0_ b1_ b2_ b3_ b4_ b5_ b6_ g1
       refine TL.ll [box b_1 88 [.one (SV.v s5), .one (SV.v s6), .one (SV.v s7)], row Ei 2 s5 y1, row Ei 2 s6 y2, row Ei 2 s7 y3, box b_2 88 [.one (SV.v ⟨none, 0, 0⟩), .one (SV.v ⟨none, 0, 0⟩), .one (SV.v ⟨none, 0, 0⟩)], row Ei 2 s8 x5, emp] ?_
       refine TL.loadE (Rd.row 3 rfl) Tryz.isAgg2 x6.toNat 0 (gt_spec h3) (v := .int .i64 (gt y3 x6)) rfl (by simp only [show Ei.sz = 1 from rfl] <;> omega) rfl rfl rfl ?_
       exact TL.done <| TC.n1 [0, 0, 0, 0, 0, 0, 0]
      ·intro b0_ g1
       refine TL.ll [box b_1 88 [.one (SV.v s5), .one (SV.v s6), .one (SV.v s7)], row Ei 2 s5 y1, row Ei 2 s6 y2, row Ei 2 s7 y3, box b_2 88 [.one (SV.v ⟨none, 0, 0⟩), .one (SV.v ⟨none, 0, 0⟩), .one (SV.v ⟨none, 0, 0⟩)], row Ei 2 s8 x5, emp] ?_
       refine TL.blit Ei ([(gt y3 (w64 (x6 + 1))), (gt y3 x6)] : List Int) Tryz.underlying36 Tryz.sizeOf2 Tryz.zeroValue2 rfl rfl rfl [(0, .int .i64 (gt y3 (w64 (x6 + 1)))), (1, .int .i64 (gt y3 x6))] rfl ⟨rfl, rfl, rfl, rfl, trivial⟩ rfl rfl fun s19 => ?_
       exact TL.done <| TC.nrm () [[s19]] ⟨rfl, trivial⟩ [1, 1, 1, 1, 1, 1, 0] (by kernel_rfl)
      ·intro g1
       refine TL.ll [box b_1 88 [.one (SV.v s5), .one (SV.v s6), .one (SV.v s7)], row Ei 2 s5 y1, row Ei 2 s6 y2, row Ei 2 s7 y3, box b_2 88 [.one (SV.v ⟨none, 0, 0⟩), .one (SV.v ⟨none, 0, 0⟩), .one (SV.v ⟨none, 0, 0⟩)], row Ei 2 s8 x5, row Ei 2 (gs (g1 96)) ([(gt y3 (w64 (x6 + 1))), (gt y3 x6)] : List Int)] ?_
       refine TL.append 5 rfl (Rd.row 6 rfl) Tryz.underlying36 (info_of Tryz.type2) (zv := (Tryz.t2.zero.getD (.bool false))) rfl rfl rfl (by decide) h4 rfl rfl rfl rfl fun s20 => ?_
       exact TL.done <| TC.nrm () [[s20]] ⟨rfl, trivial⟩ [0, 0, 0, 0, 0, 0, 0] (by kernel_rfl)
      intro g1
      exact TL.as (SV.v (gs (g1 104))) <| TL.done <| TC.n1 [0, 0, 0, 0, 0, 0, 0]
     intro g1
     refine TC.ll [box b_1 88 [.one (SV.v s5), .one (SV.v s6), .one (SV.v s7)], row Ei 2 s5 y1, row Ei 2 s6 y2, row Ei 2 s7 y3, box b_2 88 [.one (SV.v ⟨none, 0, 0⟩), .one (SV.v ⟨none, 0, 0⟩), .one (SV.v ⟨none, 0, 0⟩)], row Ei 2 (gs (g1 104)) (x5 ++ ([(gt y3 (w64 (x6 + 1))), (gt y3 x6)] : List Int)), row Ei 2 (gs (g1 96)) ([(gt y3 (w64 (x6 + 1))), (gt y3 x6)] : List Int)] <| TC.seq <| TC.region <| TL.mv (.int .i64 x6) <| TL.bn .i64 x6 2 (.int .i64 (w64 (x6 + 2))) <| TL.as (.int .i64 (w64 (x6 + 2))) ?_
     refine TL.done ?_
     exact TC.exB ((y1, y2, y3, (x5 ++ ([(gt y3 (w64 (x6 + 1))), (gt y3 x6)] : List Int)), (w64 (x6 + 2)))) ((s5, s6, s7, (gs (g1 104)))) ⟨rfl, rfl, rfl, rfl, rfl, rfl, trivial⟩ [0, 0, 0, 0, 0, 0] rfl
    refine TC.skip <| TC.seq ?_
    refine TC.wk (Γ' := [(1, strv x4), (2, bp b_1 0), (4, bp b_2 0), (5, SV.v s8), (6, .int .i64 x6), (7, .int .i64 x7), (16, .int .i64 x7), (17, strv x4), (18, .int .i64 (x4.length : Int)), (19, .bool (decide (x7 < (x4.length : Int)))), (23, strv x4), (24, .int .i64 x7), (25, u8v (gt x4 x7)), (26, .tuple #[.int .i64 r_1, .int .i64 r_2, .bool r_3]), (22, .tuple #[.int .i64 r_1, .int .i64 r_2, .bool r_3]), (27, .int .i64 r_1), (28, .int .i64 r_2), (29, .bool r_3), (8, .int .i64 r_1), (9, .int .i64 r_2), (10, .bool r_3), (30, strv x4), (31, .int .i64 x7), (32, u8v (gt x4 x7)), (33, .bool (((gt x4 x7).toNat : Int) == ((120 : UInt8).toNat : Int)))]) ⟨rfl, rfl, rfl, rfl, rfl, rfl, rfl, rfl, rfl, rfl, rfl, rfl, rfl, rfl, rfl, rfl, rfl, rfl, rfl, rfl, rfl, rfl, rfl, rfl, rfl, trivial⟩ ?_
    refine TC.bindE ?_
    rintro r_4 hr1
    refine TC.bindE ?_
    rintro ⟨r_5, r_6, r_7, r_8⟩ hr2
    refine TC.drawG [(1, strv x4), (2, bp b_1 0), (4, bp b_2 0), (5, SV.v s8), (6, .int .i64 x6), (7, .int .i64 x7), (16, .int .i64 x7), (17, strv x4), (18, .int .i64 (x4.length : Int)), (19, .bool (decide (x7 < (x4.length : Int)))), (23, strv x4), (24, .int .i64 x7), (25, u8v (gt x4 x7)), (26, .tuple #[.int .i64 r_1, .int .i64 r_2, .bool r_3]), (22, .tuple #[.int .i64 r_1, .int .i64 r_2, .bool r_3]), (27, .int .i64 r_1), (28, .int .i64 r_2), (29, .bool r_3), (8, .int .i64 r_1), (9, .int .i64 r_2), (10, .bool r_3), (30, strv x4), (31, .int .i64 x7), (32, u8v (gt x4 x7)), (33, .bool (((gt x4 x7).toNat : Int) == ((120 : UInt8).toNat : Int)))] [] ⟨rfl, rfl, rfl, rfl, rfl, rfl, rfl, rfl, rfl, rfl, rfl, rfl, rfl, rfl, rfl, rfl, rfl, rfl, rfl, rfl, rfl, rfl, rfl, rfl, rfl, trivial⟩ trivial (fun l_ g2 => [box b_1 88 [.one (SV.v s5), .one (SV.v s6), .one (SV.v s7)], (bif nb l_ 5 then emp else row Ei 2 s5 y1), (bif nb l_ 5 then emp else row Ei 2 s6 y2), (bif nb l_ 5 then emp else row Ei 2 s7 y3), box b_2 88 [.one (SV.v ⟨none, 0, 0⟩), .one (SV.v ⟨none, 0, 0⟩), .one (SV.v ⟨none, 0, 0⟩)], row Ei 2 s8 x5, (bif nb l_ 5 then row Ei 2 (gs (g2 40)) r_5 else emp), (bif nb l_ 5 then row Ei 2 (gs (g2 41)) r_6 else emp), (bif nb l_ 5 then row Ei 2 (gs (g2 42)) r_7 else emp), (bif nb l_ 10 then box (gs (g2 72)).n 88 [.one (SV.v (gs (g2 40))), .one (SV.v (gs (g2 41))), .one (SV.v (gs (g2 42)))] else (bif nb l_ 9 then box (gs (g2 72)).n 88 [.one (SV.v ⟨none, 0, 0⟩), .one (SV.v ⟨none, 0, 0⟩), .one (SV.v ⟨none, 0, 0⟩)] else emp))]) (fun g2 => [sval [.one (SV.v s5), .one (SV.v s6), .one (SV.v s7)], strv x4, .int .i64 x7, u8v (gt x4 x7), .int .i64 r_4, .tuple #[sval [.one (SV.v (gs (g2 40))), .one (SV.v (gs (g2 41))), .one (SV.v (gs (g2 42)))], .int .i64 r_8], .tuple #[sval [.one (SV.v (gs (g2 40))), .one (SV.v (gs (g2 41))), .one (SV.v (gs (g2 42)))], .int .i64 r_8], sval [.one (SV.v (gs (g2 40))), .one (SV.v (gs (g2 41))), .one (SV.v (gs (g2 42)))], .int .i64 r_8, bp (gs (g2 72)).n 0, undef, .int .i64 r_8]) [[], [], [], [1, 2], [1, 2, 3], [0, 1, 2, 3, 4], [0, 1, 2, 3, 4, 5], [0, 1, 2, 3, 4, 5, 6], [0, 1, 2, 3, 4, 5, 6], [], [0, 1, 2, 3, 4, 5, 6, 7, 9], [0, 1, 2, 3, 4, 5, 6, 7, 8, 9, 10]] [[oF, none, none, none, none, oF, oF, oF, oF, none, oF, oF], [none, oF, none, oF, oF, oF, oF, oF, oF, none, oF, oF], [none, none, oF, oF, oF, oF, oF, oF, oF, none, oF, oF], [none, oT, oT, oF, oF, oF, oF, oF, oF, none, oF, oF], [none, oT, oT, oT, oF, oF, oF, oF, oF, none, oF, oF], [oT, oT, oT, oT, oT, oF, oF, oF, oF, none, oF, oF], [oT, oT, oT, oT, oT, oT, oF, oF, oF, none, oF, oF], [oT, oT, oT, oT, oT, oT, oT, oF, none, none, oF, oF], [oT, oT, oT, oT, oT, oT, oT, none, oF, none, none, oF], [none, none, none, none, none, none, none, none, none, oF, oF, oF], [oT, oT, oT, oT, oT, oT, oT, oT, none, oT, oF, oF], [oT, oT, oT, oT, oT, oT, oT, oT, oT, oT, oT, oF]] (by kernel_rfl) (fun _ => rfl) rfl rfl rfl rfl rfl (fun _ _ => ⟨⟨⟨⟨⟨⟨⟨⟨⟨⟨⟨⟨trivial, rfl⟩, rfl⟩, rfl⟩, rfl⟩, rfl⟩, rfl⟩, rfl⟩, rfl⟩, rfl⟩, rfl⟩, rfl⟩, rfl⟩) 4 [4, 4, 4, 4, 4, 4, 0, 0, 0, 0] (fun _ => by kernel_rfl) ?_ ?_
    ·refine ⟨rfl, ?_, rfl, ?_, rfl, ?_, rfl, ?_, rfl, ?_, rfl, ?_, rfl, ?_, rfl, ?_, rfl, ?_, rfl, ?_, rfl, ?_, rfl, ?_, trivial⟩
     ·intro b1_ b2_ b3_ b4_ b9_ g2
      exact TL.ll [box b_1 88 [.one (SV.v s5), .one (SV.v s6), .one (SV.v s7)], row Ei 2 s5 y1, row Ei 2 s6 y2, row Ei 2 s7 y3, box b_2 88 [.one (SV.v ⟨none, 0, 0⟩), .one (SV.v ⟨none, 0, 0⟩), .one (SV.v ⟨none, 0, 0⟩)], row Ei 2 s8 x5, emp, emp, emp, (bif b9_ then box (gs (g2 72)).n 88 [.one (SV.v ⟨none, 0, 0⟩), .one (SV.v ⟨none, 0, 0⟩), .one (SV.v ⟨none, 0, 0⟩)] else emp)] <| TL.loadM 0 3 (Src.box 0 rfl) Tryz.isAgg88 Tryz.sizeOf88 (mid := [.one (SV.v s5), .one (SV.v s6), .one (SV.v s7)]) rfl rfl rfl rfl rfl rfl <| TL.done <| TC.n1 [0, 0, 0, 0, 0, 0, 0, 0, 0, 0]
     ·intro b0_ b2_ b9_ g2
      exact TL.mv (strv x4) <| TL.done <| TC.n1 [0, 0, 0, 0, 0, 0, 0, 0, 0, 0]
     ·intro b0_ b1_ b9_ g2
      exact TL.mv (.int .i64 x7) <| TL.done <| TC.n1 [0, 0, 0, 0, 0, 0, 0, 0, 0, 0]
     ·intro b0_ b9_ g2
      exact TL.ll [box b_1 88 [.one (SV.v s5), .one (SV.v s6), .one (SV.v s7)], row Ei 2 s5 y1, row Ei 2 s6 y2, row Ei 2 s7 y3, box b_2 88 [.one (SV.v ⟨none, 0, 0⟩), .one (SV.v ⟨none, 0, 0⟩), .one (SV.v ⟨none, 0, 0⟩)], row Ei 2 s8 x5, emp, emp, emp, (bif b9_ then box (gs (g2 72)).n 88 [.one (SV.v ⟨none, 0, 0⟩), .one (SV.v ⟨none, 0, 0⟩), .one (SV.v ⟨none, 0, 0⟩)] else emp)] <| TL.ixstr x7 h1 Tryz.underlying9 rfl rfl rfl rfl <| TL.done <| TC.n1 [0, 0, 0, 0, 0, 0, 0, 0, 0, 0]
     ·intro b0_ b9_ g2
      refine TL.ll [box b_1 88 [.one (SV.v s5), .one (SV.v s6), .one (SV.v s7)], row Ei 2 s5 y1, row Ei 2 s6 y2, row Ei 2 s7 y3, box b_2 88 [.one (SV.v ⟨none, 0, 0⟩), .one (SV.v ⟨none, 0, 0⟩), .one (SV.v ⟨none, 0, 0⟩)], row Ei 2 s8 x5, emp, emp, emp, (bif b9_ then box (gs (g2 72)).n 88 [.one (SV.v ⟨none, 0, 0⟩), .one (SV.v ⟨none, 0, 0⟩), .one (SV.v ⟨none, 0, 0⟩)] else emp)] ?_
      refine TL.callH (R := G.spec_l04Euler.R) hr1 Tryz.call37 rfl rfl rfl (fun w hS => G.spec_l04Euler.calls w (gt x4 x7)) ?_
      rintro _ _ ⟨rfl, rfl⟩
      exact TL.done <| TC.n1 [0, 0, 0, 0, 0, 0, 0, 0, 0, 0]
     ·intro b9_ g2
      refine TL.ll [box b_1 88 [.one (SV.v s5), .one (SV.v s6), .one (SV.v s7)], row Ei 2 s5 y1, row Ei 2 s6 y2, row Ei 2 s7 y3, box b_2 88 [.one (SV.v ⟨none, 0, 0⟩), .one (SV.v ⟨none, 0, 0⟩), .one (SV.v ⟨none, 0, 0⟩)], row Ei 2 s8 x5, emp, emp, emp, (bif b9_ then box (gs (g2 72)).n 88 [.one (SV.v ⟨none, 0, 0⟩), .one (SV.v ⟨none, 0, 0⟩), .one (SV.v ⟨none, 0, 0⟩)] else emp)] ?_
      refine TL.callXH (R := G.spec_l04Thing.R) hr2 [1, 1, 1, 0, 0, 0, 0, 0, 0, 0] [row Ei 2 s5 y1, row Ei 2 s6 y2, row Ei 2 s7 y3] [box b_1 88 [.one (SV.v s5), .one (SV.v s6), .one (SV.v s7)], box b_2 88 [.one (SV.v ⟨none, 0, 0⟩), .one (SV.v ⟨none, 0, 0⟩), .one (SV.v ⟨none, 0, 0⟩)], row Ei 2 s8 x5, emp, emp, emp, (bif b9_ then box (gs (g2 72)).n 88 [.one (SV.v ⟨none, 0, 0⟩), .one (SV.v ⟨none, 0, 0⟩), .one (SV.v ⟨none, 0, 0⟩)] else emp)] rfl Tryz.call61 rfl rfl rfl (fun w I_ hle hB hS => G.spec_l04Thing.calls _ I_ w s5 y1 s6 y2 s7 y3 r_4 hS) ?_
      rintro _ _ ⟨s21, s22, s23, rfl, rfl⟩
      exact TL.done <| TC.nrm () [[s21], [s22], [s23]] ⟨rfl, trivial⟩ [6, 3, 3, 3, 3, 3, 0, 0, 0, 3] (by kernel_rfl)
     ·intro b9_ g2
      exact TL.mv (.tuple #[sval [.one (SV.v (gs (g2 40))), .one (SV.v (gs (g2 41))), .one (SV.v (gs (g2 42)))], .int .i64 r_8]) <| TL.done <| TC.n1 [0, 0, 0, 0, 0, 0, 0, 0, 0, 0]
     ·intro b8_ b9_ g2
      exact TL.extract rfl rfl rfl (v := sval [.one (SV.v (gs (g2 40))), .one (SV.v (gs (g2 41))), .one (SV.v (gs (g2 42)))]) rfl <| TL.done <| TC.n1 [0, 0, 0, 0, 0, 0, 0, 0, 0, 0]
     ·intro b7_ b9_ b10_ g2
      exact TL.extract rfl rfl rfl (v := .int .i64 r_8) rfl <| TL.done <| TC.n1 [0, 0, 0, 0, 0, 0, 0, 0, 0, 0]
     ·intro b0_ b1_ b2_ b3_ b4_ b5_ b6_ b7_ b8_ g2
      refine TL.ll [box b_1 88 [.one (SV.v s5), .one (SV.v s6), .one (SV.v s7)], (bif b5_ then emp else row Ei 2 s5 y1), (bif b5_ then emp else row Ei 2 s6 y2), (bif b5_ then emp else row Ei 2 s7 y3), box b_2 88 [.one (SV.v ⟨none, 0, 0⟩), .one (SV.v ⟨none, 0, 0⟩), .one (SV.v ⟨none, 0, 0⟩)], row Ei 2 s8 x5, (bif b5_ then row Ei 2 (gs (g2 40)) r_5 else emp), (bif b5_ then row Ei 2 (gs (g2 41)) r_6 else emp), (bif b5_ then row Ei 2 (gs (g2 42)) r_7 else emp), emp] ?_
      refine TL.alloc [.one (SV.v ⟨none, 0, 0⟩), .one (SV.v ⟨none, 0, 0⟩), .one (SV.v ⟨none, 0, 0⟩)] rfl rfl Tryz.zeroValue88 rfl fun b_3 => ?_
      exact TL.done <| TC.nrm () [[⟨none, b_3, 0⟩]] ⟨rfl, trivial⟩ [1, 1, 1, 1, 1, 1, 1, 1, 1, 0] (by kernel_rfl)
     ·intro b8_ g2
      refine TL.ll [box b_1 88 [.one (SV.v s5), .one (SV.v s6), .one (SV.v s7)], emp, emp, emp, box b_2 88 [.one (SV.v ⟨none, 0, 0⟩), .one (SV.v ⟨none, 0, 0⟩), .one (SV.v ⟨none, 0, 0⟩)], row Ei 2 s8 x5, row Ei 2 (gs (g2 40)) r_5, row Ei 2 (gs (g2 41)) r_6, row Ei 2 (gs (g2 42)) r_7, box (gs (g2 72)).n 88 [.one (SV.v ⟨none, 0, 0⟩), .one (SV.v ⟨none, 0, 0⟩), .one (SV.v ⟨none, 0, 0⟩)]] ?_
      refine TL.stM (news := [.one (SV.v (gs (g2 40))), .one (SV.v (gs (g2 41))), .one (SV.v (gs (g2 42)))]) 9 0 3 rfl Tryz.sizeOf88 (ones_one rfl (ones_one rfl (ones_one rfl ones_nil))) rfl rfl rfl rfl rfl rfl ?_
      exact TL.done <| TC.nrm () [] trivial [0, 0, 0, 0, 0, 0, 0, 0, 0, 0] (by kernel_rfl)
     intro g2
     exact TL.as (.int .i64 r_8) <| TL.done <| TC.n1 [0, 0, 0, 0, 0, 0, 0, 0, 0, 0]
    intro g2
    refine TC.ll [box b_1 88 [.one (SV.v s5), .one (SV.v s6), .one (SV.v s7)], emp, emp, emp, box b_2 88 [.one (SV.v ⟨none, 0, 0⟩), .one (SV.v ⟨none, 0, 0⟩), .one (SV.v ⟨none, 0, 0⟩)], row Ei 2 s8 x5, row Ei 2 (gs (g2 40)) r_5, row Ei 2 (gs (g2 41)) r_6, row Ei 2 (gs (g2 42)) r_7, box (gs (g2 72)).n 88 [.one (SV.v (gs (g2 40))), .one (SV.v (gs (g2 41))), .one (SV.v (gs (g2 42)))]] <| TC.seq <| TC.region <| TL.loadM 0 3 (Src.box 9 rfl) Tryz.isAgg88 Tryz.sizeOf88 (mid := [.one (SV.v (gs (g2 40))), .one (SV.v (gs (g2 41))), .one (SV.v (gs (g2 42)))]) rfl rfl rfl rfl rfl rfl ?_
    refine TL.stM (news := [.one (SV.v (gs (g2 40))), .one (SV.v (gs (g2 41))), .one (SV.v (gs (g2 42)))]) 0 0 3 rfl Tryz.sizeOf88 (ones_one rfl (ones_one rfl (ones_one rfl ones_nil))) rfl rfl rfl rfl rfl rfl ?_
    refine TL.done <| TC.seq <| TC.seq <| TC.region <| TL.as (.int .i64 0) <| TL.done ?_
    refine TC.loop1 (σ := (List Int) × (List Int) × (List Int) × Int × Int) (γ := SV × SV × SV) (Γ' := (fun p q => match p, q with | (y10, y11, y12, x16, x17), (s24, s25, s26) => [(1, strv x4), (2, bp b_1 0), (4, bp b_2 0), (5, SV.v s8), (6, .int .i64 x16), (7, .int .i64 x7), (8, .int .i64 r_1), (9, .int .i64 r_2), (12, .int .i64 r_8), (13, .int .i64 x17)])) (L' := (fun p q => match p, q with | (y10, y11, y12, x16, x17), (s24, s25, s26) => [box b_1 88 [.one (SV.v s24), .one (SV.v s25), .one (SV.v s26)], row Ei 2 s24 y10, row Ei 2 s25 y11, row Ei 2 s26 y12, box b_2 88 [.one (SV.v ⟨none, 0, 0⟩), .one (SV.v ⟨none, 0, 0⟩), .one (SV.v ⟨none, 0, 0⟩)], row Ei 2 s8 x5])) (Γb := (fun p q => match p, q with | (y10, y11, y12, x16, x17), (s24, s25, s26) => [(1, strv x4), (2, bp b_1 0), (4, bp b_2 0), (5, SV.v s8), (6, .int .i64 x16), (7, .int .i64 x7), (8, .int .i64 r_1), (9, .int .i64 r_2), (12, .int .i64 r_8), (13, .int .i64 x17)])) (Lb := (fun p q => match p, q with | (y10, y11, y12, x16, x17), (s24, s25, s26) => [box b_1 88 [.one (SV.v s24), .one (SV.v s25), .one (SV.v s26)], row Ei 2 s24 y10, row Ei 2 s25 y11, row Ei 2 s26 y12, box b_2 88 [.one (SV.v ⟨none, 0, 0⟩), .one (SV.v ⟨none, 0, 0⟩), .one (SV.v ⟨none, 0, 0⟩)], row Ei 2 s8 x5])) ((r_5, r_6, r_7, x6, 0)) (((gs (g2 40)), (gs (g2 41)), (gs (g2 42)))) ⟨rfl, rfl, rfl, rfl, rfl, rfl, rfl, rfl, rfl, rfl, trivial⟩ [0, 5, 5, 5, 3, 3] rfl ?_ ?_
    ·rintro ⟨y10, y11, y12, x16, x17⟩ ⟨s24, s25, s26⟩
     refine TC.seq <| TC.seq <| TC.region <| TL.mv (.int .i64 x17) <| TL.mv (.int .i64 r_1) <| TL.bn .i64 x17 r_1 (.bool (decide (x17 < r_1))) ?_
     refine TL.done ?_
     refine TC.cond (b := (decide (x17 < r_1))) rfl (fun c5 => ?_) (fun c6 => ?_)
     ·refine TC.skip <| TC.seq <| TC.block (NoEx.loop1 rfl) <| TC.seq ?_
      refine TC.wk (Γ' := [(1, strv x4), (2, bp b_1 0), (4, bp b_2 0), (5, SV.v s8), (6, .int .i64 x16), (7, .int .i64 x7), (8, .int .i64 r_1), (9, .int .i64 r_2), (12, .int .i64 r_8), (13, .int .i64 x17), (60, .int .i64 x17), (61, .int .i64 r_1), (62, .bool (decide (x17 < r_1)))]) ⟨rfl, rfl, rfl, rfl, rfl, rfl, rfl, rfl, rfl, rfl, rfl, rfl, rfl, trivial⟩ ?_
      refine TC.chk fun h5 => ?_
      refine TC.bindE ?_
      rintro ⟨r_9, r_10, r_11⟩ hr3
      refine TC.drawG [(1, strv x4), (2, bp b_1 0), (4, bp b_2 0), (5, SV.v s8), (6, .int .i64 x16), (7, .int .i64 x7), (8, .int .i64 r_1), (9, .int .i64 r_2), (12, .int .i64 r_8), (13, .int .i64 x17), (60, .int .i64 x17), (61, .int .i64 r_1), (62, .bool (decide (x17 < r_1)))] [] ⟨rfl, rfl, rfl, rfl, rfl, rfl, rfl, rfl, rfl, rfl, rfl, rfl, rfl, trivial⟩ trivial (fun l_ g3 => [(bif nb l_ 8 then box b_1 88 [.one (SV.v (gs (g3 56))), .one (SV.v (gs (g3 57))), .one (SV.v (gs (g3 58)))] else box b_1 88 [.one (SV.v s24), .one (SV.v s25), .one (SV.v s26)]), (bif nb l_ 7 then emp else row Ei 2 s24 y10), (bif nb l_ 7 then emp else row Ei 2 s25 y11), (bif nb l_ 7 then emp else row Ei 2 s26 y12), box b_2 88 [.one (SV.v ⟨none, 0, 0⟩), .one (SV.v ⟨none, 0, 0⟩), .one (SV.v ⟨none, 0, 0⟩)], row Ei 2 s8 x5, (bif nb l_ 7 then row Ei 2 (gs (g3 56)) r_9 else emp), (bif nb l_ 7 then row Ei 2 (gs (g3 57)) r_10 else emp), (bif nb l_ 7 then row Ei 2 (gs (g3 58)) r_11 else emp)]) (fun g3 => [sval [.one (SV.v s24), .one (SV.v s25), .one (SV.v s26)], .int .i64 r_8, bp b_1 2, SV.v s26, .int .i64 x16, ep s26 x16.toNat, .int .i64 (gt y12 x16), sval [.one (SV.v (gs (g3 56))), .one (SV.v (gs (g3 57))), .one (SV.v (gs (g3 58)))], undef]) [[], [], [], [2], [], [2, 3, 4], [2, 3, 4, 5], [0, 1, 2, 3, 4, 5, 6], [0, 1, 2, 3, 4, 5, 6, 7]] [[oF, none, none, none, none, none, none, oF, oF], [none, oF, none, none, none, none, none, oF, oF], [none, none, oF, oF, none, oF, oF, oF, oF], [none, none, oT, oF, none, oF, oF, oF, oF], [none, none, none, none, oF, oF, oF, oF, oF], [none, none, oT, oT, oT, oF, oF, oF, oF], [none, none, oT, oT, oT, oT, oF, oF, oF], [oT, oT, oT, oT, oT, oT, oT, oF, oF], [oT, oT, oT, oT, oT, oT, oT, oT, oF]] (by kernel_rfl) (fun _ => rfl) rfl rfl rfl rfl rfl (fun _ _ => ⟨⟨⟨⟨⟨⟨⟨⟨⟨trivial, rfl⟩, rfl⟩, rfl⟩, rfl⟩, rfl⟩, rfl⟩, rfl⟩, rfl⟩, rfl⟩) 3 [3, 3, 3, 3, 3, 3, 0, 0, 0] (fun _ => by kernel_rfl) ?_ ?_
      ·refine ⟨rfl, ?_, rfl, ?_, rfl, ?_, rfl, ?_, rfl, ?_, rfl, ?_, rfl, ?_, rfl, ?_, rfl, ?_, trivial⟩
       ·intro b1_ b2_ b3_ b4_ b5_ b6_ g3
        exact TL.ll [box b_1 88 [.one (SV.v s24), .one (SV.v s25), .one (SV.v s26)], row Ei 2 s24 y10, row Ei 2 s25 y11, row Ei 2 s26 y12, box b_2 88 [.one (SV.v ⟨none, 0, 0⟩), .one (SV.v ⟨none, 0, 0⟩), .one (SV.v ⟨none, 0, 0⟩)], row Ei 2 s8 x5, emp, emp, emp] <| TL.loadM 0 3 (Src.box 0 rfl) Tryz.isAgg88 Tryz.sizeOf88 (mid := [.one (SV.v s24), .one (SV.v s25), .one (SV.v s26)]) rfl rfl rfl rfl rfl rfl <| TL.done <| TC.n1 [0, 0, 0, 0, 0, 0, 0, 0, 0]
       ·intro b0_ b2_ b3_ b4_ b5_ b6_ g3
        exact TL.mv (.int .i64 r_8) <| TL.done <| TC.n1 [0, 0, 0, 0, 0, 0, 0, 0, 0]
       ·intro b0_ b1_ b4_ g3
        exact TL.ll [box b_1 88 [.one (SV.v s24), .one (SV.v s25), .one (SV.v s26)], row Ei 2 s24 y10, row Ei 2 s25 y11, row Ei 2 s26 y12, box b_2 88 [.one (SV.v ⟨none, 0, 0⟩), .one (SV.v ⟨none, 0, 0⟩), .one (SV.v ⟨none, 0, 0⟩)], row Ei 2 s8 x5, emp, emp, emp] <| TL.fa Tryz.underlying88 rfl Tryz.sizeOf36 rfl 2 rfl rfl rfl rfl <| TL.done <| TC.n1 [0, 0, 0, 0, 0, 0, 0, 0, 0]
       ·intro b0_ b1_ b4_ g3
        exact TL.ll [box b_1 88 [.one (SV.v s24), .one (SV.v s25), .one (SV.v s26)], row Ei 2 s24 y10, row Ei 2 s25 y11, row Ei 2 s26 y12, box b_2 88 [.one (SV.v ⟨none, 0, 0⟩), .one (SV.v ⟨none, 0, 0⟩), .one (SV.v ⟨none, 0, 0⟩)], row Ei 2 s8 x5, emp, emp, emp] <| TL.load1 2 (Src.box 0 rfl) Tryz.isAgg36 rfl rfl rfl rfl rfl <| TL.done <| TC.n1 [0, 0, 0, 0, 0, 0, 0, 0, 0]
       ·intro b0_ b1_ b2_ b3_ g3
        exact TL.mv (.int .i64 x16) <| TL.done <| TC.n1 [0, 0, 0, 0, 0, 0, 0, 0, 0]
       ·intro b0_ b1_ g3
        exact TL.ll [box b_1 88 [.one (SV.v s24), .one (SV.v s25), .one (SV.v s26)], row Ei 2 s24 y10, row Ei 2 s25 y11, row Ei 2 s26 y12, box b_2 88 [.one (SV.v ⟨none, 0, 0⟩), .one (SV.v ⟨none, 0, 0⟩), .one (SV.v ⟨none, 0, 0⟩)], row Ei 2 s8 x5, emp, emp, emp] <| TL.ixs x16 x16.toNat (Rd.row 3 rfl) h5 Tryz.underlying36 Tryz.sizeOf2 rfl rfl rfl rfl (by omega) <| TL.done <| TC.n1 [0, 0, 0, 0, 0, 0, 0, 0, 0]
       ·intro b0_ b1_ g3
        refine TL.ll [box b_1 88 [.one (SV.v s24), .one (SV.v s25), .one (SV.v s26)], row Ei 2 s24 y10, row Ei 2 s25 y11, row Ei 2 s26 y12, box b_2 88 [.one (SV.v ⟨none, 0, 0⟩), .one (SV.v ⟨none, 0, 0⟩), .one (SV.v ⟨none, 0, 0⟩)], row Ei 2 s8 x5, emp, emp, emp] ?_
        refine TL.loadE (Rd.row 3 rfl) Tryz.isAgg2 x16.toNat 0 (gt_spec h5) (v := .int .i64 (gt y12 x16)) rfl (by simp only [show Ei.sz = 1 from rfl] <;> omega) rfl rfl rfl ?_
        exact TL.done <| TC.n1 [0, 0, 0, 0, 0, 0, 0, 0, 0]
       ·intro g3
        refine TL.ll [box b_1 88 [.one (SV.v s24), .one (SV.v s25), .one (SV.v s26)], row Ei 2 s24 y10, row Ei 2 s25 y11, row Ei 2 s26 y12, box b_2 88 [.one (SV.v ⟨none, 0, 0⟩), .one (SV.v ⟨none, 0, 0⟩), .one (SV.v ⟨none, 0, 0⟩)], row Ei 2 s8 x5, emp, emp, emp] ?_
        refine TL.callXH (R := G.spec_l04Join.R) hr3 [1, 1, 1, 0, 0, 0, 0, 0, 0] [row Ei 2 s24 y10, row Ei 2 s25 y11, row Ei 2 s26 y12] [box b_1 88 [.one (SV.v s24), .one (SV.v s25), .one (SV.v s26)], box b_2 88 [.one (SV.v ⟨none, 0, 0⟩), .one (SV.v ⟨none, 0, 0⟩), .one (SV.v ⟨none, 0, 0⟩)], row Ei 2 s8 x5, emp, emp, emp] rfl Tryz.call84 rfl rfl rfl (fun w I_ hle hB hS => G.spec_l04Join.calls _ I_ w s24 y10 s25 y11 s26 y12 r_8 (gt y12 x16) hS) ?_
        rintro _ _ ⟨s27, s28, s29, rfl, rfl⟩
        exact TL.done <| TC.nrm () [[s27], [s28], [s29]] ⟨rfl, trivial⟩ [6, 3, 3, 3, 3, 3, 0, 0, 0] (by kernel_rfl)
       intro g3
       refine TL.ll [box b_1 88 [.one (SV.v s24), .one (SV.v s25), .one (SV.v s26)], emp, emp, emp, box b_2 88 [.one (SV.v ⟨none, 0, 0⟩), .one (SV.v ⟨none, 0, 0⟩), .one (SV.v ⟨none, 0, 0⟩)], row Ei 2 s8 x5, row Ei 2 (gs (g3 56)) r_9, row Ei 2 (gs (g3 57)) r_10, row Ei 2 (gs (g3 58)) r_11] ?_
       refine TL.stM (news := [.one (SV.v (gs (g3 56))), .one (SV.v (gs (g3 57))), .one (SV.v (gs (g3 58)))]) 0 0 3 rfl Tryz.sizeOf88 (ones_one rfl (ones_one rfl (ones_one rfl ones_nil))) rfl rfl rfl rfl rfl rfl ?_
       exact TL.done <| TC.nrm () [] trivial [0, 0, 0, 0, 0, 0, 0, 0, 0] (by kernel_rfl)
      intro g3
      refine TC.ll [box b_1 88 [.one (SV.v (gs (g3 56))), .one (SV.v (gs (g3 57))), .one (SV.v (gs (g3 58)))], emp, emp, emp, box b_2 88 [.one (SV.v ⟨none, 0, 0⟩), .one (SV.v ⟨none, 0, 0⟩), .one (SV.v ⟨none, 0, 0⟩)], row Ei 2 s8 x5, row Ei 2 (gs (g3 56)) r_9, row Ei 2 (gs (g3 57)) r_10, row Ei 2 (gs (g3 58)) r_11] <| TC.region <| TL.mv (.int .i64 x16) <| TL.bn .i64 x16 1 (.int .i64 (w64 (x16 + 1))) <| TL.as (.int .i64 (w64 (x16 + 1))) <| TL.done ?_
      refine TC.region <| TL.mv (.int .i64 x17) <| TL.bn .i64 x17 1 (.int .i64 (w64 (x17 + 1))) <| TL.as (.int .i64 (w64 (x17 + 1))) <| TL.done ?_
      exact TC.next1 ((r_9, r_10, r_11, (w64 (x16 + 1)), (w64 (x17 + 1)))) (((gs (g3 56)), (gs (g3 57)), (gs (g3 58)))) ⟨rfl, rfl, rfl, rfl, rfl, rfl, rfl, rfl, rfl, rfl, trivial⟩ [0, 5, 5, 5, 3, 3] rfl
     exact TC.brk1 ((y10, y11, y12, x16, x17)) ((s24, s25, s26)) ⟨rfl, rfl, rfl, rfl, rfl, rfl, rfl, rfl, rfl, rfl, trivial⟩ [0, 0, 0, 0, 0, 0] rfl
    rintro ⟨y10, y11, y12, x16, x17⟩ ⟨s24, s25, s26⟩
    refine TC.seq <| TC.region <| TL.as (.int .i64 0) <| TL.done ?_
    refine TC.loop1 (σ := (List Int) × Int) (γ := SV) (Γ' := (fun p q => match p, q with | (x18, x19), s30 => [(1, strv x4), (2, bp b_1 0), (4, bp b_2 0), (5, SV.v s30), (6, .int .i64 x16), (7, .int .i64 x7), (9, .int .i64 r_2), (12, .int .i64 r_8), (14, .int .i64 x19)])) (L' := (fun p q => match p, q with | (x18, x19), s30 => [box b_1 88 [.one (SV.v s24), .one (SV.v s25), .one (SV.v s26)], row Ei 2 s24 y10, row Ei 2 s25 y11, row Ei 2 s26 y12, box b_2 88 [.one (SV.v ⟨none, 0, 0⟩), .one (SV.v ⟨none, 0, 0⟩), .one (SV.v ⟨none, 0, 0⟩)], row Ei 2 s30 x18])) (Γb := (fun p q => match p, q with | (x18, x19), s30 => [(1, strv x4), (2, bp b_1 0), (4, bp b_2 0), (5, SV.v s30), (6, .int .i64 x16), (7, .int .i64 x7), (9, .int .i64 r_2), (12, .int .i64 r_8), (14, .int .i64 x19)])) (Lb := (fun p q => match p, q with | (x18, x19), s30 => [box b_1 88 [.one (SV.v s24), .one (SV.v s25), .one (SV.v s26)], row Ei 2 s24 y10, row Ei 2 s25 y11, row Ei 2 s26 y12, box b_2 88 [.one (SV.v ⟨none, 0, 0⟩), .one (SV.v ⟨none, 0, 0⟩), .one (SV.v ⟨none, 0, 0⟩)], row Ei 2 s30 x18])) ((x5, 0)) (s8) ⟨rfl, rfl, rfl, rfl, rfl, rfl, rfl, rfl, rfl, trivial⟩ [0, 0, 0, 0, 0, 0] rfl ?_ ?_
    ·rintro ⟨x18, x19⟩ s30
     refine TC.seq <| TC.seq <| TC.region <| TL.mv (.int .i64 x19) <| TL.mv (.int .i64 r_2) <| TL.bn .i64 x19 r_2 (.bool (decide (x19 < r_2))) ?_
     refine TL.done ?_
     refine TC.cond (b := (decide (x19 < r_2))) rfl (fun c7 => ?_) (fun c8 => ?_)
     ·refine TC.skip <| TC.seq <| TC.block (NoEx.loop1 rfl) <| TC.region <| TL.mv (SV.v s30) <| TL.mv (.int .i64 r_8) ?_
      refine TL.blit Ei ([r_8] : List Int) Tryz.underlying36 Tryz.sizeOf2 Tryz.zeroValue2 rfl rfl rfl [(0, .int .i64 r_8)] rfl ⟨rfl, rfl, trivial⟩ rfl rfl fun s31 => ?_
      refine TL.small fun h6 => ?_
      refine TL.append 6 rfl (Rd.row 0 rfl) Tryz.underlying36 (info_of Tryz.type2) (zv := (Tryz.t2.zero.getD (.bool false))) rfl rfl rfl (by decide) h6 rfl rfl rfl rfl fun s32 => ?_
      refine TL.as (SV.v s32) <| TL.done <| TC.region <| TL.mv (.int .i64 x19) <| TL.bn .i64 x19 1 (.int .i64 (w64 (x19 + 1))) <| TL.as (.int .i64 (w64 (x19 + 1))) ?_
      refine TL.done ?_
      exact TC.next1 (((x18 ++ ([r_8] : List Int)), (w64 (x19 + 1)))) (s32) ⟨rfl, rfl, rfl, rfl, rfl, rfl, rfl, rfl, rfl, trivial⟩ [1, 1, 1, 1, 1, 1] rfl
     exact TC.brk1 ((x18, x19)) (s30) ⟨rfl, rfl, rfl, rfl, rfl, rfl, rfl, rfl, rfl, trivial⟩ [0, 0, 0, 0, 0, 0] rfl
    rintro ⟨x18, x19⟩ s30
    exact TC.inlB ((y10, y11, y12, x18, x16)) ((s24, s25, s26, s30)) ⟨rfl, rfl, rfl, rfl, rfl, rfl, trivial⟩ [0, 0, 0, 0, 0, 0] rfl
   rintro ⟨y7, y8, y9, x14, x15⟩ ⟨s15, s16, s17, s18⟩
   refine TC.region <| TL.mv (.int .i64 x7) <| TL.bn .i64 x7 1 (.int .i64 (w64 (x7 + 1))) <| TL.as (.int .i64 (w64 (x7 + 1))) <| TL.done ?_
   exact TC.next1 ((y7, y8, y9, x14, x15, (w64 (x7 + 1)))) ((s15, s16, s17, s18)) ⟨rfl, rfl, rfl, rfl, rfl, rfl, trivial⟩ [0, 0, 0, 0, 0, 0] rfl
  exact TC.brk1 ((y1, y2, y3, x5, x6, x7)) ((s5, s6, s7, s8)) ⟨rfl, rfl, rfl, rfl, rfl, rfl, trivial⟩ [0, 0, 0, 0, 0, 0] rfl
 rintro ⟨y1, y2, y3, x5, x6, x7⟩ ⟨s5, s6, s7, s8⟩
 refine TC.seq <| TC.region <| TL.mv (SV.v s8) <| TL.fa Tryz.underlying88 rfl Tryz.sizeOf36 rfl 2 rfl rfl rfl rfl ?_
 refine TL.st1 0 2 rfl Tryz.sizeOf36 rfl rfl rfl rfl rfl rfl rfl ?_
 refine TL.done <| TC.seq <| TC.region <| TL.loadM 0 3 (Src.box 0 rfl) Tryz.isAgg88 Tryz.sizeOf88 (mid := [.one (SV.v s5), .one (SV.v s6), .one (SV.v s8)]) rfl rfl rfl rfl rfl rfl ?_
 refine TL.stM (news := [.one (SV.v s5), .one (SV.v s6), .one (SV.v s8)]) 4 0 3 rfl Tryz.sizeOf88 (ones_one rfl (ones_one rfl (ones_one rfl ones_nil))) rfl rfl rfl rfl rfl rfl ?_
 refine TL.done ?_
 refine TC.mkemp ?_
 refine TC.mkemp ?_
 refine TC.mkemp ?_
 exact TC.retF (Fin.body (fin1 (.inr rfl) rfl (.cellN rfl (Src.box 7 rfl) Tryz.isAgg88 Tryz.sizeOf88 rfl) [4, 4, 6, 0, 0, 0] rfl ⟨s5, s6, s8, rfl, rfl⟩))
def spec_l04Before.f (x1 : Int) (x2 : List Int) (x3 : List Int) (x4 : Int) (x5 : List Int) (x6 : List Int) : Option Bool := (bif ((decide ((x2.length : Int) > 0)) && (decide ((x5.length : Int) > 0))) then chk 0 x2.length (chk 0 x5.length (some (decide ((gt x2 0) < (gt x5 0))))) else (bif ((decide ((x2.length : Int) > 0)) || (decide ((x5.length : Int) > 0))) then some (decide ((x2.length : Int) > 0)) else (bif ((decide ((x3.length : Int) > 0)) && (decide ((x6.length : Int) > 0))) then chk 0 x3.length (chk 0 x6.length (some (decide ((gt x3 0) < (gt x6 0))))) else (bif ((decide ((x3.length : Int) > 0)) || (decide ((x6.length : Int) > 0))) then some (decide ((x3.length : Int) > 0)) else some (decide (x1 < x4))))))
def spec_l04Before.R (r : Bool) (v : Value) (L : List Asn) : Prop := v = .bool r ∧ L = []
theorem spec_l04Before.calls (w : World) (x1 : Int) (s1 : SV) (x2 : List Int) (s2 : SV) (x3 : List Int) (x4 : Int) (s3 : SV) (x5 : List Int) (s4 : SV) (x6 : List Int) (h1 : Reads Ei (hp w) s1 x2) (h2 : Reads Ei (hp w) s2 x3) (h3 : Reads Ei (hp w) s3 x5) (h4 : Reads Ei (hp w) s4 x6) :
  ∀ r, spec_l04Before.f x1 x2 x3 x4 x5 x6 = some r → Calls Tryz.prog 85 #[sval [.one (.int .i64 x1), .one (SV.v s1), .one (SV.v s2)], sval [.one (.int .i64 x4), .one (SV.v s3), .one (SV.v s4)]] w (Ret w (spec_l04Before.R r)) := by
 refine calls_T (n := 80) (Γ := [(0, sval [.one (.int .i64 x1), .one (SV.v s1), .one (SV.v s2)]), (1, sval [.one (.int .i64 x4), .one (SV.v s3), .one (SV.v s4)])]) (R := spec_l04Before.R) Tryz.func85 rfl rfl (Nat.le_of_ble_eq_true rfl) ⟨rfl, rfl, trivial⟩ ?_
 unfold spec_l04Before.f
 refine TC.seq <| TC.region ?_
 refine TL.box [.one (.int .i64 x1), .one (SV.v s1), .one (SV.v s2)] rfl rfl rfl rfl fun b_1 => ?_
 refine TL.box [.one (.int .i64 x4), .one (SV.v s3), .one (SV.v s4)] rfl rfl rfl rfl fun b_2 => ?_
 refine TL.as (.bool false) <| TL.done <| TC.seq <| TC.block NoEx.body <| TC.seq <| TC.region ?_
 refine TL.fa Tryz.underlying44 rfl Tryz.sizeOf36 rfl 1 rfl rfl rfl rfl <| TL.load1 1 (Src.box 1 rfl) Tryz.isAgg36 rfl rfl rfl rfl rfl <| TL.len (Rd.old h1) Tryz.underlying36 rfl rfl rfl <| TL.bn .i64 (x2.length : Int) 0 (.bool (decide ((x2.length : Int) > 0))) <| TL.mv (.bool (decide ((x2.length : Int) > 0))) ?_
 refine TL.cutU 5 [(15, .bool ((decide ((x2.length : Int) > 0)) && (decide ((x5.length : Int) > 0)))), (0, sval [.one (.int .i64 x1), .one (SV.v s1), .one (SV.v s2)]), (1, sval [.one (.int .i64 x4), .one (SV.v s3), .one (SV.v s4)]), (2, bp b_1 0), (3, bp b_2 0), (4, .bool false), (6, bp b_1 1), (7, SV.v s1), (8, .int .i64 (x2.length : Int)), (9, .bool (decide ((x2.length : Int) > 0))), (10, .bool (decide ((x2.length : Int) > 0)))] [box b_2 44 [.one (.int .i64 x4), .one (SV.v s3), .one (SV.v s4)], box b_1 44 [.one (.int .i64 x1), .one (SV.v s1), .one (SV.v s2)]] ?_ ?_
 ·refine TL.cases (t := 10) (b := (decide ((x2.length : Int) > 0))) rfl (fun c1 => ?_) (fun c2 => ?_)
  ·refine TL.fa Tryz.underlying44 rfl Tryz.sizeOf36 rfl 1 rfl rfl rfl rfl <| TL.load1 1 (Src.box 0 rfl) Tryz.isAgg36 rfl rfl rfl rfl rfl <| TL.len (Rd.old h3) Tryz.underlying36 rfl rfl rfl <| TL.bn .i64 (x5.length : Int) 0 (.bool (decide ((x5.length : Int) > 0))) <| TL.pk true (.bool (decide ((x5.length : Int) > 0))) <| TL.done ?_
   exact TC.nrm () () ⟨(by rw [c1]; rfl), rfl, rfl, rfl, rfl, rfl, rfl, rfl, rfl, rfl, (by rw [c1]; rfl), trivial⟩ [0, 0] (by kernel_rfl)
  refine TL.sk <| TL.sk <| TL.sk <| TL.sk <| TL.pk false (.bool false) <| TL.done ?_
  exact TC.nrm () () ⟨(by rw [c2]; rfl), rfl, rfl, rfl, rfl, rfl, rfl, rfl, rfl, rfl, (by rw [c2]; rfl), trivial⟩ [0, 0] (by kernel_rfl)
 refine TL.as (.bool ((decide ((x2.length : Int) > 0)) && (decide ((x5.length : Int) > 0)))) <| TL.done ?_
 refine TC.cond (b := ((decide ((x2.length : Int) > 0)) && (decide ((x5.length : Int) > 0)))) rfl (fun c3 => ?_) (fun c4 => ?_)
 ·refine TC.seq ?_
  refine TC.wk (Γ' := [(0, sval [.one (.int .i64 x1), .one (SV.v s1), .one (SV.v s2)]), (1, sval [.one (.int .i64 x4), .one (SV.v s3), .one (SV.v s4)]), (2, bp b_1 0), (3, bp b_2 0), (6, bp b_1 1), (7, SV.v s1), (8, .int .i64 (x2.length : Int)), (9, .bool (decide ((x2.length : Int) > 0))), (10, .bool (decide ((x2.length : Int) > 0))), (15, .bool ((decide ((x2.length : Int) > 0)) && (decide ((x5.length : Int) > 0)))), (5, .bool ((decide ((x2.length : Int) > 0)) && (decide ((x5.length : Int) > 0))))]) ⟨rfl, rfl, rfl, rfl, rfl, rfl, rfl, rfl, rfl, rfl, rfl, trivial⟩ ?_
  refine TC.chk fun h5 => ?_
  refine TC.chk fun h6 => ?_
  refine TC.draw [bp b_1 1, SV.v s1, ep s1 0, .int .i64 (gt x2 0), bp b_2 1, SV.v s3, ep s3 0, .int .i64 (gt x5 0), .bool (decide ((gt x2 0) < (gt x5 0))), .bool (decide ((gt x2 0) < (gt x5 0)))] 10 [box b_2 44 [.one (.int .i64 x4), .one (SV.v s3), .one (SV.v s4)], box b_1 44 [.one (.int .i64 x1), .one (SV.v s1), .one (SV.v s2)]] (by kernel_rfl) rfl rfl rfl rfl ?_ ?_
  ·refine ⟨?_, ?_, ?_, ?_, ?_, ?_, ?_, ?_, ?_, ?_, trivial⟩
   ·exact TL.fa Tryz.underlying44 rfl Tryz.sizeOf36 rfl 1 rfl rfl rfl rfl <| TL.done <| TC.n0 [0, 0]
   ·exact TL.load1 1 (Src.box 1 rfl) Tryz.isAgg36 rfl rfl rfl rfl rfl <| TL.done <| TC.n0 [0, 0]
   ·exact TL.ixs 0 0 (Rd.old h1) h5 Tryz.underlying36 Tryz.sizeOf2 rfl rfl rfl rfl rfl <| TL.done <| TC.n0 [0, 0]
   ·exact TL.loadE (Rd.old h1) Tryz.isAgg2 0 0 (gt_spec h5) (v := .int .i64 (gt x2 0)) rfl rfl rfl rfl rfl <| TL.done <| TC.n0 [0, 0]
   ·exact TL.fa Tryz.underlying44 rfl Tryz.sizeOf36 rfl 1 rfl rfl rfl rfl <| TL.done <| TC.n0 [0, 0]
   ·exact TL.load1 1 (Src.box 0 rfl) Tryz.isAgg36 rfl rfl rfl rfl rfl <| TL.done <| TC.n0 [0, 0]
   ·exact TL.ixs 0 0 (Rd.old h3) h6 Tryz.underlying36 Tryz.sizeOf2 rfl rfl rfl rfl rfl <| TL.done <| TC.n0 [0, 0]
   ·exact TL.loadE (Rd.old h3) Tryz.isAgg2 0 0 (gt_spec h6) (v := .int .i64 (gt x5 0)) rfl rfl rfl rfl rfl <| TL.done <| TC.n0 [0, 0]
   ·exact TL.bn .i64 (gt x2 0) (gt x5 0) (.bool (decide ((gt x2 0) < (gt x5 0)))) <| TL.done <| TC.n0 [0, 0]
   exact TL.as (.bool (decide ((gt x2 0) < (gt x5 0)))) <| TL.done <| TC.n0 [0, 0]
  exact TC.retF (Fin.body (fin1 (.inr rfl) rfl (.tmp rfl) [] rfl ⟨rfl, rfl⟩))
 refine TC.seq <| TC.region <| TL.fa Tryz.underlying44 rfl Tryz.sizeOf36 rfl 1 rfl rfl rfl rfl <| TL.load1 1 (Src.box 1 rfl) Tryz.isAgg36 rfl rfl rfl rfl rfl <| TL.len (Rd.old h1) Tryz.underlying36 rfl rfl rfl <| TL.bn .i64 (x2.length : Int) 0 (.bool (decide ((x2.length : Int) > 0))) ?_
 refine TL.mv (.bool (decide ((x2.length : Int) > 0))) ?_
 refine TL.cutU 5 [(35, .bool ((decide ((x2.length : Int) > 0)) || (decide ((x5.length : Int) > 0)))), (0, sval [.one (.int .i64 x1), .one (SV.v s1), .one (SV.v s2)]), (1, sval [.one (.int .i64 x4), .one (SV.v s3), .one (SV.v s4)]), (2, bp b_1 0), (3, bp b_2 0), (4, .bool false), (6, bp b_1 1), (7, SV.v s1), (8, .int .i64 (x2.length : Int)), (9, .bool (decide ((x2.length : Int) > 0))), (10, .bool (decide ((x2.length : Int) > 0))), (15, .bool ((decide ((x2.length : Int) > 0)) && (decide ((x5.length : Int) > 0)))), (5, .bool ((decide ((x2.length : Int) > 0)) && (decide ((x5.length : Int) > 0)))), (26, bp b_1 1), (27, SV.v s1), (28, .int .i64 (x2.length : Int)), (29, .bool (decide ((x2.length : Int) > 0))), (30, .bool (decide ((x2.length : Int) > 0)))] [box b_2 44 [.one (.int .i64 x4), .one (SV.v s3), .one (SV.v s4)], box b_1 44 [.one (.int .i64 x1), .one (SV.v s1), .one (SV.v s2)]] ?_ ?_
 ·refine TL.cases (t := 30) (b := (decide ((x2.length : Int) > 0))) rfl (fun c5 => ?_) (fun c6 => ?_)
  ·refine TL.sk <| TL.sk <| TL.sk <| TL.sk <| TL.pk true (.bool true) <| TL.done ?_
   exact TC.nrm () () ⟨(by rw [c5]; rfl), rfl, rfl, rfl, rfl, rfl, rfl, rfl, rfl, rfl, rfl, rfl, rfl, rfl, rfl, rfl, rfl, (by rw [c5]; rfl), trivial⟩ [0, 0] (by kernel_rfl)
  refine TL.fa Tryz.underlying44 rfl Tryz.sizeOf36 rfl 1 rfl rfl rfl rfl <| TL.load1 1 (Src.box 0 rfl) Tryz.isAgg36 rfl rfl rfl rfl rfl <| TL.len (Rd.old h3) Tryz.underlying36 rfl rfl rfl <| TL.bn .i64 (x5.length : Int) 0 (.bool (decide ((x5.length : Int) > 0))) <| TL.pk false (.bool (decide ((x5.length : Int) > 0))) <| TL.done ?_
  exact TC.nrm () () ⟨(by rw [c6]; rfl), rfl, rfl, rfl, rfl, rfl, rfl, rfl, rfl, rfl, rfl, rfl, rfl, rfl, rfl, rfl, rfl, (by rw [c6]; rfl), trivial⟩ [0, 0] (by kernel_rfl)
 refine TL.as (.bool ((decide ((x2.length : Int) > 0)) || (decide ((x5.length : Int) > 0)))) <| TL.done ?_
 refine TC.cond (b := ((decide ((x2.length : Int) > 0)) || (decide ((x5.length : Int) > 0)))) rfl (fun c7 => ?_) (fun c8 => ?_)
 ·refine TC.seq <| TC.region <| TL.fa Tryz.underlying44 rfl Tryz.sizeOf36 rfl 1 rfl rfl rfl rfl <| TL.load1 1 (Src.box 1 rfl) Tryz.isAgg36 rfl rfl rfl rfl rfl <| TL.len (Rd.old h1) Tryz.underlying36 rfl rfl rfl <| TL.bn .i64 (x2.length : Int) 0 (.bool (decide ((x2.length : Int) > 0))) ?_
  exact TL.as (.bool (decide ((x2.length : Int) > 0))) <| TL.done <| TC.retF (Fin.body (fin1 (.inr rfl) rfl (.tmp rfl) [] rfl ⟨rfl, rfl⟩))
 refine TC.seq <| TC.region <| TL.fa Tryz.underlying44 rfl Tryz.sizeOf36 rfl 2 rfl rfl rfl rfl <| TL.load1 2 (Src.box 1 rfl) Tryz.isAgg36 rfl rfl rfl rfl rfl <| TL.len (Rd.old h2) Tryz.underlying36 rfl rfl rfl <| TL.bn .i64 (x3.length : Int) 0 (.bool (decide ((x3.length : Int) > 0))) ?_
 refine TL.mv (.bool (decide ((x3.length : Int) > 0))) ?_
 refine TL.cutU 5 [(50, .bool ((decide ((x3.length : Int) > 0)) && (decide ((x6.length : Int) > 0)))), (0, sval [.one (.int .i64 x1), .one (SV.v s1), .one (SV.v s2)]), (1, sval [.one (.int .i64 x4), .one (SV.v s3), .one (SV.v s4)]), (2, bp b_1 0), (3, bp b_2 0), (4, .bool false), (6, bp b_1 1), (7, SV.v s1), (8, .int .i64 (x2.length : Int)), (9, .bool (decide ((x2.length : Int) > 0))), (10, .bool (decide ((x2.length : Int) > 0))), (15, .bool ((decide ((x2.length : Int) > 0)) && (decide ((x5.length : Int) > 0)))), (5, .bool ((decide ((x2.length : Int) > 0)) && (decide ((x5.length : Int) > 0)))), (26, bp b_1 1), (27, SV.v s1), (28, .int .i64 (x2.length : Int)), (29, .bool (decide ((x2.length : Int) > 0))), (30, .bool (decide ((x2.length : Int) > 0))), (35, .bool ((decide ((x2.length : Int) > 0)) || (decide ((x5.length : Int) > 0)))), (25, .bool ((decide ((x2.length : Int) > 0)) || (decide ((x5.length : Int) > 0)))), (41, bp b_1 2), (42, SV.v s2), (43, .int .i64 (x3.length : Int)), (44, .bool (decide ((x3.length : Int) > 0))), (45, .bool (decide ((x3.length : Int) > 0)))] [box b_2 44 [.one (.int .i64 x4), .one (SV.v s3), .one (SV.v s4)], box b_1 44 [.one (.int .i64 x1), .one (SV.v s1), .one (SV.v s2)]] ?_ ?_
 ·refine TL.cases (t := 45) (b := (decide ((x3.length : Int) > 0))) rfl (fun c9 => ?_) (fun c10 => ?_)
  ·refine TL.fa Tryz.underlying44 rfl Tryz.sizeOf36 rfl 2 rfl rfl rfl rfl <| TL.load1 2 (Src.box 0 rfl) Tryz.isAgg36 rfl rfl rfl rfl rfl <| TL.len (Rd.old h4) Tryz.underlying36 rfl rfl rfl <| TL.bn .i64 (x6.length : Int) 0 (.bool (decide ((x6.length : Int) > 0))) <| TL.pk true (.bool (decide ((x6.length : Int) > 0))) <| TL.done ?_
   exact TC.nrm () () ⟨(by rw [c9]; rfl), rfl, rfl, rfl, rfl, rfl, rfl, rfl, rfl, rfl, rfl, rfl, rfl, rfl, rfl, rfl, rfl, rfl, rfl, rfl, rfl, rfl, rfl, rfl, (by rw [c9]; rfl), trivial⟩ [0, 0] (by kernel_rfl)
  refine TL.sk <| TL.sk <| TL.sk <| TL.sk <| TL.pk false (.bool false) <| TL.done ?_
  exact TC.nrm () () ⟨(by rw [c10]; rfl), rfl, rfl, rfl, rfl, rfl, rfl, rfl, rfl, rfl, rfl, rfl, rfl, rfl, rfl, rfl, rfl, rfl, rfl, rfl, rfl, rfl, rfl, rfl, (by rw [c10]; rfl), trivial⟩ [0, 0] (by kernel_rfl)
 refine TL.as (.bool ((decide ((x3.length : Int) > 0)) && (decide ((x6.length : Int) > 0)))) <| TL.done ?_
 refine TC.cond (b := ((decide ((x3.length : Int) > 0)) && (decide ((x6.length : Int) > 0)))) rfl (fun c11 => ?_) (fun c12 => ?_)
 ·refine TC.seq ?_
  refine TC.wk (Γ' := [(0, sval [.one (.int .i64 x1), .one (SV.v s1), .one (SV.v s2)]), (1, sval [.one (.int .i64 x4), .one (SV.v s3), .one (SV.v s4)]), (2, bp b_1 0), (3, bp b_2 0), (6, bp b_1 1), (7, SV.v s1), (8, .int .i64 (x2.length : Int)), (9, .bool (decide ((x2.length : Int) > 0))), (10, .bool (decide ((x2.length : Int) > 0))), (15, .bool ((decide ((x2.length : Int) > 0)) && (decide ((x5.length : Int) > 0)))), (5, .bool ((decide ((x2.length : Int) > 0)) && (decide ((x5.length : Int) > 0)))), (26, bp b_1 1), (27, SV.v s1), (28, .int .i64 (x2.length : Int)), (29, .bool (decide ((x2.length : Int) > 0))), (30, .bool (decide ((x2.length : Int) > 0))), (35, .bool ((decide ((x2.length : Int) > 0)) || (decide ((x5.length : Int) > 0)))), (25, .bool ((decide ((x2.length : Int) > 0)) || (decide ((x5.length : Int) > 0)))), (41, bp b_1 2), (42, SV.v s2), (43, .int .i64 (x3.length : Int)), (44, .bool (decide ((x3.length : Int) > 0))), (45, .bool (decide ((x3.length : Int) > 0))), (50, .bool ((decide ((x3.length : Int) > 0)) && (decide ((x6.length : Int) > 0)))), (40, .bool ((decide ((x3.length : Int) > 0)) && (decide ((x6.length : Int) > 0))))]) ⟨rfl, rfl, rfl, rfl, rfl, rfl, rfl, rfl, rfl, rfl, rfl, rfl, rfl, rfl, rfl, rfl, rfl, rfl, rfl, rfl, rfl, rfl, rfl, rfl, rfl, trivial⟩ ?_
  refine TC.chk fun h7 => ?_
  refine TC.chk fun h8 => ?_
  refine TC.draw [bp b_1 2, SV.v s2, ep s2 0, .int .i64 (gt x3 0), bp b_2 2, SV.v s4, ep s4 0, .int .i64 (gt x6 0), .bool (decide ((gt x3 0) < (gt x6 0))), .bool (decide ((gt x3 0) < (gt x6 0)))] 10 [box b_2 44 [.one (.int .i64 x4), .one (SV.v s3), .one (SV.v s4)], box b_1 44 [.one (.int .i64 x1), .one (SV.v s1), .one (SV.v s2)]] (by kernel_rfl) rfl rfl rfl rfl ?_ ?_
  ·refine ⟨?_, ?_, ?_, ?_, ?_, ?_, ?_, ?_, ?_, ?_, trivial⟩
   ·exact TL.fa Tryz.underlying44 rfl Tryz.sizeOf36 rfl 2 rfl rfl rfl rfl <| TL.done <| TC.n0 [0, 0]
   ·exact TL.load1 2 (Src.box 1 rfl) Tryz.isAgg36 rfl rfl rfl rfl rfl <| TL.done <| TC.n0 [0, 0]
   ·exact TL.ixs 0 0 (Rd.old h2) h7 Tryz.underlying36 Tryz.sizeOf2 rfl rfl rfl rfl rfl <| TL.done <| TC.n0 [0, 0]
   ·exact TL.loadE (Rd.old h2) Tryz.isAgg2 0 0 (gt_spec h7) (v := .int .i64 (gt x3 0)) rfl rfl rfl rfl rfl <| TL.done <| TC.n0 [0, 0]
   ·exact TL.fa Tryz.underlying44 rfl Tryz.sizeOf36 rfl 2 rfl rfl rfl rfl <| TL.done <| TC.n0 [0, 0]
   ·exact TL.load1 2 (Src.box 0 rfl) Tryz.isAgg36 rfl rfl rfl rfl rfl <| TL.done <| TC.n0 [0, 0]
   ·exact TL.ixs 0 0 (Rd.old h4) h8 Tryz.underlying36 Tryz.sizeOf2 rfl rfl rfl rfl rfl <| TL.done <| TC.n0 [0, 0]
   ·exact TL.loadE (Rd.old h4) Tryz.isAgg2 0 0 (gt_spec h8) (v := .int .i64 (gt x6 0)) rfl rfl rfl rfl rfl <| TL.done <| TC.n0 [0, 0]
   ·exact TL.bn .i64 (gt x3 0) (gt x6 0) (.bool (decide ((gt x3 0) < (gt x6 0)))) <| TL.done <| TC.n0 [0, 0]
   exact TL.as (.bool (decide ((gt x3 0) < (gt x6 0)))) <| TL.done <| TC.n0 [0, 0]
  exact TC.retF (Fin.body (fin1 (.inr rfl) rfl (.tmp rfl) [] rfl ⟨rfl, rfl⟩))
 refine TC.seq <| TC.region <| TL.fa Tryz.underlying44 rfl Tryz.sizeOf36 rfl 2 rfl rfl rfl rfl <| TL.load1 2 (Src.box 1 rfl) Tryz.isAgg36 rfl rfl rfl rfl rfl <| TL.len (Rd.old h2) Tryz.underlying36 rfl rfl rfl <| TL.bn .i64 (x3.length : Int) 0 (.bool (decide ((x3.length : Int) > 0))) ?_
 refine TL.mv (.bool (decide ((x3.length : Int) > 0))) ?_
 refine TL.cutU 5 [(70, .bool ((decide ((x3.length : Int) > 0)) || (decide ((x6.length : Int) > 0)))), (0, sval [.one (.int .i64 x1), .one (SV.v s1), .one (SV.v s2)]), (1, sval [.one (.int .i64 x4), .one (SV.v s3), .one (SV.v s4)]), (2, bp b_1 0), (3, bp b_2 0), (4, .bool false), (6, bp b_1 1), (7, SV.v s1), (8, .int .i64 (x2.length : Int)), (9, .bool (decide ((x2.length : Int) > 0))), (10, .bool (decide ((x2.length : Int) > 0))), (15, .bool ((decide ((x2.length : Int) > 0)) && (decide ((x5.length : Int) > 0)))), (5, .bool ((decide ((x2.length : Int) > 0)) && (decide ((x5.length : Int) > 0)))), (26, bp b_1 1), (27, SV.v s1), (28, .int .i64 (x2.length : Int)), (29, .bool (decide ((x2.length : Int) > 0))), (30, .bool (decide ((x2.length : Int) > 0))), (35, .bool ((decide ((x2.length : Int) > 0)) || (decide ((x5.length : Int) > 0)))), (25, .bool ((decide ((x2.length : Int) > 0)) || (decide ((x5.length : Int) > 0)))), (41, bp b_1 2), (42, SV.v s2), (43, .int .i64 (x3.length : Int)), (44, .bool (decide ((x3.length : Int) > 0))), (45, .bool (decide ((x3.length : Int) > 0))), (50, .bool ((decide ((x3.length : Int) > 0)) && (decide ((x6.length : Int) > 0)))), (40, .bool ((decide ((x3.length : Int) > 0)) && (decide ((x6.length : Int) > 0)))), (61, bp b_1 2), (62, SV.v s2), (63, .int .i64 (x3.length : Int)), (64, .bool (decide ((x3.length : Int) > 0))), (65, .bool (decide ((x3.length : Int) > 0)))] [box b_2 44 [.one (.int .i64 x4), .one (SV.v s3), .one (SV.v s4)], box b_1 44 [.one (.int .i64 x1), .one (SV.v s1), .one (SV.v s2)]] ?_ ?_
 ·refine TL.cases (t := 65) (b := (decide ((x3.length : Int) > 0))) rfl (fun c13 => ?_) (fun c14 => ?_)
  ·refine TL.sk <| TL.sk <| TL.sk <| TL.sk <| TL.pk true (.bool true) <| TL.done ?_
   exact TC.nrm () () ⟨(by rw [c13]; rfl), rfl, rfl, rfl, rfl, rfl, rfl, rfl, rfl, rfl, rfl, rfl, rfl, rfl, rfl, rfl, rfl, rfl, rfl, rfl, rfl, rfl, rfl, rfl, rfl, rfl, rfl, rfl, rfl, rfl, rfl, (by rw [c13]; rfl), trivial⟩ [0, 0] (by kernel_rfl)
  refine TL.fa Tryz.underlying44 rfl Tryz.sizeOf36 rfl 2 rfl rfl rfl rfl <| TL.load1 2 (Src.box 0 rfl) Tryz.isAgg36 rfl rfl rfl rfl rfl <| TL.len (Rd.old h4) Tryz.underlying36 rfl rfl rfl <| TL.bn .i64 (x6.length : Int) 0 (.bool (decide ((x6.length : Int) > 0))) <| TL.pk false (.bool (decide ((x6.length : Int) > 0))) <| TL.done ?_
  exact TC.nrm () () ⟨(by rw [c14]; rfl), rfl, rfl, rfl, rfl, rfl, rfl, rfl, rfl, rfl, rfl, rfl, rfl, rfl, rfl, rfl, rfl, rfl, rfl, rfl, rfl, rfl, rfl, rfl, rfl, rfl, rfl, rfl, rfl, rfl, rfl, (by rw [c14]; rfl), trivial⟩ [0, 0] (by kernel_rfl)
 refine TL.as (.bool ((decide ((x3.length : Int) > 0)) || (decide ((x6.length : Int) > 0)))) <| TL.done ?_
 refine TC.cond (b := ((decide ((x3.length : Int) > 0)) || (decide ((x6.length : Int) > 0)))) rfl (fun c15 => ?_) (fun c16 => ?_)
 ·refine TC.seq <| TC.region <| TL.fa Tryz.underlying44 rfl Tryz.sizeOf36 rfl 2 rfl rfl rfl rfl <| TL.load1 2 (Src.box 1 rfl) Tryz.isAgg36 rfl rfl rfl rfl rfl <| TL.len (Rd.old h2) Tryz.underlying36 rfl rfl rfl <| TL.bn .i64 (x3.length : Int) 0 (.bool (decide ((x3.length : Int) > 0))) ?_
  exact TL.as (.bool (decide ((x3.length : Int) > 0))) <| TL.done <| TC.retF (Fin.body (fin1 (.inr rfl) rfl (.tmp rfl) [] rfl ⟨rfl, rfl⟩))
 refine TC.skip <| TC.seq <| TC.region <| TL.fa Tryz.underlying44 rfl Tryz.sizeOf2 rfl 0 rfl rfl rfl rfl <| TL.load1 0 (Src.box 1 rfl) Tryz.isAgg2 rfl rfl rfl rfl rfl <| TL.fa Tryz.underlying44 rfl Tryz.sizeOf2 rfl 0 rfl rfl rfl rfl ?_
 exact TL.load1 0 (Src.box 0 rfl) Tryz.isAgg2 rfl rfl rfl rfl rfl <| TL.bn .i64 x1 x4 (.bool (decide (x1 < x4))) <| TL.as (.bool (decide (x1 < x4))) <| TL.done <| TC.retF (Fin.body (fin1 (.inr rfl) rfl (.tmp rfl) [] rfl ⟨rfl, rfl⟩))
def spec_l04Put.b0 (list_1 : List (Int × (List Int) × (List Int))) (own1 : Int) (own2 : List Int) (own3 : List Int) : Int → Option (LB Int) := fun at_1 => (bif (decide (at_1 > 0)) then chk (w64 (at_1 - 1)) list_1.length ((G.spec_l04Before.f own1 own2 own3 ((gt list_1 (w64 (at_1 - 1))).1) ((gt list_1 (w64 (at_1 - 1))).2.1) ((gt list_1 (w64 (at_1 - 1))).2.2)).bind (fun r_1 => (bif r_1 then some (.next (w64 (at_1 - 1))) else some (.brk at_1)))) else some (.brk at_1))
def spec_l04Put.f (list_1 : List (Int × (List Int) × (List Int))) (own1 : Int) (own2 : List Int) (own3 : List Int) : Option (List (Int × (List Int) × (List Int))) := (loop1 (spec_l04Put.b0 list_1 own1 own2 own3) (list_1.length : Int)).bind (fun at_1 => grd (decide (0 ≤ at_1) && decide (at_1 ≤ (list_1.length : Int)) && decide ((list_1.length : Int) ≤ (list_1.length : Int))) (small (([(own1, own2, own3)] : List (Int × (List Int) × (List Int))).length + ((list_1.drop at_1.toNat).take (list_1.length - at_1.toNat)).length) (grd (decide (0 ≤ 0) && decide (0 ≤ at_1) && decide (at_1 ≤ (list_1.length : Int))) (small (([] : List (Int × (List Int) × (List Int))).length + ((list_1.drop 0).take (at_1.toNat - 0)).length) (small ((([] : List (Int × (List Int) × (List Int))) ++ ((list_1.drop 0).take (at_1.toNat - 0))).length + (([(own1, own2, own3)] : List (Int × (List Int) × (List Int))) ++ ((list_1.drop at_1.toNat).take (list_1.length - at_1.toNat))).length) (some ((([] : List (Int × (List Int) × (List Int))) ++ ((list_1.drop 0).take (at_1.toNat - 0))) ++ (([(own1, own2, own3)] : List (Int × (List Int) × (List Int))) ++ ((list_1.drop at_1.toNat).take (list_1.length - at_1.toNat))))))))))
def spec_l04Put.R (r : List (Int × (List Int) × (List Int))) (v : Value) (L : List Asn) : Prop := ∃ (s0 : SV) (ss0 : List (Int × SV × SV)), v = SV.v s0 ∧ L = [pmat 2 44 s0 ss0 r, emp, emp, emp]
theorem spec_l04Put.calls (w0 : World) (I : Hp) (w : World) (s1 : SV) (ss1 : List (Int × SV × SV)) (list_1 : List (Int × (List Int) × (List Int))) (own1 : Int) (s2 : SV) (own2 : List Int) (s3 : SV) (own3 : List Int) (hS : St w0 I [pmat 2 44 s1 ss1 list_1, row Ei 2 s2 own2, row Ei 2 s3 own3] w) :
  ∀ r, spec_l04Put.f list_1 own1 own2 own3 = some r → Calls Tryz.prog 63 #[SV.v s1, sval [.one (.int .i64 own1), .one (SV.v s2), .one (SV.v s3)]] w (RetM w0 I ((spec_l04Put.R) r)) := by
 refine calls_TM (w0 := w0) (I := I) (L := [pmat 2 44 s1 ss1 list_1, row Ei 2 s2 own2, row Ei 2 s3 own3]) (n := 35) (Γ := [(0, SV.v s1), (1, sval [.one (.int .i64 own1), .one (SV.v s2), .one (SV.v s3)])]) (R := (spec_l04Put.R)) Tryz.func63 rfl rfl (Nat.le_of_ble_eq_true rfl) ⟨rfl, rfl, trivial⟩ ?_ w hS
 unfold spec_l04Put.f
 refine TC.seq <| TC.region ?_
 refine TL.box [.one (.int .i64 own1), .one (SV.v s2), .one (SV.v s3)] rfl rfl rfl rfl fun b_1 => ?_
 refine TL.as (SV.v ⟨none, 0, 0⟩) <| TL.done <| TC.seq <| TC.region <| TL.mv (SV.v s1) <| TL.lenP (RdP.pmat 1 rfl) Tryz.underlying25 rfl rfl rfl ?_
 refine TL.as (.int .i64 (list_1.length : Int)) <| TL.done <| TC.seq ?_
 refine TC.loop1 (σ := Int) (γ := Unit) (Γ' := (fun at_1 _ => [(0, SV.v s1), (3, bp b_1 0), (5, .int .i64 at_1)])) (L' := (fun at_1 _ => [pmat 2 44 s1 ss1 list_1, box b_1 44 [.one (.int .i64 own1), .one (SV.v s2), .one (SV.v s3)], row Ei 2 s2 own2, row Ei 2 s3 own3])) (Γb := (fun at_1 _ => [(0, SV.v s1), (3, bp b_1 0), (5, .int .i64 at_1)])) (Lb := (fun at_1 _ => [pmat 2 44 s1 ss1 list_1, box b_1 44 [.one (.int .i64 own1), .one (SV.v s2), .one (SV.v s3)], row Ei 2 s2 own2, row Ei 2 s3 own3])) ((list_1.length : Int)) (()) ⟨rfl, rfl, rfl, trivial⟩ [1, 0, 0, 0] rfl ?_ ?_
 ·rintro at_1 _
  refine TC.seq <| TC.seq ?_
  refine TC.ifB (decide (at_1 > 0)) (fun c1 => ?_) (fun c1 => ?_)
  ·refine TC.wk (Γ' := [(0, SV.v s1), (3, bp b_1 0), (5, .int .i64 at_1)]) ⟨rfl, rfl, rfl, trivial⟩ ?_
   refine TC.chk fun h1 => ?_
   refine TC.bindE ?_
   rintro r_1 hr1
   refine TC.drawG [(0, SV.v s1), (3, bp b_1 0), (5, .int .i64 at_1)] [] ⟨rfl, rfl, rfl, trivial⟩ trivial (fun l_ g2 => [pmat 2 44 s1 ss1 list_1, box b_1 44 [.one (.int .i64 own1), .one (SV.v s2), .one (SV.v s3)], row Ei 2 s2 own2, row Ei 2 s3 own3]) (fun g2 => [.int .i64 at_1, .bool true, .bool true, sval [.one (.int .i64 own1), .one (SV.v s2), .one (SV.v s3)], SV.v s1, .int .i64 at_1, .int .i64 (w64 (at_1 - 1)), ep s1 ((w64 (at_1 - 1)).toNat * 3), sval [.one (.int .i64 ((gt list_1 (w64 (at_1 - 1))).1)), .one (SV.v ((gt ss1 (w64 (at_1 - 1))).2.1)), .one (SV.v ((gt ss1 (w64 (at_1 - 1))).2.2))], .bool r_1, .bool r_1]) [[], [0], [0, 1], [0, 1, 2], [0, 1, 2], [0, 1, 2], [0, 1, 2, 5], [0, 1, 2, 4, 5, 6], [0, 1, 2, 4, 5, 6, 7], [0, 1, 2, 3, 4, 5, 6, 7, 8], [0, 1, 2, 3, 4, 5, 6, 7, 8, 9]] [[oF, oF, oF, oF, oF, oF, oF, oF, oF, oF, oF], [oT, oF, oF, oF, oF, oF, oF, oF, oF, oF, oF], [oT, oT, oF, oF, oF, oF, oF, oF, oF, oF, oF], [oT, oT, oT, oF, none, none, none, none, none, oF, oF], [oT, oT, oT, none, oF, none, none, oF, oF, oF, oF], [oT, oT, oT, none, none, oF, oF, oF, oF, oF, oF], [oT, oT, oT, none, none, oT, oF, oF, oF, oF, oF], [oT, oT, oT, none, oT, oT, oT, oF, oF, oF, oF], [oT, oT, oT, none, oT, oT, oT, oT, oF, oF, oF], [oT, oT, oT, oT, oT, oT, oT, oT, oT, oF, oF], [oT, oT, oT, oT, oT, oT, oT, oT, oT, oT, oF]] (by kernel_rfl) (fun _ => rfl) rfl rfl rfl rfl rfl (fun _ _ => ⟨⟨⟨⟨⟨⟨⟨⟨⟨⟨⟨trivial, rfl⟩, rfl⟩, rfl⟩, rfl⟩, rfl⟩, rfl⟩, rfl⟩, rfl⟩, rfl⟩, rfl⟩, rfl⟩) 0 [0, 0, 0, 0] (fun _ => by kernel_rfl) ?_ ?_
   ·refine ⟨rfl, ?_, rfl, ?_, rfl, ?_, rfl, ?_, rfl, ?_, rfl, ?_, rfl, ?_, rfl, ?_, rfl, ?_, rfl, ?_, rfl, ?_, trivial⟩
    ·intro g2
     exact TL.mv (.int .i64 at_1) <| TL.done <| TC.n1 [0, 0, 0, 0]
    ·intro g2
     exact TL.bn .i64 at_1 0 (.bool (decide (at_1 > 0))) <| TL.done <| TC.nrm () [] ⟨(by rw [c1]; rfl), trivial⟩ [0, 0, 0, 0] (by kernel_rfl)
    ·intro g2
     exact TL.mv (.bool true) <| TL.done <| TC.n1 [0, 0, 0, 0]
    ·intro b4_ b5_ b6_ b7_ b8_ g2
     exact TL.ll [pmat 2 44 s1 ss1 list_1, box b_1 44 [.one (.int .i64 own1), .one (SV.v s2), .one (SV.v s3)], row Ei 2 s2 own2, row Ei 2 s3 own3] <| TL.loadM 0 3 (Src.box 1 rfl) Tryz.isAgg44 Tryz.sizeOf44 (mid := [.one (.int .i64 own1), .one (SV.v s2), .one (SV.v s3)]) rfl rfl rfl rfl rfl rfl <| TL.done <| TC.n1 [0, 0, 0, 0]
    ·intro b3_ b5_ b6_ g2
     exact TL.mv (SV.v s1) <| TL.done <| TC.n1 [0, 0, 0, 0]
    ·intro b3_ b4_ g2
     exact TL.mv (.int .i64 at_1) <| TL.done <| TC.n1 [0, 0, 0, 0]
    ·intro b3_ b4_ g2
     exact TL.bn .i64 at_1 1 (.int .i64 (w64 (at_1 - 1))) <| TL.done <| TC.n1 [0, 0, 0, 0]
    ·intro b3_ g2
     exact TL.ll [pmat 2 44 s1 ss1 list_1, box b_1 44 [.one (.int .i64 own1), .one (SV.v s2), .one (SV.v s3)], row Ei 2 s2 own2, row Ei 2 s3 own3] <| TL.ixsP (w64 (at_1 - 1)) ((w64 (at_1 - 1)).toNat * 3) (RdP.pmat 0 rfl) h1 Tryz.underlying25 Tryz.sizeOf44 rfl rfl rfl rfl (by omega) <| TL.done <| TC.n1 [0, 0, 0, 0]
    ·intro b3_ g2
     exact TL.ll [pmat 2 44 s1 ss1 list_1, box b_1 44 [.one (.int .i64 own1), .one (SV.v s2), .one (SV.v s3)], row Ei 2 s2 own2, row Ei 2 s3 own3] <| TL.loadPA (RdP.pmat 0 rfl) Tryz.isAgg44 Tryz.sizeOf44 (w64 (at_1 - 1)) h1 (by omega) rfl rfl rfl <| TL.done <| TC.n1 [0, 0, 0, 0]
    ·intro g2
     refine TL.ll [pmat 2 44 s1 ss1 list_1, box b_1 44 [.one (.int .i64 own1), .one (SV.v s2), .one (SV.v s3)], row Ei 2 s2 own2, row Ei 2 s3 own3] ?_
     refine TL.callH (R := G.spec_l04Before.R) hr1 Tryz.call85 rfl rfl rfl (fun w hS => G.spec_l04Before.calls w own1 s2 own2 s3 own3 ((gt list_1 (w64 (at_1 - 1))).1) ((gt ss1 (w64 (at_1 - 1))).2.1) ((gt list_1 (w64 (at_1 - 1))).2.1) ((gt ss1 (w64 (at_1 - 1))).2.2) ((gt list_1 (w64 (at_1 - 1))).2.2) ((Rd.row 2 rfl) w hS) ((Rd.row 3 rfl) w hS) ((RdP.in1 (RdP.pmat 0 rfl) h1) w hS) ((RdP.in2 (RdP.pmat 0 rfl) h1) w hS)) ?_
     rintro _ _ ⟨rfl, rfl⟩
     exact TL.done <| TC.n1 [0, 0, 0, 0]
    intro g2
    exact TL.pk true (.bool r_1) <| TL.done <| TC.n1 [0, 0, 0, 0]
   intro g2
   refine TC.ll [pmat 2 44 s1 ss1 list_1, box b_1 44 [.one (.int .i64 own1), .one (SV.v s2), .one (SV.v s3)], row Ei 2 s2 own2, row Ei 2 s3 own3] ?_
   refine TC.cond (b := r_1) rfl (fun c2 => ?_) (fun c3 => ?_)
   ·refine TC.skip <| TC.block (NoEx.loop1 rfl) <| TC.region <| TL.mv (.int .i64 at_1) <| TL.bn .i64 at_1 1 (.int .i64 (w64 (at_1 - 1))) <| TL.as (.int .i64 (w64 (at_1 - 1))) ?_
    refine TL.done ?_
    exact TC.next1 ((w64 (at_1 - 1))) (()) ⟨rfl, rfl, rfl, trivial⟩ [0, 0, 0, 0] rfl
   exact TC.brk1 (at_1) (()) ⟨rfl, rfl, rfl, trivial⟩ [0, 0, 0, 0] rfl
  refine TC.wk (Γ' := [(0, SV.v s1), (3, bp b_1 0), (5, .int .i64 at_1)]) ⟨rfl, rfl, rfl, trivial⟩ ?_
  refine TC.drawG [(0, SV.v s1), (3, bp b_1 0), (5, .int .i64 at_1)] [] ⟨rfl, rfl, rfl, trivial⟩ trivial (fun l_ g3 => [pmat 2 44 s1 ss1 list_1, box b_1 44 [.one (.int .i64 own1), .one (SV.v s2), .one (SV.v s3)], row Ei 2 s2 own2, row Ei 2 s3 own3]) (fun g3 => [.int .i64 at_1, .bool false, .bool false, undef, undef, undef, undef, undef, undef, undef, .bool false]) [[], [0], [0, 1], [0, 1, 2], [0, 1, 2], [0, 1, 2], [0, 1, 2, 5], [0, 1, 2, 4, 5, 6], [0, 1, 2, 4, 5, 6, 7], [0, 1, 2, 3, 4, 5, 6, 7, 8], [0, 1, 2, 3, 4, 5, 6, 7, 8, 9]] [[oF, oF, oF, oF, oF, oF, oF, oF, oF, oF, oF], [oT, oF, oF, oF, oF, oF, oF, oF, oF, oF, oF], [oT, oT, oF, oF, oF, oF, oF, oF, oF, oF, oF], [oT, oT, oT, oF, none, none, none, none, none, oF, oF], [oT, oT, oT, none, oF, none, none, oF, oF, oF, oF], [oT, oT, oT, none, none, oF, oF, oF, oF, oF, oF], [oT, oT, oT, none, none, oT, oF, oF, oF, oF, oF], [oT, oT, oT, none, oT, oT, oT, oF, oF, oF, oF], [oT, oT, oT, none, oT, oT, oT, oT, oF, oF, oF], [oT, oT, oT, oT, oT, oT, oT, oT, oT, oF, oF], [oT, oT, oT, oT, oT, oT, oT, oT, oT, oT, oF]] (by kernel_rfl) (fun _ => rfl) rfl rfl rfl rfl rfl (fun _ _ => ⟨⟨⟨⟨⟨⟨⟨⟨⟨⟨⟨trivial, rfl⟩, rfl⟩, rfl⟩, rfl⟩, rfl⟩, rfl⟩, rfl⟩, rfl⟩, rfl⟩, rfl⟩, rfl⟩) 0 [0, 0, 0, 0] (fun _ => by kernel_rfl) ?_ ?_
  ·refine ⟨rfl, ?_, rfl, ?_, rfl, ?_, rfl, ?_, rfl, ?_, rfl, ?_, rfl, ?_, rfl, ?_, rfl, ?_, rfl, ?_, rfl, ?_, trivial⟩
   ·intro g3
    exact TL.mv (.int .i64 at_1) <| TL.done <| TC.n1 [0, 0, 0, 0]
   ·intro g3
    exact TL.bn .i64 at_1 0 (.bool (decide (at_1 > 0))) <| TL.done <| TC.nrm () [] ⟨(by rw [c1]; rfl), trivial⟩ [0, 0, 0, 0] (by kernel_rfl)
   ·intro g3
    exact TL.mv (.bool false) <| TL.done <| TC.n1 [0, 0, 0, 0]
   ·intro b4_ b5_ b6_ b7_ b8_ g3
    exact TL.ll [pmat 2 44 s1 ss1 list_1, box b_1 44 [.one (.int .i64 own1), .one (SV.v s2), .one (SV.v s3)], row Ei 2 s2 own2, row Ei 2 s3 own3] <| TL.sk <| TL.done <| TC.n1 [0, 0, 0, 0]
   ·intro b3_ b5_ b6_ g3
    exact TL.sk <| TL.done <| TC.n1 [0, 0, 0, 0]
   ·intro b3_ b4_ g3
    exact TL.sk <| TL.done <| TC.n1 [0, 0, 0, 0]
   ·intro b3_ b4_ g3
    exact TL.sk <| TL.done <| TC.n1 [0, 0, 0, 0]
   ·intro b3_ g3
    exact TL.ll [pmat 2 44 s1 ss1 list_1, box b_1 44 [.one (.int .i64 own1), .one (SV.v s2), .one (SV.v s3)], row Ei 2 s2 own2, row Ei 2 s3 own3] <| TL.sk <| TL.done <| TC.n1 [0, 0, 0, 0]
   ·intro b3_ g3
    exact TL.ll [pmat 2 44 s1 ss1 list_1, box b_1 44 [.one (.int .i64 own1), .one (SV.v s2), .one (SV.v s3)], row Ei 2 s2 own2, row Ei 2 s3 own3] <| TL.sk <| TL.done <| TC.n1 [0, 0, 0, 0]
   ·intro g3
    exact TL.ll [pmat 2 44 s1 ss1 list_1, box b_1 44 [.one (.int .i64 own1), .one (SV.v s2), .one (SV.v s3)], row Ei 2 s2 own2, row Ei 2 s3 own3] <| TL.sk <| TL.done <| TC.n1 [0, 0, 0, 0]
   intro g3
   exact TL.pk false (.bool false) <| TL.done <| TC.n1 [0, 0, 0, 0]
  intro g3
  refine TC.ll [pmat 2 44 s1 ss1 list_1, box b_1 44 [.one (.int .i64 own1), .one (SV.v s2), .one (SV.v s3)], row Ei 2 s2 own2, row Ei 2 s3 own3] ?_
  refine TC.cond_false rfl ?_
  exact TC.brk1 (at_1) (()) ⟨rfl, rfl, rfl, trivial⟩ [0, 0, 0, 0] rfl
 rintro at_1 _
 refine TC.seq ?_
 refine TC.pmatcut 0 rfl fun hl_ => ?_
 refine TC.wk (Γ' := [(0, SV.v s1), (3, bp b_1 0), (5, .int .i64 at_1)]) ⟨rfl, rfl, rfl, trivial⟩ ?_
 refine TC.grd fun h2 => ?_
 refine TC.small fun h3 => ?_
 refine TC.drawG [(0, SV.v s1), (3, bp b_1 0), (5, .int .i64 at_1)] [] ⟨rfl, rfl, rfl, trivial⟩ trivial (fun l_ g4 => [row Epart 44 s1 ss1, prows 2 ss1 list_1, box b_1 44 [.one (.int .i64 own1), .one (SV.v s2), .one (SV.v s3)], row Ei 2 s2 own2, row Ei 2 s3 own3, (bif nb l_ 5 then row Epart 44 (gs (g4 40)) (([(own1, s2, s3)] : List (Int × SV × SV)) ++ ((ss1.drop at_1.toNat).take (ss1.length - at_1.toNat))) else (bif nb l_ 1 then row Epart 44 (gs (g4 8)) ([(own1, s2, s3)] : List (Int × SV × SV)) else emp))]) (fun g4 => [sval [.one (.int .i64 own1), .one (SV.v s2), .one (SV.v s3)], SV.v (gs (g4 8)), SV.v s1, .int .i64 at_1, SV.v (SV.cut s1 at_1.toNat ss1.length s1.c Epart.sz), SV.v (gs (g4 40)), SV.v (gs (g4 40))]) [[], [0], [], [], [2, 3], [0, 1, 2, 3, 4], [0, 1, 2, 3, 4, 5]] [[oF, oF, none, none, none, oF, oF], [oT, oF, none, none, none, oF, oF], [none, none, oF, none, oF, oF, oF], [none, none, none, oF, oF, oF, oF], [none, none, oT, oT, oF, oF, oF], [oT, oT, oT, oT, oT, oF, oF], [oT, oT, oT, oT, oT, oT, oF]] (by kernel_rfl) (fun _ => rfl) rfl rfl rfl rfl rfl (fun _ _ => ⟨⟨⟨⟨⟨⟨⟨trivial, rfl⟩, rfl⟩, rfl⟩, rfl⟩, rfl⟩, rfl⟩, rfl⟩) 1 [1, 1, 1, 1, 1, 0] (fun _ => by kernel_rfl) ?_ ?_
 ·refine ⟨rfl, ?_, rfl, ?_, rfl, ?_, rfl, ?_, rfl, ?_, rfl, ?_, rfl, ?_, trivial⟩
  ·intro b2_ b3_ b4_ g4
   exact TL.ll [row Epart 44 s1 ss1, prows 2 ss1 list_1, box b_1 44 [.one (.int .i64 own1), .one (SV.v s2), .one (SV.v s3)], row Ei 2 s2 own2, row Ei 2 s3 own3, emp] <| TL.loadM 0 3 (Src.box 2 rfl) Tryz.isAgg44 Tryz.sizeOf44 (mid := [.one (.int .i64 own1), .one (SV.v s2), .one (SV.v s3)]) rfl rfl rfl rfl rfl rfl <| TL.done <| TC.n1 [0, 0, 0, 0, 0, 0]
  ·intro b2_ b3_ b4_ g4
   refine TL.ll [row Epart 44 s1 ss1, prows 2 ss1 list_1, box b_1 44 [.one (.int .i64 own1), .one (SV.v s2), .one (SV.v s3)], row Ei 2 s2 own2, row Ei 2 s3 own3, emp] ?_
   refine TL.blit Epart ([(own1, s2, s3)] : List (Int × SV × SV)) Tryz.underlying25 Tryz.sizeOf44 Tryz.zeroValue44 rfl rfl rfl [(0, sval [.one (.int .i64 own1), .one (SV.v s2), .one (SV.v s3)])] rfl ⟨rfl, rfl, trivial⟩ rfl rfl fun s4 => ?_
   exact TL.done <| TC.nrm () [[s4]] ⟨rfl, trivial⟩ [1, 1, 1, 1, 1, 0] (by kernel_rfl)
  ·intro b0_ b1_ b3_ g4
   exact TL.mv (SV.v s1) <| TL.done <| TC.n1 [0, 0, 0, 0, 0, 0]
  ·intro b0_ b1_ b2_ g4
   exact TL.mv (.int .i64 at_1) <| TL.done <| TC.n1 [0, 0, 0, 0, 0, 0]
  ·intro b0_ b1_ g4
   exact TL.ll [row Epart 44 s1 ss1, prows 2 ss1 list_1, box b_1 44 [.one (.int .i64 own1), .one (SV.v s2), .one (SV.v s3)], row Ei 2 s2 own2, row Ei 2 s3 own3, (bif b1_ then row Epart 44 (gs (g4 8)) ([(own1, s2, s3)] : List (Int × SV × SV)) else emp)] <| TL.slice (li := (some at_1)) (hi' := none) (l := at_1.toNat) (h := ss1.length) (Rd.row 0 rfl) Tryz.underlying25 Tryz.sizeOf44 rfl rfl (by have h_ := h2; simp only [Bool.and_eq_true, decide_eq_true_eq] at h_; first | rfl | omega | (simp only [Option.getD_some]; omega) | (simp only [Option.getD_none]; omega)) (by have h_ := h2; simp only [Bool.and_eq_true, decide_eq_true_eq] at h_; first | rfl | omega | (simp only [Option.getD_some]; omega) | (simp only [Option.getD_none]; omega)) (by have h_ := h2; simp only [Bool.and_eq_true, decide_eq_true_eq] at h_; omega) (by have h_ := h2; simp only [Bool.and_eq_true, decide_eq_true_eq] at h_; omega) rfl rfl rfl <| TL.done <| TC.n1 [0, 0, 0, 0, 0, 0]
  ·intro g4
   refine TL.ll [row Epart 44 s1 ss1, prows 2 ss1 list_1, box b_1 44 [.one (.int .i64 own1), .one (SV.v s2), .one (SV.v s3)], row Ei 2 s2 own2, row Ei 2 s3 own3, row Epart 44 (gs (g4 8)) ([(own1, s2, s3)] : List (Int × SV × SV))] ?_
   refine TL.append 5 rfl (Rd.cut (Rd.row 0 rfl) (by have h_ := h2; simp only [Bool.and_eq_true, decide_eq_true_eq] at h_; omega) (by have h_ := h2; simp only [Bool.and_eq_true, decide_eq_true_eq] at h_; omega)) Tryz.underlying25 (info_of Tryz.type44) (zv := (Tryz.t44.zero.getD (.bool false))) rfl rfl rfl (by decide) (by have h_ := h3; simp at h_ ⊢; omega) rfl rfl rfl rfl fun s5 => ?_
   exact TL.done <| TC.nrm () [[s5]] ⟨rfl, trivial⟩ [0, 0, 0, 0, 0, 0] (by kernel_rfl)
  intro g4
  exact TL.as (SV.v (gs (g4 40))) <| TL.done <| TC.n1 [0, 0, 0, 0, 0, 0]
 intro g4
 refine TC.ll [row Epart 44 s1 ss1, prows 2 ss1 list_1, box b_1 44 [.one (.int .i64 own1), .one (SV.v s2), .one (SV.v s3)], row Ei 2 s2 own2, row Ei 2 s3 own3, row Epart 44 (gs (g4 40)) (([(own1, s2, s3)] : List (Int × SV × SV)) ++ ((ss1.drop at_1.toNat).take (ss1.length - at_1.toNat)))] <| TC.seq <| TC.region ?_
 refine TL.bslice0 Epart Tryz.underlying25 Tryz.sizeOf44 rfl rfl fun s6 => ?_
 refine TL.mv (SV.v s1) <| TL.mv (.int .i64 at_1) ?_
 refine TL.grd fun h4 => ?_
 refine TL.slice (li := none) (hi' := (some at_1)) (l := 0) (h := at_1.toNat) (Rd.row 1 rfl) Tryz.underlying25 Tryz.sizeOf44 rfl rfl (by have h_ := h4; simp only [Bool.and_eq_true, decide_eq_true_eq] at h_; first | rfl | omega | (simp only [Option.getD_some]; omega) | (simp only [Option.getD_none]; omega)) (by have h_ := h4; simp only [Bool.and_eq_true, decide_eq_true_eq] at h_; first | rfl | omega | (simp only [Option.getD_some]; omega) | (simp only [Option.getD_none]; omega)) (by have h_ := h4; simp only [Bool.and_eq_true, decide_eq_true_eq] at h_; omega) (by have h_ := h4; simp only [Bool.and_eq_true, decide_eq_true_eq] at h_; omega) rfl rfl rfl ?_
 refine TL.small fun h5 => ?_
 refine TL.append 0 rfl (Rd.cut (Rd.row 1 rfl) (by have h_ := h4; simp only [Bool.and_eq_true, decide_eq_true_eq] at h_; omega) (by have h_ := h4; simp only [Bool.and_eq_true, decide_eq_true_eq] at h_; omega)) Tryz.underlying25 (info_of Tryz.type44) (zv := (Tryz.t44.zero.getD (.bool false))) rfl rfl rfl (by decide) (by have h_ := h5; simp at h_ ⊢; omega) rfl rfl rfl rfl fun s7 => ?_
 refine TL.mv (SV.v (gs (g4 40))) ?_
 refine TL.small fun h6 => ?_
 refine TL.append 0 rfl (Rd.row 6 rfl) Tryz.underlying25 (info_of Tryz.type44) (zv := (Tryz.t44.zero.getD (.bool false))) rfl rfl rfl (by decide) (by have h_ := h6; simp at h_ ⊢; omega) rfl rfl rfl rfl fun s8 => ?_
 refine TL.as (SV.v s8) <| TL.done ?_
 refine TC.prowsPut (g := own1) at_1.toNat 4 5 2 rfl rfl rfl ?_
 refine TC.pmatmk (c' := ((([] : List (Int × (List Int) × (List Int))) ++ ((list_1.drop 0).take (at_1.toNat - 0))) ++ (([(own1, own2, own3)] : List (Int × (List Int) × (List Int))) ++ ((list_1.drop at_1.toNat).take (list_1.length - at_1.toNat))))) 0 2 rfl rfl (by simp [drop_all]) (by simp [drop_all]) ?_
 refine TC.mkemp ?_
 refine TC.mkemp ?_
 refine TC.mkemp ?_
 exact TC.retF (Fin.body (fin1 (.inr rfl) rfl (.tmp rfl) [5, 0, 0, 0] rfl ⟨s8, ((([] : List (Int × SV × SV)) ++ ((ss1.drop 0).take (at_1.toNat - 0))) ++ (([(own1, s2, s3)] : List (Int × SV × SV)) ++ ((ss1.drop at_1.toNat).take (ss1.length - at_1.toNat)))), rfl, rfl⟩))
end Go.Proofs.YtpejnjpckacciaaGreatDoor.G
