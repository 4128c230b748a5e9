/- Functions of the program, as pure functions. -/
import Derived.Test.YtiiljfpbcanphaaMFnSurfaces4
import Derived.Test.YtiiljfpbcanphaaProg
/- spec.l01Pick, as a pure function. -/
set_option linter.unusedVariables false
namespace Go.Proofs.Ytiiljfpbcanphaa.G
open Go Go.Sx Go.Proofs

def spec_l01Pick.f (s1 : List UInt8) (s3 : Int) (s4 : Int) (list_1 : List Int) : Option (Int × Int × Int) := (G.spec_l01Next.f s1 s3 s4 (list_1.length : Int)).bind (fun p => match p with | (r_1, s6, s7) => chk r_1 list_1.length (some ((gt list_1 r_1), s6, s7)))

def spec_l01Pick.R (b_1 : Nat) (s2 : SV) (r : Int × Int × Int) (v : Value) (L : List Asn) : Prop := v = .int .i64 r.1 ∧ L = [box b_1 143 [.one (SV.v s2), .one (.int .i64 r.2.1), .one (.int .u64 r.2.2)]]

set_option maxRecDepth 100000 in
set_option maxHeartbeats 4000000 in
theorem spec_l01Pick.calls (w0 : World) (I : Hp) (w : World) (b_1 : Nat) (s2 : SV) (s1 : List UInt8) (s3 : Int) (s4 : Int) (s5 : SV) (list_1 : List Int) (hS : St w0 I [box b_1 143 [.one (SV.v s2), .one (.int .i64 s3), .one (.int .u64 s4)]] w) (h1 : Reads Eu I s2 s1) (h2 : Reads Ei I s5 list_1) :
  ∀ r, spec_l01Pick.f s1 s3 s4 list_1 = some r → Calls Try.prog 166 #[bp b_1 0, SV.v s5] w (RetM w0 I ((spec_l01Pick.R b_1 s2) r)) := by

 refine calls_TM (w0 := w0) (I := I) (L := [box b_1 143 [.one (SV.v s2), .one (.int .i64 s3), .one (.int .u64 s4)]]) (n := 12) (Γ := [(0, bp b_1 0), (1, SV.v s5)]) (R := (spec_l01Pick.R b_1 s2)) Try.func166 rfl rfl (Nat.le_of_ble_eq_true rfl) ⟨rfl, rfl, trivial⟩ ?_ w hS
 unfold spec_l01Pick.f
 refine TC.seq ?_
 refine TC.region ?_
 refine TL.assign rfl rfl (v := .int .i64 0) rfl ?_
 refine TL.done ?_
 refine TC.seq ?_
 refine TC.region ?_
 refine TL.move rfl rfl (v := SV.v s5) rfl ?_
 refine TL.move rfl rfl (v := bp b_1 0) rfl ?_
 refine TL.move rfl rfl (v := SV.v s5) rfl ?_
 refine TL.len (Rd.old h2) Try.underlying22 rfl rfl rfl ?_
 refine TL.callX (R := G.spec_l01Next.R b_1 s2) [0] [box b_1 143 [.one (SV.v s2), .one (.int .i64 s3), .one (.int .u64 s4)]] [] rfl Try.call129 rfl rfl rfl (fun w I_ hle hB hS => G.spec_l01Next.calls _ I_ w b_1 s2 s1 s3 s4 (list_1.length : Int) hS (h1.mono hle)) ?_
 rintro ⟨r_1, s6, s7⟩ _ _ ⟨rfl, rfl⟩
 refine TL.chk fun h3 => ?_
 refine TL.ixs r_1 r_1.toNat (Rd.old h2) h3 Try.underlying22 Try.sizeOf2 rfl rfl rfl rfl (by omega) ?_
 refine TL.loadE (Rd.old h2) Try.isAgg2 r_1.toNat 0 (gt_spec h3) (v := .int .i64 (gt list_1 r_1)) rfl (by simp only [show Ei.sz = 1 from rfl] <;> omega) rfl rfl rfl ?_
 refine TL.assign rfl rfl (v := .int .i64 (gt list_1 r_1)) rfl ?_
 refine TL.done ?_
 exact TC.retF (Fin.body (fin1 (.inr rfl) rfl (.tmp rfl) [0] rfl ⟨rfl, rfl⟩))

end Go.Proofs.Ytiiljfpbcanphaa.G

/- spec.l07Spoil, as a pure function. -/
set_option linter.unusedVariables false
namespace Go.Proofs.Ytiiljfpbcanphaa.G
open Go Go.Sx Go.Proofs

def spec_l07Spoil.f (s1 : List UInt8) (s3 : Int) (s4 : Int) : Option ((List (List Int)) × Int × Int) := (G.spec_l07Draw.f s1 s3 s4).bind (fun p => match p with | (r_1, s6, s7) => (G.spec_l01Next.f s1 s6 s7 40).bind (fun p => match p with | (r_2, s8, s9) => ((bif (r_2 == 0) then grd (decide (0 ≤ 1) && decide (1 ≤ (r_1.length : Int)) && decide ((r_1.length : Int) ≤ (r_1.length : Int))) (some (s8, s9, ((r_1.drop 1).take (r_1.length - 1)))) else (bif (r_2 == 1) then chk 0 r_1.length ((G.spec_l01Own.f (gt r_1 0)).bind (fun r_3 => small (r_3.length + ([1] : List Int).length) (some (s8, s9, (r_1.set 0 (r_3 ++ ([1] : List Int))))))) else (bif (r_2 == 2) then chk 0 r_1.length ((G.spec_l01Own.f (gt r_1 0)).bind (fun r_4 => (G.spec_l01Next.f s1 s8 s9 3).bind (fun p => match p with | (r_5, s20, s21) => (G.spec_l01Pick.f s1 s20 s21 ([0, 1, (-2), 100] : List Int)).bind (fun p => match p with | (r_6, s23, s24) => chk r_5 r_4.length (some (s23, s24, (r_1.set 0 (r_4.set r_5.toNat r_6)))))))) else some (s8, s9, r_1))))).bind (fun p => match p with | (s13, s14, out3) => some (out3, s13, s14))))

def spec_l07Spoil.R (b_1 : Nat) (s2 : SV) (r : (List (List Int)) × Int × Int) (v : Value) (L : List Asn) : Prop := ∃ (s0 : SV) (ss0 : List SV), v = SV.v s0 ∧ L = [mat Ei 2 22 s0 ss0 r.1, box b_1 143 [.one (SV.v s2), .one (.int .i64 r.2.1), .one (.int .u64 r.2.2)]]

set_option maxRecDepth 100000 in
set_option maxHeartbeats 4000000 in
theorem spec_l07Spoil.calls (w0 : World) (I : Hp) (w : World) (b_1 : Nat) (s2 : SV) (s1 : List UInt8) (s3 : Int) (s4 : Int) (hS : St w0 I [box b_1 143 [.one (SV.v s2), .one (.int .i64 s3), .one (.int .u64 s4)]] w) (h1 : Reads Eu I s2 s1) :
  ∀ r, spec_l07Spoil.f s1 s3 s4 = some r → Calls Try.prog 116 #[bp b_1 0] w (RetM w0 I ((spec_l07Spoil.R b_1 s2) r)) := by

 refine calls_TM (w0 := w0) (I := I) (L := [box b_1 143 [.one (SV.v s2), .one (.int .i64 s3), .one (.int .u64 s4)]]) (n := 40) (Γ := [(0, bp b_1 0)]) (R := (spec_l07Spoil.R b_1 s2)) Try.func116 rfl rfl (Nat.le_of_ble_eq_true rfl) ⟨rfl, trivial⟩ ?_ w hS
 unfold spec_l07Spoil.f
 refine TC.seq ?_
 refine TC.region ?_
 refine TL.assign rfl rfl (v := SV.v ⟨none, 0, 0⟩) rfl ?_
 refine TL.done ?_
 refine TC.seq ?_
 refine TC.region ?_
 refine TL.move rfl rfl (v := bp b_1 0) rfl ?_
 refine TL.callX (R := G.spec_l07Draw.R b_1 s2) [0] [box b_1 143 [.one (SV.v s2), .one (.int .i64 s3), .one (.int .u64 s4)]] [] rfl Try.call164 rfl rfl rfl (fun w I_ hle hB hS => G.spec_l07Draw.calls _ I_ w b_1 s2 s1 s3 s4 hS (h1.mono hle)) ?_
 rintro ⟨r_1, s6, s7⟩ _ _ ⟨s5, ss1, rfl, rfl⟩
 refine TL.assign rfl rfl (v := SV.v s5) rfl ?_
 refine TL.done ?_
 refine TC.seq ?_
 refine TC.seq ?_
 refine TC.region ?_
 refine TL.move rfl rfl (v := bp b_1 0) rfl ?_
 refine TL.callX (R := G.spec_l01Next.R b_1 s2) [1, 0] [box b_1 143 [.one (SV.v s2), .one (.int .i64 s6), .one (.int .u64 s7)]] [mat Ei 2 22 s5 ss1 r_1] rfl Try.call129 rfl rfl rfl (fun w I_ hle hB hS => G.spec_l01Next.calls _ I_ w b_1 s2 s1 s6 s7 40 hS (h1.mono hle)) ?_
 rintro ⟨r_2, s8, s9⟩ _ _ ⟨rfl, rfl⟩
 refine TL.done ?_
 refine TC.block NoEx.body ?_
 refine TC.seq ?_
 refine TC.region ?_
 refine TL.bin .i64 r_2 0 rfl rfl rfl rfl (v := .bool (r_2 == 0)) rfl ?_
 refine TL.assign rfl rfl (v := .bool (r_2 == 0)) rfl ?_
 refine TL.done ?_
 refine TC.join1 (σ := Int × Int × (List (List Int))) (γ := SV × (List SV)) (Γ' := (fun p q => match p, q with | (s13, s14, out3), (s15, ss4) => [(0, bp b_1 0), (3, SV.v s15)])) (L' := (fun p q => match p, q with | (s13, s14, out3), (s15, ss4) => [box b_1 143 [.one (SV.v s2), .one (.int .i64 s13), .one (.int .u64 s14)], mat Ei 2 22 s15 ss4 out3])) ?_ ?_
 ·refine TC.cond (b := (r_2 == 0)) rfl (fun c1 => ?_) (fun c2 => ?_)
  ·refine TC.region ?_
   refine TL.move rfl rfl (v := SV.v s5) rfl ?_
   refine TL.grd fun h2 => ?_
   refine TL.sliceM (li := (some 1)) (hi' := none) (l := 1) (h := r_1.length) (RdM.mat 1 rfl) Try.underlying32 Try.sizeOf22 rfl rfl (by have h_ := h2; simp only [Bool.and_eq_true, decide_eq_true_eq] at h_; first | rfl | omega | (simp only [Option.getD_none, Option.getD_some]; omega)) (by have h_ := h2; simp only [Bool.and_eq_true, decide_eq_true_eq] at h_; first | rfl | omega | (simp only [Option.getD_none, Option.getD_some]; omega)) (by have h_ := h2; simp only [Bool.and_eq_true, decide_eq_true_eq] at h_; omega) (by have h_ := h2; simp only [Bool.and_eq_true, decide_eq_true_eq] at h_; omega) rfl rfl rfl ?_
   refine TL.advM (l := 1) (k := r_1.length) 1 rfl rfl (by have h_ := h2; simp only [Bool.and_eq_true, decide_eq_true_eq] at h_; omega) ?_
   refine TL.assign rfl rfl (v := SV.v (SV.cut s5 1 r_1.length s5.c Ev.sz)) rfl ?_
   refine TL.done ?_
   exact TC.nrm ((s8, s9, ((r_1.drop 1).take (r_1.length - 1)))) (((SV.cut s5 1 r_1.length s5.c Ev.sz), ((ss1.drop 1).take (r_1.length - 1)))) ⟨rfl, rfl, trivial⟩ [0, 0] rfl
  ·refine TC.seq ?_
   refine TC.region ?_
   refine TL.bin .i64 r_2 1 rfl rfl rfl rfl (v := .bool (r_2 == 1)) rfl ?_
   refine TL.assign rfl rfl (v := .bool (r_2 == 1)) rfl ?_
   refine TL.done ?_
   refine TC.cond (b := (r_2 == 1)) rfl (fun c3 => ?_) (fun c4 => ?_)
   ·refine TC.region ?_
    refine TL.move rfl rfl (v := SV.v s5) rfl ?_
    refine TL.move rfl rfl (v := SV.v s5) rfl ?_
    refine TL.chk fun h3 => ?_
    refine TL.ixsM 0 0 (RdM.mat 1 rfl) h3 Try.underlying32 Try.sizeOf22 rfl rfl rfl rfl rfl ?_
    refine TL.loadM2 (RdM.mat 1 rfl) Try.isAgg22 0 h3 rfl rfl rfl rfl ?_
    refine TL.call (R := G.spec_l01Own.R) Try.call165 rfl rfl rfl (fun w hS => G.spec_l01Own.calls w (gt ss1 0) (gt r_1 0) ((RdM.inn (RdM.mat 1 rfl) h3) w hS)) ?_
    rintro r_3 _ _ ⟨s16, rfl, rfl⟩
    refine TL.blit Ei ([1] : List Int) Try.underlying22 Try.sizeOf2 Try.zeroValue2 rfl rfl rfl [(0, .int .i64 1)] rfl ⟨rfl, rfl, trivial⟩ rfl rfl fun s17 => ?_
    refine TL.small fun h4 => ?_
    refine TL.append 1 rfl (Rd.row 0 rfl) Try.underlying22 (info_of Try.type2) (zv := (Try.t2.zero.getD (.bool false))) rfl rfl rfl (by decide) h4 rfl rfl rfl rfl fun s18 => ?_
    refine TL.ixsM 0 0 (RdM.mat 3 rfl) h3 Try.underlying32 Try.sizeOf22 rfl rfl rfl rfl rfl ?_
    refine TL.matlen 3 rfl fun h5 => ?_
    refine TL.matcut 3 rfl ?_
    refine TL.stE 0 (0) s18 (v := SV.v s18) rfl Try.sizeOf22 rfl rfl rfl (by have h_ := h3; have l_ := h5; (try simp only [List.length_set] at h_ l_ ⊢); omega) rfl rfl rfl rfl ?_
    refine TL.hole 4 0 rfl h3 ?_
    refine TL.rowsPut 2 4 rfl rfl ?_
    refine TL.matmk 0 4 rfl rfl ?_
    refine TL.drop 0 rfl ?_
    refine TL.asL [row Ei 2 s17 ([1] : List Int), emp, box b_1 143 [.one (SV.v s2), .one (.int .i64 s8), .one (.int .u64 s9)], mat Ei 2 22 s5 (ss1.set 0 s18) (r_1.set 0 (r_3 ++ ([1] : List Int)))] (by kernel_rfl) ?_
    refine TL.done ?_
    exact TC.nrm ((s8, s9, (r_1.set 0 (r_3 ++ ([1] : List Int))))) ((s5, (ss1.set 0 s18))) ⟨rfl, rfl, trivial⟩ [2, 2] rfl
   ·refine TC.seq ?_
    refine TC.region ?_
    refine TL.bin .i64 r_2 2 rfl rfl rfl rfl (v := .bool (r_2 == 2)) rfl ?_
    refine TL.assign rfl rfl (v := .bool (r_2 == 2)) rfl ?_
    refine TL.done ?_
    refine TC.cond (b := (r_2 == 2)) rfl (fun c5 => ?_) (fun c6 => ?_)
    ·refine TC.seq ?_
     refine TC.region ?_
     refine TL.move rfl rfl (v := SV.v s5) rfl ?_
     refine TL.chk fun h6 => ?_
     refine TL.ixsM 0 0 (RdM.mat 1 rfl) h6 Try.underlying32 Try.sizeOf22 rfl rfl rfl rfl rfl ?_
     refine TL.loadM2 (RdM.mat 1 rfl) Try.isAgg22 0 h6 rfl rfl rfl rfl ?_
     refine TL.call (R := G.spec_l01Own.R) Try.call165 rfl rfl rfl (fun w hS => G.spec_l01Own.calls w (gt ss1 0) (gt r_1 0) ((RdM.inn (RdM.mat 1 rfl) h6) w hS)) ?_
     rintro r_4 _ _ ⟨s19, rfl, rfl⟩
     refine TL.assign rfl rfl (v := SV.v s19) rfl ?_
     refine TL.done ?_
     refine TC.seq ?_
     refine TC.region ?_
     refine TL.move rfl rfl (v := SV.v s19) rfl ?_
     refine TL.move rfl rfl (v := bp b_1 0) rfl ?_
     refine TL.callX (R := G.spec_l01Next.R b_1 s2) [1, 0, 0] [box b_1 143 [.one (SV.v s2), .one (.int .i64 s8), .one (.int .u64 s9)]] [row Ei 2 s19 r_4, mat Ei 2 22 s5 ss1 r_1] rfl Try.call129 rfl rfl rfl (fun w I_ hle hB hS => G.spec_l01Next.calls _ I_ w b_1 s2 s1 s8 s9 3 hS (h1.mono hle)) ?_
     rintro ⟨r_5, s20, s21⟩ _ _ ⟨rfl, rfl⟩
     refine TL.move rfl rfl (v := bp b_1 0) rfl ?_
     refine TL.blit Ei ([0, 1, (-2), 100] : List Int) Try.underlying22 Try.sizeOf2 Try.zeroValue2 rfl rfl rfl [(0, .int .i64 0), (1, .int .i64 1), (2, .int .i64 (-2)), (3, .int .i64 100)] rfl ⟨rfl, rfl, rfl, rfl, rfl, rfl, rfl, rfl, trivial⟩ rfl rfl fun s22 => ?_
     refine TL.callX (R := G.spec_l01Pick.R b_1 s2) [1, 0, 0, 0] [box b_1 143 [.one (SV.v s2), .one (.int .i64 s20), .one (.int .u64 s21)]] [row Ei 2 s22 ([0, 1, (-2), 100] : List Int), row Ei 2 s19 r_4, mat Ei 2 22 s5 ss1 r_1] rfl Try.call166 rfl rfl rfl (fun w I_ hle hB hS => G.spec_l01Pick.calls _ I_ w b_1 s2 s1 s20 s21 s22 ([0, 1, (-2), 100] : List Int) hS (h1.mono hle) (hB.reads 0 rfl)) ?_
     rintro ⟨r_6, s23, s24⟩ _ _ ⟨rfl, rfl⟩
     refine TL.chk fun h7 => ?_
     refine TL.ixs r_5 r_5.toNat (Rd.row 2 rfl) h7 Try.underlying22 Try.sizeOf2 rfl rfl rfl rfl (by omega) ?_
     refine TL.stE 2 (r_5.toNat) r_6 (v := .int .i64 r_6) rfl Try.sizeOf2 rfl rfl rfl (by have h_ := h7; omega) (by simp only [show Ei.sz = 1 from rfl] <;> omega) rfl rfl rfl ?_
     refine TL.done ?_
     refine TC.region ?_
     refine TL.move rfl rfl (v := SV.v s5) rfl ?_
     refine TL.move rfl rfl (v := SV.v s19) rfl ?_
     refine TL.ixsM 0 0 (RdM.mat 3 rfl) h6 Try.underlying32 Try.sizeOf22 rfl rfl rfl rfl rfl ?_
     refine TL.matlen 3 rfl fun h8 => ?_
     refine TL.matcut 3 rfl ?_
     refine TL.stE 0 (0) s19 (v := SV.v s19) rfl Try.sizeOf22 rfl rfl rfl (by have h_ := h6; have l_ := h8; (try simp only [List.length_set] at h_ l_ ⊢); omega) rfl rfl rfl rfl ?_
     refine TL.hole 4 0 rfl h6 ?_
     refine TL.rowsPut 3 4 rfl rfl ?_
     refine TL.matmk 0 4 rfl rfl ?_
     refine TL.drop 0 rfl ?_
     refine TL.asL [box b_1 143 [.one (SV.v s2), .one (.int .i64 s23), .one (.int .u64 s24)], row Ei 2 s22 ([0, 1, (-2), 100] : List Int), emp, mat Ei 2 22 s5 (ss1.set 0 s19) (r_1.set 0 (r_4.set r_5.toNat r_6))] (by kernel_rfl) ?_
     refine TL.done ?_
     exact TC.nrm ((s23, s24, (r_1.set 0 (r_4.set r_5.toNat r_6)))) ((s5, (ss1.set 0 s19))) ⟨rfl, rfl, trivial⟩ [0, 2] rfl
    ·refine TC.skip ?_
     exact TC.nrm ((s8, s9, r_1)) ((s5, ss1)) ⟨rfl, rfl, trivial⟩ [0, 0] rfl
 ·rintro ⟨s13, s14, out3⟩ ⟨s15, ss4⟩
  refine TC.seq ?_
  refine TC.region ?_
  refine TL.move rfl rfl (v := SV.v s15) rfl ?_
  refine TL.assign rfl rfl (v := SV.v s15) rfl ?_
  refine TL.done ?_
  exact TC.retF (Fin.body (fin1 (.inr rfl) rfl (.tmp rfl) [1, 0] rfl ⟨s15, ss4, rfl, rfl⟩))

end Go.Proofs.Ytiiljfpbcanphaa.G

/- spec.l01Near, as a pure function. -/
set_option linter.unusedVariables false
namespace Go.Proofs.Ytiiljfpbcanphaa.G
open Go Go.Sx Go.Proofs

def spec_l01Near.f (s1 : List UInt8) (s3 : Int) (s4 : Int) (most1 : Int) : Option (Int × Int × Int) := (G.spec_l01Next.f s1 s3 s4 14).bind (fun p => match p with | (r_1, s5, s6) => (bif (r_1 == 0) then (G.spec_l01Pick.f s1 s5 s6 ([(-1), (w64 (most1 + 1)), 1099511627776, (-4611686018427387904)] : List Int)).bind (fun p => match p with | (r_2, s8, s9) => some (r_2, s8, s9)) else (G.spec_l01Next.f s1 s5 s6 (w64 (most1 + 1))).bind (fun p => match p with | (r_3, s10, s11) => some (r_3, s10, s11))))

def spec_l01Near.R (b_1 : Nat) (s2 : SV) (r : Int × Int × Int) (v : Value) (L : List Asn) : Prop := v = .int .i64 r.1 ∧ L = [box b_1 143 [.one (SV.v s2), .one (.int .i64 r.2.1), .one (.int .u64 r.2.2)]]

set_option maxRecDepth 100000 in
set_option maxHeartbeats 4000000 in
theorem spec_l01Near.calls (w0 : World) (I : Hp) (w : World) (b_1 : Nat) (s2 : SV) (s1 : List UInt8) (s3 : Int) (s4 : Int) (most1 : Int) (hS : St w0 I [box b_1 143 [.one (SV.v s2), .one (.int .i64 s3), .one (.int .u64 s4)]] w) (h1 : Reads Eu I s2 s1) :
  ∀ r, spec_l01Near.f s1 s3 s4 most1 = some r → Calls Try.prog 117 #[bp b_1 0, .int .i64 most1] w (RetM w0 I ((spec_l01Near.R b_1 s2) r)) := by

 refine calls_TM (w0 := w0) (I := I) (L := [box b_1 143 [.one (SV.v s2), .one (.int .i64 s3), .one (.int .u64 s4)]]) (n := 17) (Γ := [(0, bp b_1 0), (1, .int .i64 most1)]) (R := (spec_l01Near.R b_1 s2)) Try.func117 rfl rfl (Nat.le_of_ble_eq_true rfl) ⟨rfl, rfl, trivial⟩ ?_ w hS
 unfold spec_l01Near.f
 refine TC.seq ?_
 refine TC.region ?_
 refine TL.assign rfl rfl (v := .int .i64 0) rfl ?_
 refine TL.done ?_
 refine TC.seq ?_
 refine TC.seq ?_
 refine TC.region ?_
 refine TL.move rfl rfl (v := bp b_1 0) rfl ?_
 refine TL.callX (R := G.spec_l01Next.R b_1 s2) [0] [box b_1 143 [.one (SV.v s2), .one (.int .i64 s3), .one (.int .u64 s4)]] [] rfl Try.call129 rfl rfl rfl (fun w I_ hle hB hS => G.spec_l01Next.calls _ I_ w b_1 s2 s1 s3 s4 14 hS (h1.mono hle)) ?_
 rintro ⟨r_1, s5, s6⟩ _ _ ⟨rfl, rfl⟩
 refine TL.bin .i64 r_1 0 rfl rfl rfl rfl (v := .bool (r_1 == 0)) rfl ?_
 refine TL.done ?_
 refine TC.cond (b := (r_1 == 0)) rfl (fun c1 => ?_) (fun c2 => ?_)
 ·refine TC.seq ?_
  refine TC.region ?_
  refine TL.move rfl rfl (v := bp b_1 0) rfl ?_
  refine TL.move rfl rfl (v := .int .i64 most1) rfl ?_
  refine TL.bin .i64 most1 1 rfl rfl rfl rfl (v := .int .i64 (w64 (most1 + 1))) rfl ?_
  refine TL.blit Ei ([(-1), (w64 (most1 + 1)), 1099511627776, (-4611686018427387904)] : List Int) Try.underlying22 Try.sizeOf2 Try.zeroValue2 rfl rfl rfl [(0, .int .i64 (-1)), (1, .int .i64 (w64 (most1 + 1))), (2, .int .i64 1099511627776), (3, .int .i64 (-4611686018427387904))] rfl ⟨rfl, rfl, rfl, rfl, rfl, rfl, rfl, rfl, trivial⟩ rfl rfl fun s7 => ?_
  refine TL.callX (R := G.spec_l01Pick.R b_1 s2) [1, 0] [box b_1 143 [.one (SV.v s2), .one (.int .i64 s5), .one (.int .u64 s6)]] [row Ei 2 s7 ([(-1), (w64 (most1 + 1)), 1099511627776, (-4611686018427387904)] : List Int)] rfl Try.call166 rfl rfl rfl (fun w I_ hle hB hS => G.spec_l01Pick.calls _ I_ w b_1 s2 s1 s5 s6 s7 ([(-1), (w64 (most1 + 1)), 1099511627776, (-4611686018427387904)] : List Int) hS (h1.mono hle) (hB.reads 0 rfl)) ?_
  rintro ⟨r_2, s8, s9⟩ _ _ ⟨rfl, rfl⟩
  refine TL.assign rfl rfl (v := .int .i64 r_2) rfl ?_
  refine TL.done ?_
  exact TC.retF (Fin.body (fin1 (.inr rfl) rfl (.tmp rfl) [0] rfl ⟨rfl, rfl⟩))
 ·refine TC.skip ?_
  refine TC.seq ?_
  refine TC.region ?_
  refine TL.move rfl rfl (v := bp b_1 0) rfl ?_
  refine TL.move rfl rfl (v := .int .i64 most1) rfl ?_
  refine TL.bin .i64 most1 1 rfl rfl rfl rfl (v := .int .i64 (w64 (most1 + 1))) rfl ?_
  refine TL.callX (R := G.spec_l01Next.R b_1 s2) [0] [box b_1 143 [.one (SV.v s2), .one (.int .i64 s5), .one (.int .u64 s6)]] [] rfl Try.call129 rfl rfl rfl (fun w I_ hle hB hS => G.spec_l01Next.calls _ I_ w b_1 s2 s1 s5 s6 (w64 (most1 + 1)) hS (h1.mono hle)) ?_
  rintro ⟨r_3, s10, s11⟩ _ _ ⟨rfl, rfl⟩
  refine TL.assign rfl rfl (v := .int .i64 r_3) rfl ?_
  refine TL.done ?_
  exact TC.retF (Fin.body (fin1 (.inr rfl) rfl (.tmp rfl) [0] rfl ⟨rfl, rfl⟩))

end Go.Proofs.Ytiiljfpbcanphaa.G

/- spec.DrawFlipEdge, as a pure function. -/
set_option linter.unusedVariables false
namespace Go.Proofs.Ytiiljfpbcanphaa.G
open Go Go.Sx Go.Proofs

def spec_DrawFlipEdge.f (code1 : List UInt8) : Option ((List (List Int)) × Int) := (G.spec_l01From.f code1).bind (fun p => match p with | (r_1, r_2) => (G.spec_l07Spoil.f code1 r_1 r_2).bind (fun p => match p with | (r_3, s3, s4) => (G.spec_l01Near.f code1 s3 s4 (if 0 > (w64 ((w64 (Int.tdiv (w64 ((r_3.length : Int) * 3)) 2)) - 1)) then 0 else (w64 ((w64 (Int.tdiv (w64 ((r_3.length : Int) * 3)) 2)) - 1)))).bind (fun p => match p with | (r_4, s5, s6) => some (r_3, (w64 (1 + r_4))))))

def spec_DrawFlipEdge.R (r : (List (List Int)) × Int) (v : Value) (L : List Asn) : Prop := ∃ (s0 : SV) (ss0 : List SV), v = .tuple #[SV.v s0, .int .i64 r.2] ∧ L = [mat Ei 2 22 s0 ss0 r.1]

set_option maxRecDepth 100000 in
set_option maxHeartbeats 4000000 in
theorem spec_DrawFlipEdge.calls (w : World) (s1 : SV) (code1 : List UInt8) (h1 : Reads Eu (hp w) s1 code1) :
  ∀ r, spec_DrawFlipEdge.f code1 = some r → Calls Try.prog 40 #[SV.v s1] w (Ret w (spec_DrawFlipEdge.R r)) := by

 refine calls_T (n := 20) (Γ := [(0, SV.v s1)]) (R := spec_DrawFlipEdge.R) Try.func40 rfl rfl (Nat.le_of_ble_eq_true rfl) ⟨rfl, trivial⟩ ?_
 unfold spec_DrawFlipEdge.f
 refine TC.seq ?_
 refine TC.region ?_
 refine TL.assign rfl rfl (v := SV.v ⟨none, 0, 0⟩) rfl ?_
 refine TL.assign rfl rfl (v := .int .i64 0) rfl ?_
 refine TL.done ?_
 refine TC.seq ?_
 refine TC.region ?_
 refine TL.move rfl rfl (v := SV.v s1) rfl ?_
 refine TL.call (R := G.spec_l01From.R s1) Try.call115 rfl rfl rfl (fun w hS => G.spec_l01From.calls w s1 code1 ((Rd.old h1) w hS)) ?_
 rintro ⟨r_1, r_2⟩ _ _ ⟨b_1, rfl, rfl⟩
 refine TL.assign rfl rfl (v := bp b_1 0) rfl ?_
 refine TL.done ?_
 refine TC.seq ?_
 refine TC.region ?_
 refine TL.move rfl rfl (v := bp b_1 0) rfl ?_
 refine TL.callX (R := G.spec_l07Spoil.R b_1 s1) [0] [box b_1 143 [.one (SV.v s1), .one (.int .i64 r_1), .one (.int .u64 r_2)]] [] rfl Try.call116 rfl rfl rfl (fun w I_ hle hB hS => G.spec_l07Spoil.calls _ I_ w b_1 s1 code1 r_1 r_2 hS (h1.mono hle)) ?_
 rintro ⟨r_3, s3, s4⟩ _ _ ⟨s2, ss1, rfl, rfl⟩
 refine TL.assign rfl rfl (v := SV.v s2) rfl ?_
 refine TL.done ?_
 refine TC.seq ?_
 refine TC.region ?_
 refine TL.move rfl rfl (v := SV.v s2) rfl ?_
 refine TL.move rfl rfl (v := bp b_1 0) rfl ?_
 refine TL.move rfl rfl (v := SV.v s2) rfl ?_
 refine TL.lenM (RdM.mat 0 rfl) Try.underlying32 rfl rfl rfl ?_
 refine TL.bin .i64 (r_3.length : Int) 3 rfl rfl rfl rfl (v := .int .i64 (w64 ((r_3.length : Int) * 3))) rfl ?_
 refine TL.quo .i64 (w64 ((r_3.length : Int) * 3)) 2 (by decide) rfl rfl rfl rfl ?_
 refine TL.bin .i64 (w64 (Int.tdiv (w64 ((r_3.length : Int) * 3)) 2)) 1 rfl rfl rfl rfl (v := .int .i64 (w64 ((w64 (Int.tdiv (w64 ((r_3.length : Int) * 3)) 2)) - 1))) rfl ?_
 refine TL.max2 rfl rfl rfl rfl ?_
 refine TL.callX (R := G.spec_l01Near.R b_1 s1) [1, 0] [box b_1 143 [.one (SV.v s1), .one (.int .i64 s3), .one (.int .u64 s4)]] [mat Ei 2 22 s2 ss1 r_3] rfl Try.call117 rfl rfl rfl (fun w I_ hle hB hS => G.spec_l01Near.calls _ I_ w b_1 s1 code1 s3 s4 (if 0 > (w64 ((w64 (Int.tdiv (w64 ((r_3.length : Int) * 3)) 2)) - 1)) then 0 else (w64 ((w64 (Int.tdiv (w64 ((r_3.length : Int) * 3)) 2)) - 1))) hS (h1.mono hle)) ?_
 rintro ⟨r_4, s5, s6⟩ _ _ ⟨rfl, rfl⟩
 refine TL.bin .i64 1 r_4 rfl rfl rfl rfl (v := .int .i64 (w64 (1 + r_4))) rfl ?_
 refine TL.assign rfl rfl (v := SV.v s2) rfl ?_
 refine TL.assign rfl rfl (v := .int .i64 (w64 (1 + r_4))) rfl ?_
 refine TL.done ?_
 exact TC.retF (Fin.body (fin2 (.inr rfl) rfl (.tmp rfl) (.tmp rfl) [1] rfl ⟨s2, ss1, rfl, rfl⟩))

end Go.Proofs.Ytiiljfpbcanphaa.G

/- impl.from, as a pure function. -/
set_option linter.unusedVariables false
namespace Go.Proofs.Ytiiljfpbcanphaa.G
open Go Go.Sx Go.Proofs

def impl_from.f (t1 : List Int) (at_1 : Int) : Option (Int × Int) := chk (Int.tmod (w64 (at_1 + 1)) 3) t1.length (chk (Int.tmod (w64 (at_1 + 2)) 3) t1.length (some ((gt t1 (Int.tmod (w64 (at_1 + 1)) 3)), (gt t1 (Int.tmod (w64 (at_1 + 2)) 3)))))

def impl_from.R (r : Int × Int) (v : Value) (L : List Asn) : Prop := v = .tuple #[.int .i64 r.1, .int .i64 r.2] ∧ L = []

set_option maxRecDepth 100000 in
set_option maxHeartbeats 4000000 in
theorem impl_from.calls (w : World) (s1 : SV) (t1 : List Int) (at_1 : Int) (h1 : Reads Ei (hp w) s1 t1) :
  ∀ r, impl_from.f t1 at_1 = some r → Calls Try.prog 120 #[SV.v s1, .int .i64 at_1] w (Ret w (impl_from.R r)) := by

 refine calls_T (n := 18) (Γ := [(0, SV.v s1), (1, .int .i64 at_1)]) (R := impl_from.R) Try.func120 rfl rfl (Nat.le_of_ble_eq_true rfl) ⟨rfl, rfl, trivial⟩ ?_
 unfold impl_from.f
 refine TC.seq ?_
 refine TC.region ?_
 refine TL.assign rfl rfl (v := .int .i64 0) rfl ?_
 refine TL.assign rfl rfl (v := .int .i64 0) rfl ?_
 refine TL.done ?_
 refine TC.seq ?_
 refine TC.wk (Γ' := [(0, SV.v s1), (1, .int .i64 at_1)]) ⟨rfl, rfl, trivial⟩ ?_
 refine TC.chk fun h2 => ?_
 refine TC.chk fun h3 => ?_
 refine TC.draw [SV.v s1, .int .i64 at_1, .int .i64 (w64 (at_1 + 1)), .int .i64 (Int.tmod (w64 (at_1 + 1)) 3), ep s1 ((Int.tmod (w64 (at_1 + 1)) 3).toNat), .int .i64 (gt t1 (Int.tmod (w64 (at_1 + 1)) 3)), SV.v s1, .int .i64 at_1, .int .i64 (w64 (at_1 + 2)), .int .i64 (Int.tmod (w64 (at_1 + 2)) 3), ep s1 ((Int.tmod (w64 (at_1 + 2)) 3).toNat), .int .i64 (gt t1 (Int.tmod (w64 (at_1 + 2)) 3)), .int .i64 (gt t1 (Int.tmod (w64 (at_1 + 1)) 3)), .int .i64 (gt t1 (Int.tmod (w64 (at_1 + 2)) 3))] 14 [] (by kernel_rfl) rfl rfl rfl rfl ?_ ?_
 ·refine ⟨?_, ?_, ?_, ?_, ?_, ?_, ?_, ?_, ?_, ?_, ?_, ?_, ?_, ?_, trivial⟩
  ·refine TL.move rfl rfl (v := SV.v s1) rfl ?_
   refine TL.done ?_
   exact TC.nrm () () ⟨rfl, trivial⟩ [] (by kernel_rfl)
  ·refine TL.move rfl rfl (v := .int .i64 at_1) rfl ?_
   refine TL.done ?_
   exact TC.nrm () () ⟨rfl, trivial⟩ [] (by kernel_rfl)
  ·refine TL.bin .i64 at_1 1 rfl rfl rfl rfl (v := .int .i64 (w64 (at_1 + 1))) rfl ?_
   refine TL.done ?_
   exact TC.nrm () () ⟨rfl, trivial⟩ [] (by kernel_rfl)
  ·refine TL.rem .i64 (w64 (at_1 + 1)) 3 (by decide) rfl rfl rfl rfl ?_
   refine TL.done ?_
   exact TC.nrm () () ⟨rfl, trivial⟩ [] (by kernel_rfl)
  ·refine TL.ixs (Int.tmod (w64 (at_1 + 1)) 3) ((Int.tmod (w64 (at_1 + 1)) 3).toNat) (Rd.old h1) h2 Try.underlying22 Try.sizeOf2 rfl rfl rfl rfl (by omega) ?_
   refine TL.done ?_
   exact TC.nrm () () ⟨rfl, trivial⟩ [] (by kernel_rfl)
  ·refine TL.loadE (Rd.old h1) Try.isAgg2 (Int.tmod (w64 (at_1 + 1)) 3).toNat 0 (gt_spec h2) (v := .int .i64 (gt t1 (Int.tmod (w64 (at_1 + 1)) 3))) rfl (by simp only [show Ei.sz = 1 from rfl] <;> omega) rfl rfl rfl ?_
   refine TL.done ?_
   exact TC.nrm () () ⟨rfl, trivial⟩ [] (by kernel_rfl)
  ·refine TL.move rfl rfl (v := SV.v s1) rfl ?_
   refine TL.done ?_
   exact TC.nrm () () ⟨rfl, trivial⟩ [] (by kernel_rfl)
  ·refine TL.move rfl rfl (v := .int .i64 at_1) rfl ?_
   refine TL.done ?_
   exact TC.nrm () () ⟨rfl, trivial⟩ [] (by kernel_rfl)
  ·refine TL.bin .i64 at_1 2 rfl rfl rfl rfl (v := .int .i64 (w64 (at_1 + 2))) rfl ?_
   refine TL.done ?_
   exact TC.nrm () () ⟨rfl, trivial⟩ [] (by kernel_rfl)
  ·refine TL.rem .i64 (w64 (at_1 + 2)) 3 (by decide) rfl rfl rfl rfl ?_
   refine TL.done ?_
   exact TC.nrm () () ⟨rfl, trivial⟩ [] (by kernel_rfl)
  ·refine TL.ixs (Int.tmod (w64 (at_1 + 2)) 3) ((Int.tmod (w64 (at_1 + 2)) 3).toNat) (Rd.old h1) h3 Try.underlying22 Try.sizeOf2 rfl rfl rfl rfl (by omega) ?_
   refine TL.done ?_
   exact TC.nrm () () ⟨rfl, trivial⟩ [] (by kernel_rfl)
  ·refine TL.loadE (Rd.old h1) Try.isAgg2 (Int.tmod (w64 (at_1 + 2)) 3).toNat 0 (gt_spec h3) (v := .int .i64 (gt t1 (Int.tmod (w64 (at_1 + 2)) 3))) rfl (by simp only [show Ei.sz = 1 from rfl] <;> omega) rfl rfl rfl ?_
   refine TL.done ?_
   exact TC.nrm () () ⟨rfl, trivial⟩ [] (by kernel_rfl)
  ·refine TL.assign rfl rfl (v := .int .i64 (gt t1 (Int.tmod (w64 (at_1 + 1)) 3))) rfl ?_
   refine TL.done ?_
   exact TC.nrm () () ⟨rfl, trivial⟩ [] (by kernel_rfl)
  ·refine TL.assign rfl rfl (v := .int .i64 (gt t1 (Int.tmod (w64 (at_1 + 2)) 3))) rfl ?_
   refine TL.done ?_
   exact TC.nrm () () ⟨rfl, trivial⟩ [] (by kernel_rfl)
 ·exact TC.retF (Fin.body (fin2 (.inr rfl) rfl (.tmp rfl) (.tmp rfl) [] rfl ⟨rfl, rfl⟩))

end Go.Proofs.Ytiiljfpbcanphaa.G

/- impl.FlipEdge, as a pure function. -/
set_option linter.unusedVariables false
namespace Go.Proofs.Ytiiljfpbcanphaa.G
open Go Go.Sx Go.Proofs

def impl_FlipEdge.f (x1 : List (List Int)) (x2 : Int) : Option ((List (List Int)) × Int) := (G.impl_IsSurface.f x1).bind (fun r_1 => (bif (!r_1) then some (([] : List (List Int)), 1) else (G.impl_edgesOf.f x1).bind (fun r_2 => (G.impl_in.f x2 1 r_2).bind (fun r_3 => (bif (!r_3) then some (([] : List (List Int)), 2) else (G.impl_sidesOfEdges.f x1).bind (fun r_4 => chk x2 r_4.length ((G.impl_oriented.f x1).bind (fun r_5 => (bif (!r_5) then some (([] : List (List Int)), 5) else chk 0 ((gt r_4 x2).length) (chk 1 ((gt r_4 x2).length) ((bif ((gt (gt r_4 x2) 0).1 == (gt (gt r_4 x2) 1).1) then some (([] : List (List Int)), 5) else chk ((gt (gt r_4 x2) 0).1) x1.length (chk ((gt (gt r_4 x2) 0).2) ((gt x1 ((gt (gt r_4 x2) 0).1)).length) (((bif (decide ((gt (gt x1 ((gt (gt r_4 x2) 0).1)) ((gt (gt r_4 x2) 0).2)) < 0)) then some ((gt (gt r_4 x2) 1).1, (gt (gt r_4 x2) 1).2, (gt (gt r_4 x2) 0).1, (gt (gt r_4 x2) 0).2) else some ((gt (gt r_4 x2) 0).1, (gt (gt r_4 x2) 0).2, (gt (gt r_4 x2) 1).1, (gt (gt r_4 x2) 1).2))).bind (fun p => match p with | (y7, y8, y9, y10) => chk y7 x1.length ((G.impl_from.f (gt x1 y7) y8).bind (fun p => match p with | (r_8, r_9) => chk y9 x1.length ((G.impl_from.f (gt x1 y9) y10).bind (fun p => match p with | (r_10, r_11) => (G.impl_cloneSurface.f x1).bind (fun r_12 => chk y7 r_12.length (chk y9 ((r_12.set y7.toNat ([x2, r_9, r_10] : List Int)).length) (some (((r_12.set y7.toNat ([x2, r_9, r_10] : List Int)).set y9.toNat ([(w64 (0 - x2)), r_11, r_8] : List Int)), 0)))))))))))))))))))))))

def impl_FlipEdge.R (r : (List (List Int)) × Int) (v : Value) (L : List Asn) : Prop := ∃ (s0 : SV) (ss0 : List SV), v = .tuple #[SV.v s0, .int .i64 r.2] ∧ L = [mat Ei 2 22 s0 ss0 r.1]

set_option maxRecDepth 100000 in
set_option maxHeartbeats 4000000 in
theorem impl_FlipEdge.calls (w : World) (s1 : SV) (ss1 : List SV) (x1 : List (List Int)) (x2 : Int) (h1 : ReadsM Ei (hp w) s1 ss1 x1) :
  ∀ r, impl_FlipEdge.f x1 x2 = some r → Calls Try.prog 41 #[SV.v s1, .int .i64 x2] w (Ret w (impl_FlipEdge.R r)) := by

 refine calls_T (n := 103) (Γ := [(0, SV.v s1), (1, .int .i64 x2)]) (R := impl_FlipEdge.R) Try.func41 rfl rfl (Nat.le_of_ble_eq_true rfl) ⟨rfl, rfl, trivial⟩ ?_
 unfold impl_FlipEdge.f
 refine TC.seq ?_
 refine TC.region ?_
 refine TL.assign rfl rfl (v := SV.v ⟨none, 0, 0⟩) rfl ?_
 refine TL.assign rfl rfl (v := .int .i64 0) rfl ?_
 refine TL.done ?_
 refine TC.seq ?_
 refine TC.block NoEx.body ?_
 refine TC.seq ?_
 refine TC.region ?_
 refine TL.move rfl rfl (v := SV.v s1) rfl ?_
 refine TL.call (R := G.impl_IsSurface.R) Try.call44 rfl rfl rfl (fun w hS => G.impl_IsSurface.calls w s1 ss1 x1 ((RdM.old h1) w hS)) ?_
 rintro r_1 _ _ ⟨rfl, rfl⟩
 refine TL.not r_1 rfl rfl rfl ?_
 refine TL.assign rfl rfl (v := .bool (!r_1)) rfl ?_
 refine TL.done ?_
 refine TC.cond (b := (!r_1)) rfl (fun c1 => ?_) (fun c2 => ?_)
 ·refine TC.seq ?_
  refine TC.region ?_
  refine TL.assign rfl rfl (v := SV.v ⟨none, 0, 0⟩) rfl ?_
  refine TL.assign rfl rfl (v := .int .i64 1) rfl ?_
  refine TL.done ?_
  refine TC.nilmat Ei 2 22 ?_
  exact TC.retF (Fin.body (fin2 (.inr rfl) rfl (.tmp rfl) (.tmp rfl) [0] rfl ⟨⟨none, 0, 0⟩, [], rfl, rfl⟩))
 ·refine TC.seq ?_
  refine TC.region ?_
  refine TL.move rfl rfl (v := .int .i64 x2) rfl ?_
  refine TL.move rfl rfl (v := SV.v s1) rfl ?_
  refine TL.call (R := G.impl_edgesOf.R) Try.call118 rfl rfl rfl (fun w hS => G.impl_edgesOf.calls w s1 ss1 x1 ((RdM.old h1) w hS)) ?_
  rintro r_2 _ _ ⟨rfl, rfl⟩
  refine TL.call (R := G.impl_in.R) Try.call72 rfl rfl rfl (fun w hS => G.impl_in.calls w x2 1 r_2) ?_
  rintro r_3 _ _ ⟨rfl, rfl⟩
  refine TL.not r_3 rfl rfl rfl ?_
  refine TL.assign rfl rfl (v := .bool (!r_3)) rfl ?_
  refine TL.done ?_
  refine TC.cond (b := (!r_3)) rfl (fun c3 => ?_) (fun c4 => ?_)
  ·refine TC.seq ?_
   refine TC.region ?_
   refine TL.assign rfl rfl (v := SV.v ⟨none, 0, 0⟩) rfl ?_
   refine TL.assign rfl rfl (v := .int .i64 2) rfl ?_
   refine TL.done ?_
   refine TC.nilmat Ei 2 22 ?_
   exact TC.retF (Fin.body (fin2 (.inr rfl) rfl (.tmp rfl) (.tmp rfl) [0] rfl ⟨⟨none, 0, 0⟩, [], rfl, rfl⟩))
  ·refine TC.skip ?_
   refine TC.seq ?_
   refine TC.region ?_
   refine TL.move rfl rfl (v := SV.v s1) rfl ?_
   refine TL.call (R := G.impl_sidesOfEdges.R) Try.call119 rfl rfl rfl (fun w hS => G.impl_sidesOfEdges.calls w s1 ss1 x1 ((RdM.old h1) w hS)) ?_
   rintro r_4 _ _ ⟨s2, ss2, rfl, rfl⟩
   refine TL.move rfl rfl (v := .int .i64 x2) rfl ?_
   refine TL.chk fun h2 => ?_
   refine TL.ixsM x2 x2.toNat (RdM.mat 0 rfl) h2 Try.underlying105 Try.sizeOf104 rfl rfl rfl rfl (by omega) ?_
   refine TL.loadM2 (RdM.mat 0 rfl) Try.isAgg104 x2 h2 (by omega) rfl rfl rfl ?_
   refine TL.assign rfl rfl (v := SV.v (gt ss2 x2)) rfl ?_
   refine TL.done ?_
   refine TC.seq ?_
   refine TC.seq ?_
   refine TC.bindE ?_
   rintro r_5 hr1
   refine TC.ifB (!r_5) (fun c5 => ?_) (fun c5 => ?_)
   ·refine TC.wk (Γ' := [(0, SV.v s1), (1, .int .i64 x2), (4, SV.v ⟨none, 0, 0⟩), (5, .int .i64 0), (15, SV.v s1), (16, .bool r_1), (17, .bool (!r_1)), (14, .bool (!r_1)), (19, .int .i64 x2), (20, SV.v s1), (21, .int .i64 r_2), (22, .bool r_3), (23, .bool (!r_3)), (18, .bool (!r_3)), (24, SV.v s1), (25, SV.v s2), (26, .int .i64 x2), (27, ep s2 x2.toNat), (28, SV.v (gt ss2 x2)), (6, SV.v (gt ss2 x2))]) ⟨rfl, rfl, rfl, rfl, rfl, rfl, rfl, rfl, rfl, rfl, rfl, rfl, rfl, rfl, rfl, rfl, rfl, rfl, rfl, rfl, trivial⟩ ?_
    refine TC.drawG [(0, SV.v s1), (1, .int .i64 x2), (4, SV.v ⟨none, 0, 0⟩), (5, .int .i64 0), (15, SV.v s1), (16, .bool r_1), (17, .bool (!r_1)), (14, .bool (!r_1)), (19, .int .i64 x2), (20, SV.v s1), (21, .int .i64 r_2), (22, .bool r_3), (23, .bool (!r_3)), (18, .bool (!r_3)), (24, SV.v s1), (25, SV.v s2), (26, .int .i64 x2), (27, ep s2 x2.toNat), (28, SV.v (gt ss2 x2)), (6, SV.v (gt ss2 x2))] [] ⟨rfl, rfl, rfl, rfl, rfl, rfl, rfl, rfl, rfl, rfl, rfl, rfl, rfl, rfl, rfl, rfl, rfl, rfl, rfl, rfl, trivial⟩ trivial (fun l_ g2 => [mat Eii 108 104 s2 ss2 r_4]) (fun g2 => [SV.v s1, .bool r_5, .bool true, .bool true, undef, undef, undef, undef, undef, undef, undef, undef, undef, .bool true]) [[], [0], [0, 1], [0, 1, 2], [0, 1, 2, 3], [0, 1, 2, 3, 4], [0, 1, 2, 3, 4, 5], [0, 1, 2, 3, 4, 5, 6], [0, 1, 2, 3], [0, 1, 2, 3, 8], [0, 1, 2, 3, 8, 9], [0, 1, 2, 3, 8, 9, 10], [0, 1, 2, 3, 4, 5, 6, 7, 8, 9, 10, 11], [0, 1, 2, 3, 4, 5, 6, 7, 8, 9, 10, 11, 12]] [[some false, some false, some false, some false, some false, some false, some false, some false, some false, some false, some false, some false, some false, some false], [some true, some false, some false, some false, some false, some false, some false, some false, some false, some false, some false, some false, some false, some false], [some true, some true, some false, some false, some false, some false, some false, some false, some false, some false, some false, some false, some false, some false], [some true, some true, some true, some false, some false, some false, some false, some false, some false, some false, some false, some false, some false, some false], [some true, some true, some true, some true, some false, some false, some false, some false, none, none, none, none, some false, some false], [some true, some true, some true, some true, some true, some false, some false, some false, none, none, none, none, some false, some false], [some true, some true, some true, some true, some true, some true, some false, some false, none, none, none, none, some false, some false], [some true, some true, some true, some true, some true, some true, some true, some false, none, none, none, none, some false, some false], [some true, some true, some true, some true, none, none, none, none, some false, some false, some false, some false, some false, some false], [some true, some true, some true, some true, none, none, none, none, some true, some false, some false, some false, some false, some false], [some true, some true, some true, some true, none, none, none, none, some true, some true, some false, some false, some false, some false], [some true, some true, some true, some true, none, none, none, none, some true, some true, some true, some false, some false, some false], [some true, some true, some true, some true, some true, some true, some true, some true, some true, some true, some true, some true, some false, some false], [some true, some true, some true, some true, some true, some true, some true, some true, some true, some true, some true, some true, some true, some false]] (by kernel_rfl) (fun _ => rfl) rfl rfl rfl rfl rfl (fun _ _ => ⟨⟨⟨⟨⟨⟨⟨⟨⟨⟨⟨⟨⟨⟨trivial, rfl⟩, rfl⟩, rfl⟩, rfl⟩, rfl⟩, rfl⟩, rfl⟩, rfl⟩, rfl⟩, rfl⟩, rfl⟩, rfl⟩, rfl⟩, rfl⟩) 0 [0] (fun _ => by kernel_rfl) ?_ ?_
    ·refine ⟨rfl, ?_, rfl, ?_, rfl, ?_, rfl, ?_, rfl, ?_, rfl, ?_, rfl, ?_, rfl, ?_, rfl, ?_, rfl, ?_, rfl, ?_, rfl, ?_, rfl, ?_, rfl, ?_, trivial⟩
     ·intro g2
      refine TL.move rfl rfl (v := SV.v s1) rfl ?_
      refine TL.done ?_
      exact TC.nrm () [] ⟨rfl, trivial⟩ [0] (by kernel_rfl)
     ·intro g2
      refine TL.asL [mat Eii 108 104 s2 ss2 r_4] (by kernel_rfl) ?_
      refine TL.callH (R := G.impl_oriented.R) hr1 Try.call108 rfl rfl rfl (fun w hS => G.impl_oriented.calls w s1 ss1 x1 ((RdM.old h1) w hS)) ?_
      rintro _ _ ⟨rfl, rfl⟩
      refine TL.done ?_
      exact TC.nrm () [] ⟨rfl, trivial⟩ [0] (by kernel_rfl)
     ·intro g2
      refine TL.not r_5 rfl rfl rfl ?_
      refine TL.done ?_
      exact TC.nrm () [] ⟨(by rw [c5]; rfl), trivial⟩ [0] (by kernel_rfl)
     ·intro g2
      refine TL.move rfl rfl (v := .bool true) rfl ?_
      refine TL.done ?_
      exact TC.nrm () [] ⟨rfl, trivial⟩ [0] (by kernel_rfl)
     ·intro b8_ b9_ b10_ b11_ g2
      refine TL.skip rfl rfl (by decide) ?_
      refine TL.done ?_
      exact TC.nrm () [] ⟨rfl, trivial⟩ [0] (by kernel_rfl)
     ·intro b8_ b9_ b10_ b11_ g2
      refine TL.asL [mat Eii 108 104 s2 ss2 r_4] (by kernel_rfl) ?_
      refine TL.skip rfl rfl (by decide) ?_
      refine TL.done ?_
      exact TC.nrm () [] ⟨rfl, trivial⟩ [0] (by kernel_rfl)
     ·intro b8_ b9_ b10_ b11_ g2
      refine TL.asL [mat Eii 108 104 s2 ss2 r_4] (by kernel_rfl) ?_
      refine TL.skip rfl rfl (by decide) ?_
      refine TL.done ?_
      exact TC.nrm () [] ⟨rfl, trivial⟩ [0] (by kernel_rfl)
     ·intro b8_ b9_ b10_ b11_ g2
      refine TL.asL [mat Eii 108 104 s2 ss2 r_4] (by kernel_rfl) ?_
      refine TL.skip rfl rfl (by decide) ?_
      refine TL.done ?_
      exact TC.nrm () [] ⟨rfl, trivial⟩ [0] (by kernel_rfl)
     ·intro b4_ b5_ b6_ b7_ g2
      refine TL.skip rfl rfl (by decide) ?_
      refine TL.done ?_
      exact TC.nrm () [] ⟨rfl, trivial⟩ [0] (by kernel_rfl)
     ·intro b4_ b5_ b6_ b7_ g2
      refine TL.asL [mat Eii 108 104 s2 ss2 r_4] (by kernel_rfl) ?_
      refine TL.skip rfl rfl (by decide) ?_
      refine TL.done ?_
      exact TC.nrm () [] ⟨rfl, trivial⟩ [0] (by kernel_rfl)
     ·intro b4_ b5_ b6_ b7_ g2
      refine TL.asL [mat Eii 108 104 s2 ss2 r_4] (by kernel_rfl) ?_
      refine TL.skip rfl rfl (by decide) ?_
      refine TL.done ?_
      exact TC.nrm () [] ⟨rfl, trivial⟩ [0] (by kernel_rfl)
     ·intro b4_ b5_ b6_ b7_ g2
      refine TL.asL [mat Eii 108 104 s2 ss2 r_4] (by kernel_rfl) ?_
      refine TL.skip rfl rfl (by decide) ?_
      refine TL.done ?_
      exact TC.nrm () [] ⟨rfl, trivial⟩ [0] (by kernel_rfl)
     ·intro g2
      refine TL.skip rfl rfl (by decide) ?_
      refine TL.done ?_
      exact TC.nrm () [] ⟨rfl, trivial⟩ [0] (by kernel_rfl)
     ·intro g2
      refine TL.pick rfl rfl (b := true) rfl (r := .bool true) rfl ?_
      refine TL.done ?_
      exact TC.nrm () [] ⟨rfl, trivial⟩ [0] (by kernel_rfl)
    ·intro g2
     refine TC.asL [mat Eii 108 104 s2 ss2 r_4] (by kernel_rfl) ?_
     refine TC.cond_true rfl ?_
     refine TC.seq ?_
     refine TC.region ?_
     refine TL.assign rfl rfl (v := SV.v ⟨none, 0, 0⟩) rfl ?_
     refine TL.assign rfl rfl (v := .int .i64 5) rfl ?_
     refine TL.done ?_
     refine TC.nilmat Ei 2 22 ?_
     exact TC.retF (Fin.body (fin2 (.inr rfl) rfl (.tmp rfl) (.tmp rfl) [0] rfl ⟨⟨none, 0, 0⟩, [], rfl, rfl⟩))
   ·refine TC.wk (Γ' := [(0, SV.v s1), (1, .int .i64 x2), (4, SV.v ⟨none, 0, 0⟩), (5, .int .i64 0), (15, SV.v s1), (16, .bool r_1), (17, .bool (!r_1)), (14, .bool (!r_1)), (19, .int .i64 x2), (20, SV.v s1), (21, .int .i64 r_2), (22, .bool r_3), (23, .bool (!r_3)), (18, .bool (!r_3)), (24, SV.v s1), (25, SV.v s2), (26, .int .i64 x2), (27, ep s2 x2.toNat), (28, SV.v (gt ss2 x2)), (6, SV.v (gt ss2 x2))]) ⟨rfl, rfl, rfl, rfl, rfl, rfl, rfl, rfl, rfl, rfl, rfl, rfl, rfl, rfl, rfl, rfl, rfl, rfl, rfl, rfl, trivial⟩ ?_
    refine TC.chk fun h3 => ?_
    refine TC.chk fun h4 => ?_
    refine TC.drawG [(0, SV.v s1), (1, .int .i64 x2), (4, SV.v ⟨none, 0, 0⟩), (5, .int .i64 0), (15, SV.v s1), (16, .bool r_1), (17, .bool (!r_1)), (14, .bool (!r_1)), (19, .int .i64 x2), (20, SV.v s1), (21, .int .i64 r_2), (22, .bool r_3), (23, .bool (!r_3)), (18, .bool (!r_3)), (24, SV.v s1), (25, SV.v s2), (26, .int .i64 x2), (27, ep s2 x2.toNat), (28, SV.v (gt ss2 x2)), (6, SV.v (gt ss2 x2))] [] ⟨rfl, rfl, rfl, rfl, rfl, rfl, rfl, rfl, rfl, rfl, rfl, rfl, rfl, rfl, rfl, rfl, rfl, rfl, rfl, rfl, trivial⟩ trivial (fun l_ g3 => [mat Eii 108 104 s2 ss2 r_4]) (fun g3 => [SV.v s1, .bool r_5, .bool false, .bool false, SV.v (gt ss2 x2), ep (gt ss2 x2) 0, ep (gt ss2 x2) 0, .int .i64 ((gt (gt r_4 x2) 0).1), SV.v (gt ss2 x2), ep (gt ss2 x2) 2, ep (gt ss2 x2) 2, .int .i64 ((gt (gt r_4 x2) 1).1), .bool ((gt (gt r_4 x2) 0).1 == (gt (gt r_4 x2) 1).1), .bool ((gt (gt r_4 x2) 0).1 == (gt (gt r_4 x2) 1).1)]) [[], [0], [0, 1], [0, 1, 2], [0, 1, 2, 3], [0, 1, 2, 3, 4], [0, 1, 2, 3, 4, 5], [0, 1, 2, 3, 4, 5, 6], [0, 1, 2, 3], [0, 1, 2, 3, 8], [0, 1, 2, 3, 8, 9], [0, 1, 2, 3, 8, 9, 10], [0, 1, 2, 3, 4, 5, 6, 7, 8, 9, 10, 11], [0, 1, 2, 3, 4, 5, 6, 7, 8, 9, 10, 11, 12]] [[some false, some false, some false, some false, some false, some false, some false, some false, some false, some false, some false, some false, some false, some false], [some true, some false, some false, some false, some false, some false, some false, some false, some false, some false, some false, some false, some false, some false], [some true, some true, some false, some false, some false, some false, some false, some false, some false, some false, some false, some false, some false, some false], [some true, some true, some true, some false, some false, some false, some false, some false, some false, some false, some false, some false, some false, some false], [some true, some true, some true, some true, some false, some false, some false, some false, none, none, none, none, some false, some false], [some true, some true, some true, some true, some true, some false, some false, some false, none, none, none, none, some false, some false], [some true, some true, some true, some true, some true, some true, some false, some false, none, none, none, none, some false, some false], [some true, some true, some true, some true, some true, some true, some true, some false, none, none, none, none, some false, some false], [some true, some true, some true, some true, none, none, none, none, some false, some false, some false, some false, some false, some false], [some true, some true, some true, some true, none, none, none, none, some true, some false, some false, some false, some false, some false], [some true, some true, some true, some true, none, none, none, none, some true, some true, some false, some false, some false, some false], [some true, some true, some true, some true, none, none, none, none, some true, some true, some true, some false, some false, some false], [some true, some true, some true, some true, some true, some true, some true, some true, some true, some true, some true, some true, some false, some false], [some true, some true, some true, some true, some true, some true, some true, some true, some true, some true, some true, some true, some true, some false]] (by kernel_rfl) (fun _ => rfl) rfl rfl rfl rfl rfl (fun _ _ => ⟨⟨⟨⟨⟨⟨⟨⟨⟨⟨⟨⟨⟨⟨trivial, rfl⟩, rfl⟩, rfl⟩, rfl⟩, rfl⟩, rfl⟩, rfl⟩, rfl⟩, rfl⟩, rfl⟩, rfl⟩, rfl⟩, rfl⟩, rfl⟩) 0 [0] (fun _ => by kernel_rfl) ?_ ?_
    ·refine ⟨rfl, ?_, rfl, ?_, rfl, ?_, rfl, ?_, rfl, ?_, rfl, ?_, rfl, ?_, rfl, ?_, rfl, ?_, rfl, ?_, rfl, ?_, rfl, ?_, rfl, ?_, rfl, ?_, trivial⟩
     ·intro g3
      refine TL.move rfl rfl (v := SV.v s1) rfl ?_
      refine TL.done ?_
      exact TC.nrm () [] ⟨rfl, trivial⟩ [0] (by kernel_rfl)
     ·intro g3
      refine TL.asL [mat Eii 108 104 s2 ss2 r_4] (by kernel_rfl) ?_
      refine TL.callH (R := G.impl_oriented.R) hr1 Try.call108 rfl rfl rfl (fun w hS => G.impl_oriented.calls w s1 ss1 x1 ((RdM.old h1) w hS)) ?_
      rintro _ _ ⟨rfl, rfl⟩
      refine TL.done ?_
      exact TC.nrm () [] ⟨rfl, trivial⟩ [0] (by kernel_rfl)
     ·intro g3
      refine TL.not r_5 rfl rfl rfl ?_
      refine TL.done ?_
      exact TC.nrm () [] ⟨(by rw [c5]; rfl), trivial⟩ [0] (by kernel_rfl)
     ·intro g3
      refine TL.move rfl rfl (v := .bool false) rfl ?_
      refine TL.done ?_
      exact TC.nrm () [] ⟨rfl, trivial⟩ [0] (by kernel_rfl)
     ·intro b8_ b9_ b10_ b11_ g3
      refine TL.move rfl rfl (v := SV.v (gt ss2 x2)) rfl ?_
      refine TL.done ?_
      exact TC.nrm () [] ⟨rfl, trivial⟩ [0] (by kernel_rfl)
     ·intro b8_ b9_ b10_ b11_ g3
      refine TL.asL [mat Eii 108 104 s2 ss2 r_4] (by kernel_rfl) ?_
      refine TL.ixs 0 0 (RdM.inn (RdM.mat 0 rfl) h2) h3 Try.underlying104 Try.sizeOf108 rfl rfl rfl rfl rfl ?_
      refine TL.done ?_
      exact TC.nrm () [] ⟨rfl, trivial⟩ [0] (by kernel_rfl)
     ·intro b8_ b9_ b10_ b11_ g3
      refine TL.asL [mat Eii 108 104 s2 ss2 r_4] (by kernel_rfl) ?_
      refine TL.fae (RdM.inn (RdM.mat 0 rfl) h2) (by have := h3; omega) Try.underlying108 rfl Try.sizeOf3 rfl 0 rfl rfl rfl rfl ?_
      refine TL.done ?_
      exact TC.nrm () [] ⟨rfl, trivial⟩ [0] (by kernel_rfl)
     ·intro b8_ b9_ b10_ b11_ g3
      refine TL.asL [mat Eii 108 104 s2 ss2 r_4] (by kernel_rfl) ?_
      refine TL.loadE (RdM.inn (RdM.mat 0 rfl) h2) Try.isAgg3 0 0 (gt_spec h3) (v := .int .i64 ((gt (gt r_4 x2) 0).1)) rfl rfl rfl rfl rfl ?_
      refine TL.done ?_
      exact TC.nrm () [] ⟨rfl, trivial⟩ [0] (by kernel_rfl)
     ·intro b4_ b5_ b6_ b7_ g3
      refine TL.move rfl rfl (v := SV.v (gt ss2 x2)) rfl ?_
      refine TL.done ?_
      exact TC.nrm () [] ⟨rfl, trivial⟩ [0] (by kernel_rfl)
     ·intro b4_ b5_ b6_ b7_ g3
      refine TL.asL [mat Eii 108 104 s2 ss2 r_4] (by kernel_rfl) ?_
      refine TL.ixs 1 2 (RdM.inn (RdM.mat 0 rfl) h2) h4 Try.underlying104 Try.sizeOf108 rfl rfl rfl rfl rfl ?_
      refine TL.done ?_
      exact TC.nrm () [] ⟨rfl, trivial⟩ [0] (by kernel_rfl)
     ·intro b4_ b5_ b6_ b7_ g3
      refine TL.asL [mat Eii 108 104 s2 ss2 r_4] (by kernel_rfl) ?_
      refine TL.fae (RdM.inn (RdM.mat 0 rfl) h2) (by have := h4; omega) Try.underlying108 rfl Try.sizeOf3 rfl 2 rfl rfl rfl rfl ?_
      refine TL.done ?_
      exact TC.nrm () [] ⟨rfl, trivial⟩ [0] (by kernel_rfl)
     ·intro b4_ b5_ b6_ b7_ g3
      refine TL.asL [mat Eii 108 104 s2 ss2 r_4] (by kernel_rfl) ?_
      refine TL.loadE (RdM.inn (RdM.mat 0 rfl) h2) Try.isAgg3 1 0 (gt_spec h4) (v := .int .i64 ((gt (gt r_4 x2) 1).1)) rfl rfl rfl rfl rfl ?_
      refine TL.done ?_
      exact TC.nrm () [] ⟨rfl, trivial⟩ [0] (by kernel_rfl)
     ·intro g3
      refine TL.bin .i64 ((gt (gt r_4 x2) 0).1) ((gt (gt r_4 x2) 1).1) rfl rfl rfl rfl (v := .bool ((gt (gt r_4 x2) 0).1 == (gt (gt r_4 x2) 1).1)) rfl ?_
      refine TL.done ?_
      exact TC.nrm () [] ⟨rfl, trivial⟩ [0] (by kernel_rfl)
     ·intro g3
      refine TL.pick rfl rfl (b := false) rfl (r := .bool ((gt (gt r_4 x2) 0).1 == (gt (gt r_4 x2) 1).1)) rfl ?_
      refine TL.done ?_
      exact TC.nrm () [] ⟨rfl, trivial⟩ [0] (by kernel_rfl)
    ·intro g3
     refine TC.asL [mat Eii 108 104 s2 ss2 r_4] (by kernel_rfl) ?_
     refine TC.cond (b := ((gt (gt r_4 x2) 0).1 == (gt (gt r_4 x2) 1).1)) rfl (fun c6 => ?_) (fun c7 => ?_)
     ·refine TC.seq ?_
      refine TC.region ?_
      refine TL.assign rfl rfl (v := SV.v ⟨none, 0, 0⟩) rfl ?_
      refine TL.assign rfl rfl (v := .int .i64 5) rfl ?_
      refine TL.done ?_
      refine TC.nilmat Ei 2 22 ?_
      exact TC.retF (Fin.body (fin2 (.inr rfl) rfl (.tmp rfl) (.tmp rfl) [0] rfl ⟨⟨none, 0, 0⟩, [], rfl, rfl⟩))
     ·refine TC.skip ?_
      refine TC.seq ?_
      refine TC.wk (Γ' := [(0, SV.v s1), (1, .int .i64 x2), (4, SV.v ⟨none, 0, 0⟩), (5, .int .i64 0), (15, SV.v s1), (16, .bool r_1), (17, .bool (!r_1)), (14, .bool (!r_1)), (19, .int .i64 x2), (20, SV.v s1), (21, .int .i64 r_2), (22, .bool r_3), (23, .bool (!r_3)), (18, .bool (!r_3)), (24, SV.v s1), (25, SV.v s2), (26, .int .i64 x2), (27, ep s2 x2.toNat), (28, SV.v (gt ss2 x2)), (6, SV.v (gt ss2 x2)), (29, SV.v s1), (30, .bool r_5), (31, .bool false), (32, .bool false), (33, SV.v (gt ss2 x2)), (34, ep (gt ss2 x2) 0), (35, ep (gt ss2 x2) 0), (36, .int .i64 ((gt (gt r_4 x2) 0).1)), (37, SV.v (gt ss2 x2)), (38, ep (gt ss2 x2) 2), (39, ep (gt ss2 x2) 2), (40, .int .i64 ((gt (gt r_4 x2) 1).1)), (41, .bool ((gt (gt r_4 x2) 0).1 == (gt (gt r_4 x2) 1).1)), (42, .bool ((gt (gt r_4 x2) 0).1 == (gt (gt r_4 x2) 1).1))]) ⟨rfl, rfl, rfl, rfl, rfl, rfl, rfl, rfl, rfl, rfl, rfl, rfl, rfl, rfl, rfl, rfl, rfl, rfl, rfl, rfl, rfl, rfl, rfl, rfl, rfl, rfl, rfl, rfl, rfl, rfl, rfl, rfl, rfl, rfl, trivial⟩ ?_
      refine TC.drawG [(0, SV.v s1), (1, .int .i64 x2), (4, SV.v ⟨none, 0, 0⟩), (5, .int .i64 0), (15, SV.v s1), (16, .bool r_1), (17, .bool (!r_1)), (14, .bool (!r_1)), (19, .int .i64 x2), (20, SV.v s1), (21, .int .i64 r_2), (22, .bool r_3), (23, .bool (!r_3)), (18, .bool (!r_3)), (24, SV.v s1), (25, SV.v s2), (26, .int .i64 x2), (27, ep s2 x2.toNat), (28, SV.v (gt ss2 x2)), (6, SV.v (gt ss2 x2)), (29, SV.v s1), (30, .bool r_5), (31, .bool false), (32, .bool false), (33, SV.v (gt ss2 x2)), (34, ep (gt ss2 x2) 0), (35, ep (gt ss2 x2) 0), (36, .int .i64 ((gt (gt r_4 x2) 0).1)), (37, SV.v (gt ss2 x2)), (38, ep (gt ss2 x2) 2), (39, ep (gt ss2 x2) 2), (40, .int .i64 ((gt (gt r_4 x2) 1).1)), (41, .bool ((gt (gt r_4 x2) 0).1 == (gt (gt r_4 x2) 1).1)), (42, .bool ((gt (gt r_4 x2) 0).1 == (gt (gt r_4 x2) 1).1))] [] ⟨rfl, rfl, rfl, rfl, rfl, rfl, rfl, rfl, rfl, rfl, rfl, rfl, rfl, rfl, rfl, rfl, rfl, rfl, rfl, rfl, rfl, rfl, rfl, rfl, rfl, rfl, rfl, rfl, rfl, rfl, rfl, rfl, rfl, rfl, trivial⟩ trivial (fun l_ g4 => [mat Eii 108 104 s2 ss2 r_4, (bif nb l_ 8 then box (gs (g4 48)).n 108 [.one (.int .i64 ((gt (gt r_4 x2) 0).1)), .one (.int .i64 ((gt (gt r_4 x2) 0).2))] else (bif nb l_ 6 then box (gs (g4 48)).n 108 [.one (.int .i64 0), .one (.int .i64 0)] else emp)), (bif nb l_ 9 then box (gs (g4 56)).n 108 [.one (.int .i64 ((gt (gt r_4 x2) 1).1)), .one (.int .i64 ((gt (gt r_4 x2) 1).2))] else (bif nb l_ 7 then box (gs (g4 56)).n 108 [.one (.int .i64 0), .one (.int .i64 0)] else emp))]) (fun g4 => [SV.v (gt ss2 x2), ep (gt ss2 x2) 0, sval [.one (.int .i64 ((gt (gt r_4 x2) 0).1)), .one (.int .i64 ((gt (gt r_4 x2) 0).2))], SV.v (gt ss2 x2), ep (gt ss2 x2) 2, sval [.one (.int .i64 ((gt (gt r_4 x2) 1).1)), .one (.int .i64 ((gt (gt r_4 x2) 1).2))], bp (gs (g4 48)).n 0, bp (gs (g4 56)).n 0, undef, undef]) [[], [0], [0, 1], [], [3], [3, 4], [], [], [0, 1, 2, 6, 7], [0, 1, 2, 3, 4, 5, 6, 7, 8]] [[some false, some false, some false, none, none, none, none, none, some false, some false], [some true, some false, some false, none, none, none, none, none, some false, some false], [some true, some true, some false, none, none, none, none, none, some false, some false], [none, none, none, some false, some false, some false, none, none, none, some false], [none, none, none, some true, some false, some false, none, none, none, some false], [none, none, none, some true, some true, some false, none, none, none, some false], [none, none, none, none, none, none, some false, none, some false, some false], [none, none, none, none, none, none, none, some false, some false, some false], [some true, some true, some true, none, none, none, some true, some true, some false, some false], [some true, some true, some true, some true, some true, some true, some true, some true, some true, some false]] (by kernel_rfl) (fun _ => rfl) rfl rfl rfl rfl rfl (fun _ _ => ⟨⟨⟨⟨⟨⟨⟨⟨⟨⟨trivial, rfl⟩, rfl⟩, rfl⟩, rfl⟩, rfl⟩, rfl⟩, rfl⟩, rfl⟩, rfl⟩, rfl⟩) 2 [2, 0, 0] (fun _ => by kernel_rfl) ?_ ?_
      ·refine ⟨rfl, ?_, rfl, ?_, rfl, ?_, rfl, ?_, rfl, ?_, rfl, ?_, rfl, ?_, rfl, ?_, rfl, ?_, rfl, ?_, trivial⟩
       ·intro b3_ b4_ b5_ b6_ b7_ g4
        refine TL.move rfl rfl (v := SV.v (gt ss2 x2)) rfl ?_
        refine TL.done ?_
        exact TC.nrm () [] ⟨rfl, trivial⟩ [0, 0, 0] (by kernel_rfl)
       ·intro b3_ b4_ b5_ b6_ b7_ g4
        refine TL.asL [mat Eii 108 104 s2 ss2 r_4, (bif b6_ then box (gs (g4 48)).n 108 [.one (.int .i64 0), .one (.int .i64 0)] else emp), (bif b7_ then box (gs (g4 56)).n 108 [.one (.int .i64 0), .one (.int .i64 0)] else emp)] (by kernel_rfl) ?_
        refine TL.ixs 0 0 (RdM.inn (RdM.mat 0 rfl) h2) h3 Try.underlying104 Try.sizeOf108 rfl rfl rfl rfl rfl ?_
        refine TL.done ?_
        exact TC.nrm () [] ⟨rfl, trivial⟩ [0, 0, 0] (by kernel_rfl)
       ·intro b3_ b4_ b5_ b6_ b7_ g4
        refine TL.asL [mat Eii 108 104 s2 ss2 r_4, (bif b6_ then box (gs (g4 48)).n 108 [.one (.int .i64 0), .one (.int .i64 0)] else emp), (bif b7_ then box (gs (g4 56)).n 108 [.one (.int .i64 0), .one (.int .i64 0)] else emp)] (by kernel_rfl) ?_
        refine TL.loadEA (RdM.inn (RdM.mat 0 rfl) h2) Try.isAgg108 Try.sizeOf108 0 (gt_spec h3) (v := sval [.one (.int .i64 ((gt (gt r_4 x2) 0).1)), .one (.int .i64 ((gt (gt r_4 x2) 0).2))]) rfl rfl rfl rfl rfl ?_
        refine TL.done ?_
        exact TC.nrm () [] ⟨rfl, trivial⟩ [0, 0, 0] (by kernel_rfl)
       ·intro b0_ b1_ b2_ b6_ b7_ b8_ g4
        refine TL.move rfl rfl (v := SV.v (gt ss2 x2)) rfl ?_
        refine TL.done ?_
        exact TC.nrm () [] ⟨rfl, trivial⟩ [0, 0, 0] (by kernel_rfl)
       ·intro b0_ b1_ b2_ b6_ b7_ b8_ g4
        refine TL.asL [mat Eii 108 104 s2 ss2 r_4, (bif b8_ then box (gs (g4 48)).n 108 [.one (.int .i64 ((gt (gt r_4 x2) 0).1)), .one (.int .i64 ((gt (gt r_4 x2) 0).2))] else (bif b6_ then box (gs (g4 48)).n 108 [.one (.int .i64 0), .one (.int .i64 0)] else emp)), (bif b7_ then box (gs (g4 56)).n 108 [.one (.int .i64 0), .one (.int .i64 0)] else emp)] (by kernel_rfl) ?_
        refine TL.ixs 1 2 (RdM.inn (RdM.mat 0 rfl) h2) h4 Try.underlying104 Try.sizeOf108 rfl rfl rfl rfl rfl ?_
        refine TL.done ?_
        exact TC.nrm () [] ⟨rfl, trivial⟩ [0, 0, 0] (by kernel_rfl)
       ·intro b0_ b1_ b2_ b6_ b7_ b8_ g4
        refine TL.asL [mat Eii 108 104 s2 ss2 r_4, (bif b8_ then box (gs (g4 48)).n 108 [.one (.int .i64 ((gt (gt r_4 x2) 0).1)), .one (.int .i64 ((gt (gt r_4 x2) 0).2))] else (bif b6_ then box (gs (g4 48)).n 108 [.one (.int .i64 0), .one (.int .i64 0)] else emp)), (bif b7_ then box (gs (g4 56)).n 108 [.one (.int .i64 0), .one (.int .i64 0)] else emp)] (by kernel_rfl) ?_
        refine TL.loadEA (RdM.inn (RdM.mat 0 rfl) h2) Try.isAgg108 Try.sizeOf108 1 (gt_spec h4) (v := sval [.one (.int .i64 ((gt (gt r_4 x2) 1).1)), .one (.int .i64 ((gt (gt r_4 x2) 1).2))]) rfl rfl rfl rfl rfl ?_
        refine TL.done ?_
        exact TC.nrm () [] ⟨rfl, trivial⟩ [0, 0, 0] (by kernel_rfl)
       ·intro b0_ b1_ b2_ b3_ b4_ b5_ b7_ g4
        refine TL.asL [mat Eii 108 104 s2 ss2 r_4, emp, (bif b7_ then box (gs (g4 56)).n 108 [.one (.int .i64 0), .one (.int .i64 0)] else emp)] (by kernel_rfl) ?_
        refine TL.alloc [.one (.int .i64 0), .one (.int .i64 0)] rfl rfl Try.zeroValue108 rfl fun b_1 => ?_
        refine TL.done ?_
        exact TC.nrm () [[⟨none, b_1, 0⟩]] ⟨rfl, trivial⟩ [1, 0, 1] (by kernel_rfl)
       ·intro b0_ b1_ b2_ b3_ b4_ b5_ b6_ g4
        refine TL.asL [mat Eii 108 104 s2 ss2 r_4, (bif b6_ then box (gs (g4 48)).n 108 [.one (.int .i64 0), .one (.int .i64 0)] else emp), emp] (by kernel_rfl) ?_
        refine TL.alloc [.one (.int .i64 0), .one (.int .i64 0)] rfl rfl Try.zeroValue108 rfl fun b_2 => ?_
        refine TL.done ?_
        exact TC.nrm () [[⟨none, b_2, 0⟩]] ⟨rfl, trivial⟩ [1, 1, 0] (by kernel_rfl)
       ·intro b3_ b4_ b5_ g4
        refine TL.asL [mat Eii 108 104 s2 ss2 r_4, box (gs (g4 48)).n 108 [.one (.int .i64 0), .one (.int .i64 0)], box (gs (g4 56)).n 108 [.one (.int .i64 0), .one (.int .i64 0)]] (by kernel_rfl) ?_
        refine TL.stM (news := [.one (.int .i64 ((gt (gt r_4 x2) 0).1)), .one (.int .i64 ((gt (gt r_4 x2) 0).2))]) 1 0 2 rfl Try.sizeOf108 (ones_one rfl (ones_one rfl ones_nil)) rfl rfl rfl rfl rfl rfl ?_
        refine TL.done ?_
        exact TC.nrm () [] trivial [0, 0, 0] (by kernel_rfl)
       ·intro g4
        refine TL.asL [mat Eii 108 104 s2 ss2 r_4, box (gs (g4 48)).n 108 [.one (.int .i64 ((gt (gt r_4 x2) 0).1)), .one (.int .i64 ((gt (gt r_4 x2) 0).2))], box (gs (g4 56)).n 108 [.one (.int .i64 0), .one (.int .i64 0)]] (by kernel_rfl) ?_
        refine TL.stM (news := [.one (.int .i64 ((gt (gt r_4 x2) 1).1)), .one (.int .i64 ((gt (gt r_4 x2) 1).2))]) 2 0 2 rfl Try.sizeOf108 (ones_one rfl (ones_one rfl ones_nil)) rfl rfl rfl rfl rfl rfl ?_
        refine TL.done ?_
        exact TC.nrm () [] trivial [0, 0, 0] (by kernel_rfl)
      ·intro g4
       refine TC.asL [mat Eii 108 104 s2 ss2 r_4, box (gs (g4 48)).n 108 [.one (.int .i64 ((gt (gt r_4 x2) 0).1)), .one (.int .i64 ((gt (gt r_4 x2) 0).2))], box (gs (g4 56)).n 108 [.one (.int .i64 ((gt (gt r_4 x2) 1).1)), .one (.int .i64 ((gt (gt r_4 x2) 1).2))]] (by kernel_rfl) ?_
       refine TC.seq ?_
       refine TC.seq ?_
       refine TC.wk (Γ' := [(0, SV.v s1), (1, .int .i64 x2), (4, SV.v ⟨none, 0, 0⟩), (5, .int .i64 0), (15, SV.v s1), (16, .bool r_1), (17, .bool (!r_1)), (14, .bool (!r_1)), (19, .int .i64 x2), (20, SV.v s1), (21, .int .i64 r_2), (22, .bool r_3), (23, .bool (!r_3)), (18, .bool (!r_3)), (24, SV.v s1), (25, SV.v s2), (26, .int .i64 x2), (27, ep s2 x2.toNat), (28, SV.v (gt ss2 x2)), (6, SV.v (gt ss2 x2)), (29, SV.v s1), (30, .bool r_5), (31, .bool false), (32, .bool false), (33, SV.v (gt ss2 x2)), (34, ep (gt ss2 x2) 0), (35, ep (gt ss2 x2) 0), (36, .int .i64 ((gt (gt r_4 x2) 0).1)), (37, SV.v (gt ss2 x2)), (38, ep (gt ss2 x2) 2), (39, ep (gt ss2 x2) 2), (40, .int .i64 ((gt (gt r_4 x2) 1).1)), (41, .bool ((gt (gt r_4 x2) 0).1 == (gt (gt r_4 x2) 1).1)), (42, .bool ((gt (gt r_4 x2) 0).1 == (gt (gt r_4 x2) 1).1)), (43, SV.v (gt ss2 x2)), (44, ep (gt ss2 x2) 0), (45, sval [.one (.int .i64 ((gt (gt r_4 x2) 0).1)), .one (.int .i64 ((gt (gt r_4 x2) 0).2))]), (46, SV.v (gt ss2 x2)), (47, ep (gt ss2 x2) 2), (48, sval [.one (.int .i64 ((gt (gt r_4 x2) 1).1)), .one (.int .i64 ((gt (gt r_4 x2) 1).2))]), (7, bp (gs (g4 48)).n 0), (8, bp (gs (g4 56)).n 0)]) ⟨rfl, rfl, rfl, rfl, rfl, rfl, rfl, rfl, rfl, rfl, rfl, rfl, rfl, rfl, rfl, rfl, rfl, rfl, rfl, rfl, rfl, rfl, rfl, rfl, rfl, rfl, rfl, rfl, rfl, rfl, rfl, rfl, rfl, rfl, rfl, rfl, rfl, rfl, rfl, rfl, rfl, rfl, trivial⟩ ?_
       refine TC.chk fun h5 => ?_
       refine TC.chk fun h6 => ?_
       refine TC.draw [SV.v s1, bp (gs (g4 48)).n 0, .int .i64 ((gt (gt r_4 x2) 0).1), ep s1 (((gt (gt r_4 x2) 0).1).toNat), SV.v (gt ss1 ((gt (gt r_4 x2) 0).1)), bp (gs (g4 48)).n 1, .int .i64 ((gt (gt r_4 x2) 0).2), ep (gt ss1 ((gt (gt r_4 x2) 0).1)) (((gt (gt r_4 x2) 0).2).toNat), .int .i64 (gt (gt x1 ((gt (gt r_4 x2) 0).1)) ((gt (gt r_4 x2) 0).2)), .bool (decide ((gt (gt x1 ((gt (gt r_4 x2) 0).1)) ((gt (gt r_4 x2) 0).2)) < 0))] 10 [mat Eii 108 104 s2 ss2 r_4, box (gs (g4 48)).n 108 [.one (.int .i64 ((gt (gt r_4 x2) 0).1)), .one (.int .i64 ((gt (gt r_4 x2) 0).2))], box (gs (g4 56)).n 108 [.one (.int .i64 ((gt (gt r_4 x2) 1).1)), .one (.int .i64 ((gt (gt r_4 x2) 1).2))]] (by kernel_rfl) rfl rfl rfl rfl ?_ ?_
       ·refine ⟨?_, ?_, ?_, ?_, ?_, ?_, ?_, ?_, ?_, ?_, trivial⟩
        ·refine TL.move rfl rfl (v := SV.v s1) rfl ?_
         refine TL.done ?_
         exact TC.nrm () () ⟨rfl, trivial⟩ [0, 0, 0] (by kernel_rfl)
        ·refine TL.fa Try.underlying108 rfl Try.sizeOf3 rfl 0 rfl rfl rfl rfl ?_
         refine TL.done ?_
         exact TC.nrm () () ⟨rfl, trivial⟩ [0, 0, 0] (by kernel_rfl)
        ·refine TL.load1 0 (Src.box 1 rfl) Try.isAgg3 rfl rfl rfl rfl rfl ?_
         refine TL.done ?_
         exact TC.nrm () () ⟨rfl, trivial⟩ [0, 0, 0] (by kernel_rfl)
        ·refine TL.ixsM ((gt (gt r_4 x2) 0).1) (((gt (gt r_4 x2) 0).1).toNat) (RdM.old h1) h5 Try.underlying32 Try.sizeOf22 rfl rfl rfl rfl (by omega) ?_
         refine TL.done ?_
         exact TC.nrm () () ⟨rfl, trivial⟩ [0, 0, 0] (by kernel_rfl)
        ·refine TL.loadM2 (RdM.old h1) Try.isAgg22 ((gt (gt r_4 x2) 0).1) h5 (by omega) rfl rfl rfl ?_
         refine TL.done ?_
         exact TC.nrm () () ⟨rfl, trivial⟩ [0, 0, 0] (by kernel_rfl)
        ·refine TL.fa Try.underlying108 rfl Try.sizeOf3 rfl 1 rfl rfl rfl rfl ?_
         refine TL.done ?_
         exact TC.nrm () () ⟨rfl, trivial⟩ [0, 0, 0] (by kernel_rfl)
        ·refine TL.load1 1 (Src.box 1 rfl) Try.isAgg3 rfl rfl rfl rfl rfl ?_
         refine TL.done ?_
         exact TC.nrm () () ⟨rfl, trivial⟩ [0, 0, 0] (by kernel_rfl)
        ·refine TL.ixs ((gt (gt r_4 x2) 0).2) (((gt (gt r_4 x2) 0).2).toNat) (RdM.inn (RdM.old h1) h5) h6 Try.underlying22 Try.sizeOf2 rfl rfl rfl rfl (by omega) ?_
         refine TL.done ?_
         exact TC.nrm () () ⟨rfl, trivial⟩ [0, 0, 0] (by kernel_rfl)
        ·refine TL.loadE (RdM.inn (RdM.old h1) h5) Try.isAgg2 ((gt (gt r_4 x2) 0).2).toNat 0 (gt_spec h6) (v := .int .i64 (gt (gt x1 ((gt (gt r_4 x2) 0).1)) ((gt (gt r_4 x2) 0).2))) rfl (by simp only [show Ei.sz = 1 from rfl] <;> omega) rfl rfl rfl ?_
         refine TL.done ?_
         exact TC.nrm () () ⟨rfl, trivial⟩ [0, 0, 0] (by kernel_rfl)
        ·refine TL.bin .i64 (gt (gt x1 ((gt (gt r_4 x2) 0).1)) ((gt (gt r_4 x2) 0).2)) 0 rfl rfl rfl rfl (v := .bool (decide ((gt (gt x1 ((gt (gt r_4 x2) 0).1)) ((gt (gt r_4 x2) 0).2)) < 0))) rfl ?_
         refine TL.done ?_
         exact TC.nrm () () ⟨rfl, trivial⟩ [0, 0, 0] (by kernel_rfl)
       ·refine TC.join1 (σ := Int × Int × Int × Int) (γ := Unit) (Γ' := (fun p q => match p, q with | (y7, y8, y9, y10), _ => [(0, SV.v s1), (1, .int .i64 x2), (7, bp (gs (g4 48)).n 0), (8, bp (gs (g4 56)).n 0)])) (L' := (fun p q => match p, q with | (y7, y8, y9, y10), _ => [box (gs (g4 48)).n 108 [.one (.int .i64 y7), .one (.int .i64 y8)], box (gs (g4 56)).n 108 [.one (.int .i64 y9), .one (.int .i64 y10)]])) ?_ ?_
        ·refine TC.cond (b := (decide ((gt (gt x1 ((gt (gt r_4 x2) 0).1)) ((gt (gt r_4 x2) 0).2)) < 0))) rfl (fun c8 => ?_) (fun c9 => ?_)
         ·refine TC.region ?_
          refine TL.loadM 0 2 (Src.box 2 rfl) Try.isAgg108 Try.sizeOf108 (mid := [.one (.int .i64 ((gt (gt r_4 x2) 1).1)), .one (.int .i64 ((gt (gt r_4 x2) 1).2))]) rfl rfl rfl rfl rfl rfl ?_
          refine TL.loadM 0 2 (Src.box 1 rfl) Try.isAgg108 Try.sizeOf108 (mid := [.one (.int .i64 ((gt (gt r_4 x2) 0).1)), .one (.int .i64 ((gt (gt r_4 x2) 0).2))]) rfl rfl rfl rfl rfl rfl ?_
          refine TL.stM (news := [.one (.int .i64 ((gt (gt r_4 x2) 1).1)), .one (.int .i64 ((gt (gt r_4 x2) 1).2))]) 1 0 2 rfl Try.sizeOf108 (ones_one rfl (ones_one rfl ones_nil)) rfl rfl rfl rfl rfl rfl ?_
          refine TL.stM (news := [.one (.int .i64 ((gt (gt r_4 x2) 0).1)), .one (.int .i64 ((gt (gt r_4 x2) 0).2))]) 2 0 2 rfl Try.sizeOf108 (ones_one rfl (ones_one rfl ones_nil)) rfl rfl rfl rfl rfl rfl ?_
          refine TL.done ?_
          exact TC.nrm (((gt (gt r_4 x2) 1).1, (gt (gt r_4 x2) 1).2, (gt (gt r_4 x2) 0).1, (gt (gt r_4 x2) 0).2)) (()) ⟨rfl, rfl, rfl, rfl, trivial⟩ [1, 1] rfl
         ·refine TC.skip ?_
          exact TC.nrm (((gt (gt r_4 x2) 0).1, (gt (gt r_4 x2) 0).2, (gt (gt r_4 x2) 1).1, (gt (gt r_4 x2) 1).2)) (()) ⟨rfl, rfl, rfl, rfl, trivial⟩ [1, 1] rfl
        ·rintro ⟨y7, y8, y9, y10⟩ _
         refine TC.seq ?_
         refine TC.wk (Γ' := [(0, SV.v s1), (1, .int .i64 x2), (7, bp (gs (g4 48)).n 0), (8, bp (gs (g4 56)).n 0)]) ⟨rfl, rfl, rfl, rfl, trivial⟩ ?_
         refine TC.chk fun h7 => ?_
         refine TC.bindE ?_
         rintro ⟨r_8, r_9⟩ hr2
         refine TC.drawG [(0, SV.v s1), (1, .int .i64 x2), (7, bp (gs (g4 48)).n 0), (8, bp (gs (g4 56)).n 0)] [] ⟨rfl, rfl, rfl, rfl, trivial⟩ trivial (fun l_ g5 => [box (gs (g4 48)).n 108 [.one (.int .i64 y7), .one (.int .i64 y8)], box (gs (g4 56)).n 108 [.one (.int .i64 y9), .one (.int .i64 y10)]]) (fun g5 => [SV.v s1, bp (gs (g4 48)).n 0, .int .i64 y7, ep s1 y7.toNat, SV.v (gt ss1 y7), bp (gs (g4 48)).n 1, .int .i64 y8, .tuple #[.int .i64 r_8, .int .i64 r_9], .tuple #[.int .i64 r_8, .int .i64 r_9], .int .i64 r_8, .int .i64 r_9, .int .i64 r_8, .int .i64 r_9]) [[], [], [1], [0, 1, 2], [0, 1, 2, 3], [], [5], [0, 1, 2, 3, 4, 5, 6], [0, 1, 2, 3, 4, 5, 6, 7], [0, 1, 2, 3, 4, 5, 6, 7, 8], [0, 1, 2, 3, 4, 5, 6, 7, 8], [0, 1, 2, 3, 4, 5, 6, 7, 8, 9], [0, 1, 2, 3, 4, 5, 6, 7, 8, 9, 10, 11]] [[some false, none, none, some false, some false, none, none, some false, some false, some false, some false, some false, some false], [none, some false, some false, some false, some false, none, none, some false, some false, some false, some false, some false, some false], [none, some true, some false, some false, some false, none, none, some false, some false, some false, some false, some false, some false], [some true, some true, some true, some false, some false, none, none, some false, some false, some false, some false, some false, some false], [some true, some true, some true, some true, some false, none, none, some false, some false, some false, some false, some false, some false], [none, none, none, none, none, some false, some false, some false, some false, some false, some false, some false, some false], [none, none, none, none, none, some true, some false, some false, some false, some false, some false, some false, some false], [some true, some true, some true, some true, some true, some true, some true, some false, some false, some false, some false, some false, some false], [some true, some true, some true, some true, some true, some true, some true, some true, some false, some false, some false, some false, some false], [some true, some true, some true, some true, some true, some true, some true, some true, some true, some false, none, some false, some false], [some true, some true, some true, some true, some true, some true, some true, some true, some true, none, some false, none, some false], [some true, some true, some true, some true, some true, some true, some true, some true, some true, some true, none, some false, some false], [some true, some true, some true, some true, some true, some true, some true, some true, some true, some true, some true, some true, some false]] (by kernel_rfl) (fun _ => rfl) rfl rfl rfl rfl rfl (fun _ _ => ⟨⟨⟨⟨⟨⟨⟨⟨⟨⟨⟨⟨⟨trivial, rfl⟩, rfl⟩, rfl⟩, rfl⟩, rfl⟩, rfl⟩, rfl⟩, rfl⟩, rfl⟩, rfl⟩, rfl⟩, rfl⟩, rfl⟩) 0 [0, 0] (fun _ => by kernel_rfl) ?_ ?_
         ·refine ⟨rfl, ?_, rfl, ?_, rfl, ?_, rfl, ?_, rfl, ?_, rfl, ?_, rfl, ?_, rfl, ?_, rfl, ?_, rfl, ?_, rfl, ?_, rfl, ?_, rfl, ?_, trivial⟩
          ·intro b1_ b2_ b5_ b6_ g5
           refine TL.move rfl rfl (v := SV.v s1) rfl ?_
           refine TL.done ?_
           exact TC.nrm () [] ⟨rfl, trivial⟩ [0, 0] (by kernel_rfl)
          ·intro b0_ b5_ b6_ g5
           refine TL.asL [box (gs (g4 48)).n 108 [.one (.int .i64 y7), .one (.int .i64 y8)], box (gs (g4 56)).n 108 [.one (.int .i64 y9), .one (.int .i64 y10)]] (by kernel_rfl) ?_
           refine TL.fa Try.underlying108 rfl Try.sizeOf3 rfl 0 rfl rfl rfl rfl ?_
           refine TL.done ?_
           exact TC.nrm () [] ⟨rfl, trivial⟩ [0, 0] (by kernel_rfl)
          ·intro b0_ b5_ b6_ g5
           refine TL.asL [box (gs (g4 48)).n 108 [.one (.int .i64 y7), .one (.int .i64 y8)], box (gs (g4 56)).n 108 [.one (.int .i64 y9), .one (.int .i64 y10)]] (by kernel_rfl) ?_
           refine TL.load1 0 (Src.box 0 rfl) Try.isAgg3 rfl rfl rfl rfl rfl ?_
           refine TL.done ?_
           exact TC.nrm () [] ⟨rfl, trivial⟩ [0, 0] (by kernel_rfl)
          ·intro b5_ b6_ g5
           refine TL.asL [box (gs (g4 48)).n 108 [.one (.int .i64 y7), .one (.int .i64 y8)], box (gs (g4 56)).n 108 [.one (.int .i64 y9), .one (.int .i64 y10)]] (by kernel_rfl) ?_
           refine TL.ixsM y7 y7.toNat (RdM.old h1) h7 Try.underlying32 Try.sizeOf22 rfl rfl rfl rfl (by omega) ?_
           refine TL.done ?_
           exact TC.nrm () [] ⟨rfl, trivial⟩ [0, 0] (by kernel_rfl)
          ·intro b5_ b6_ g5
           refine TL.asL [box (gs (g4 48)).n 108 [.one (.int .i64 y7), .one (.int .i64 y8)], box (gs (g4 56)).n 108 [.one (.int .i64 y9), .one (.int .i64 y10)]] (by kernel_rfl) ?_
           refine TL.loadM2 (RdM.old h1) Try.isAgg22 y7 h7 (by omega) rfl rfl rfl ?_
           refine TL.done ?_
           exact TC.nrm () [] ⟨rfl, trivial⟩ [0, 0] (by kernel_rfl)
          ·intro b0_ b1_ b2_ b3_ b4_ g5
           refine TL.asL [box (gs (g4 48)).n 108 [.one (.int .i64 y7), .one (.int .i64 y8)], box (gs (g4 56)).n 108 [.one (.int .i64 y9), .one (.int .i64 y10)]] (by kernel_rfl) ?_
           refine TL.fa Try.underlying108 rfl Try.sizeOf3 rfl 1 rfl rfl rfl rfl ?_
           refine TL.done ?_
           exact TC.nrm () [] ⟨rfl, trivial⟩ [0, 0] (by kernel_rfl)
          ·intro b0_ b1_ b2_ b3_ b4_ g5
           refine TL.asL [box (gs (g4 48)).n 108 [.one (.int .i64 y7), .one (.int .i64 y8)], box (gs (g4 56)).n 108 [.one (.int .i64 y9), .one (.int .i64 y10)]] (by kernel_rfl) ?_
           refine TL.load1 1 (Src.box 0 rfl) Try.isAgg3 rfl rfl rfl rfl rfl ?_
           refine TL.done ?_
           exact TC.nrm () [] ⟨rfl, trivial⟩ [0, 0] (by kernel_rfl)
          ·intro g5
           refine TL.asL [box (gs (g4 48)).n 108 [.one (.int .i64 y7), .one (.int .i64 y8)], box (gs (g4 56)).n 108 [.one (.int .i64 y9), .one (.int .i64 y10)]] (by kernel_rfl) ?_
           refine TL.callH (R := G.impl_from.R) hr2 Try.call120 rfl rfl rfl (fun w hS => G.impl_from.calls w (gt ss1 y7) (gt x1 y7) y8 ((RdM.inn (RdM.old h1) h7) w hS)) ?_
           rintro _ _ ⟨rfl, rfl⟩
           refine TL.done ?_
           exact TC.nrm () [] ⟨rfl, trivial⟩ [0, 0] (by kernel_rfl)
          ·intro g5
           refine TL.move rfl rfl (v := .tuple #[.int .i64 r_8, .int .i64 r_9]) rfl ?_
           refine TL.done ?_
           exact TC.nrm () [] ⟨rfl, trivial⟩ [0, 0] (by kernel_rfl)
          ·intro b10_ g5
           refine TL.extract rfl rfl rfl (v := .int .i64 r_8) rfl ?_
           refine TL.done ?_
           exact TC.nrm () [] ⟨rfl, trivial⟩ [0, 0] (by kernel_rfl)
          ·intro b9_ b11_ g5
           refine TL.extract rfl rfl rfl (v := .int .i64 r_9) rfl ?_
           refine TL.done ?_
           exact TC.nrm () [] ⟨rfl, trivial⟩ [0, 0] (by kernel_rfl)
          ·intro b10_ g5
           refine TL.assign rfl rfl (v := .int .i64 r_8) rfl ?_
           refine TL.done ?_
           exact TC.nrm () [] ⟨rfl, trivial⟩ [0, 0] (by kernel_rfl)
          ·intro g5
           refine TL.assign rfl rfl (v := .int .i64 r_9) rfl ?_
           refine TL.done ?_
           exact TC.nrm () [] ⟨rfl, trivial⟩ [0, 0] (by kernel_rfl)
         ·intro g5
          refine TC.asL [box (gs (g4 48)).n 108 [.one (.int .i64 y7), .one (.int .i64 y8)], box (gs (g4 56)).n 108 [.one (.int .i64 y9), .one (.int .i64 y10)]] (by kernel_rfl) ?_
          refine TC.seq ?_
          refine TC.wk (Γ' := [(0, SV.v s1), (1, .int .i64 x2), (7, bp (gs (g4 48)).n 0), (8, bp (gs (g4 56)).n 0), (62, SV.v s1), (63, bp (gs (g4 48)).n 0), (64, .int .i64 y7), (65, ep s1 y7.toNat), (66, SV.v (gt ss1 y7)), (67, bp (gs (g4 48)).n 1), (68, .int .i64 y8), (69, .tuple #[.int .i64 r_8, .int .i64 r_9]), (61, .tuple #[.int .i64 r_8, .int .i64 r_9]), (70, .int .i64 r_8), (71, .int .i64 r_9), (9, .int .i64 r_8), (10, .int .i64 r_9)]) ⟨rfl, rfl, rfl, rfl, rfl, rfl, rfl, rfl, rfl, rfl, rfl, rfl, rfl, rfl, rfl, rfl, rfl, trivial⟩ ?_
          refine TC.chk fun h8 => ?_
          refine TC.bindE ?_
          rintro ⟨r_10, r_11⟩ hr3
          refine TC.drawG [(0, SV.v s1), (1, .int .i64 x2), (7, bp (gs (g4 48)).n 0), (8, bp (gs (g4 56)).n 0), (62, SV.v s1), (63, bp (gs (g4 48)).n 0), (64, .int .i64 y7), (65, ep s1 y7.toNat), (66, SV.v (gt ss1 y7)), (67, bp (gs (g4 48)).n 1), (68, .int .i64 y8), (69, .tuple #[.int .i64 r_8, .int .i64 r_9]), (61, .tuple #[.int .i64 r_8, .int .i64 r_9]), (70, .int .i64 r_8), (71, .int .i64 r_9), (9, .int .i64 r_8), (10, .int .i64 r_9)] [] ⟨rfl, rfl, rfl, rfl, rfl, rfl, rfl, rfl, rfl, rfl, rfl, rfl, rfl, rfl, rfl, rfl, rfl, trivial⟩ trivial (fun l_ g6 => [box (gs (g4 48)).n 108 [.one (.int .i64 y7), .one (.int .i64 y8)], box (gs (g4 56)).n 108 [.one (.int .i64 y9), .one (.int .i64 y10)]]) (fun g6 => [SV.v s1, bp (gs (g4 56)).n 0, .int .i64 y9, ep s1 y9.toNat, SV.v (gt ss1 y9), bp (gs (g4 56)).n 1, .int .i64 y10, .tuple #[.int .i64 r_10, .int .i64 r_11], .tuple #[.int .i64 r_10, .int .i64 r_11], .int .i64 r_10, .int .i64 r_11, .int .i64 r_10, .int .i64 r_11]) [[], [], [1], [0, 1, 2], [0, 1, 2, 3], [], [5], [0, 1, 2, 3, 4, 5, 6], [0, 1, 2, 3, 4, 5, 6, 7], [0, 1, 2, 3, 4, 5, 6, 7, 8], [0, 1, 2, 3, 4, 5, 6, 7, 8], [0, 1, 2, 3, 4, 5, 6, 7, 8, 9], [0, 1, 2, 3, 4, 5, 6, 7, 8, 9, 10, 11]] [[some false, none, none, some false, some false, none, none, some false, some false, some false, some false, some false, some false], [none, some false, some false, some false, some false, none, none, some false, some false, some false, some false, some false, some false], [none, some true, some false, some false, some false, none, none, some false, some false, some false, some false, some false, some false], [some true, some true, some true, some false, some false, none, none, some false, some false, some false, some false, some false, some false], [some true, some true, some true, some true, some false, none, none, some false, some false, some false, some false, some false, some false], [none, none, none, none, none, some false, some false, some false, some false, some false, some false, some false, some false], [none, none, none, none, none, some true, some false, some false, some false, some false, some false, some false, some false], [some true, some true, some true, some true, some true, some true, some true, some false, some false, some false, some false, some false, some false], [some true, some true, some true, some true, some true, some true, some true, some true, some false, some false, some false, some false, some false], [some true, some true, some true, some true, some true, some true, some true, some true, some true, some false, none, some false, some false], [some true, some true, some true, some true, some true, some true, some true, some true, some true, none, some false, none, some false], [some true, some true, some true, some true, some true, some true, some true, some true, some true, some true, none, some false, some false], [some true, some true, some true, some true, some true, some true, some true, some true, some true, some true, some true, some true, some false]] (by kernel_rfl) (fun _ => rfl) rfl rfl rfl rfl rfl (fun _ _ => ⟨⟨⟨⟨⟨⟨⟨⟨⟨⟨⟨⟨⟨trivial, rfl⟩, rfl⟩, rfl⟩, rfl⟩, rfl⟩, rfl⟩, rfl⟩, rfl⟩, rfl⟩, rfl⟩, rfl⟩, rfl⟩, rfl⟩) 0 [0, 0] (fun _ => by kernel_rfl) ?_ ?_
          ·refine ⟨rfl, ?_, rfl, ?_, rfl, ?_, rfl, ?_, rfl, ?_, rfl, ?_, rfl, ?_, rfl, ?_, rfl, ?_, rfl, ?_, rfl, ?_, rfl, ?_, rfl, ?_, trivial⟩
           ·intro b1_ b2_ b5_ b6_ g6
            refine TL.move rfl rfl (v := SV.v s1) rfl ?_
            refine TL.done ?_
            exact TC.nrm () [] ⟨rfl, trivial⟩ [0, 0] (by kernel_rfl)
           ·intro b0_ b5_ b6_ g6
            refine TL.asL [box (gs (g4 48)).n 108 [.one (.int .i64 y7), .one (.int .i64 y8)], box (gs (g4 56)).n 108 [.one (.int .i64 y9), .one (.int .i64 y10)]] (by kernel_rfl) ?_
            refine TL.fa Try.underlying108 rfl Try.sizeOf3 rfl 0 rfl rfl rfl rfl ?_
            refine TL.done ?_
            exact TC.nrm () [] ⟨rfl, trivial⟩ [0, 0] (by kernel_rfl)
           ·intro b0_ b5_ b6_ g6
            refine TL.asL [box (gs (g4 48)).n 108 [.one (.int .i64 y7), .one (.int .i64 y8)], box (gs (g4 56)).n 108 [.one (.int .i64 y9), .one (.int .i64 y10)]] (by kernel_rfl) ?_
            refine TL.load1 0 (Src.box 1 rfl) Try.isAgg3 rfl rfl rfl rfl rfl ?_
            refine TL.done ?_
            exact TC.nrm () [] ⟨rfl, trivial⟩ [0, 0] (by kernel_rfl)
           ·intro b5_ b6_ g6
            refine TL.asL [box (gs (g4 48)).n 108 [.one (.int .i64 y7), .one (.int .i64 y8)], box (gs (g4 56)).n 108 [.one (.int .i64 y9), .one (.int .i64 y10)]] (by kernel_rfl) ?_
            refine TL.ixsM y9 y9.toNat (RdM.old h1) h8 Try.underlying32 Try.sizeOf22 rfl rfl rfl rfl (by omega) ?_
            refine TL.done ?_
            exact TC.nrm () [] ⟨rfl, trivial⟩ [0, 0] (by kernel_rfl)
           ·intro b5_ b6_ g6
            refine TL.asL [box (gs (g4 48)).n 108 [.one (.int .i64 y7), .one (.int .i64 y8)], box (gs (g4 56)).n 108 [.one (.int .i64 y9), .one (.int .i64 y10)]] (by kernel_rfl) ?_
            refine TL.loadM2 (RdM.old h1) Try.isAgg22 y9 h8 (by omega) rfl rfl rfl ?_
            refine TL.done ?_
            exact TC.nrm () [] ⟨rfl, trivial⟩ [0, 0] (by kernel_rfl)
           ·intro b0_ b1_ b2_ b3_ b4_ g6
            refine TL.asL [box (gs (g4 48)).n 108 [.one (.int .i64 y7), .one (.int .i64 y8)], box (gs (g4 56)).n 108 [.one (.int .i64 y9), .one (.int .i64 y10)]] (by kernel_rfl) ?_
            refine TL.fa Try.underlying108 rfl Try.sizeOf3 rfl 1 rfl rfl rfl rfl ?_
            refine TL.done ?_
            exact TC.nrm () [] ⟨rfl, trivial⟩ [0, 0] (by kernel_rfl)
           ·intro b0_ b1_ b2_ b3_ b4_ g6
            refine TL.asL [box (gs (g4 48)).n 108 [.one (.int .i64 y7), .one (.int .i64 y8)], box (gs (g4 56)).n 108 [.one (.int .i64 y9), .one (.int .i64 y10)]] (by kernel_rfl) ?_
            refine TL.load1 1 (Src.box 1 rfl) Try.isAgg3 rfl rfl rfl rfl rfl ?_
            refine TL.done ?_
            exact TC.nrm () [] ⟨rfl, trivial⟩ [0, 0] (by kernel_rfl)
           ·intro g6
            refine TL.asL [box (gs (g4 48)).n 108 [.one (.int .i64 y7), .one (.int .i64 y8)], box (gs (g4 56)).n 108 [.one (.int .i64 y9), .one (.int .i64 y10)]] (by kernel_rfl) ?_
            refine TL.callH (R := G.impl_from.R) hr3 Try.call120 rfl rfl rfl (fun w hS => G.impl_from.calls w (gt ss1 y9) (gt x1 y9) y10 ((RdM.inn (RdM.old h1) h8) w hS)) ?_
            rintro _ _ ⟨rfl, rfl⟩
            refine TL.done ?_
            exact TC.nrm () [] ⟨rfl, trivial⟩ [0, 0] (by kernel_rfl)
           ·intro g6
            refine TL.move rfl rfl (v := .tuple #[.int .i64 r_10, .int .i64 r_11]) rfl ?_
            refine TL.done ?_
            exact TC.nrm () [] ⟨rfl, trivial⟩ [0, 0] (by kernel_rfl)
           ·intro b10_ g6
            refine TL.extract rfl rfl rfl (v := .int .i64 r_10) rfl ?_
            refine TL.done ?_
            exact TC.nrm () [] ⟨rfl, trivial⟩ [0, 0] (by kernel_rfl)
           ·intro b9_ b11_ g6
            refine TL.extract rfl rfl rfl (v := .int .i64 r_11) rfl ?_
            refine TL.done ?_
            exact TC.nrm () [] ⟨rfl, trivial⟩ [0, 0] (by kernel_rfl)
           ·intro b10_ g6
            refine TL.assign rfl rfl (v := .int .i64 r_10) rfl ?_
            refine TL.done ?_
            exact TC.nrm () [] ⟨rfl, trivial⟩ [0, 0] (by kernel_rfl)
           ·intro g6
            refine TL.assign rfl rfl (v := .int .i64 r_11) rfl ?_
            refine TL.done ?_
            exact TC.nrm () [] ⟨rfl, trivial⟩ [0, 0] (by kernel_rfl)
          ·intro g6
           refine TC.asL [box (gs (g4 48)).n 108 [.one (.int .i64 y7), .one (.int .i64 y8)], box (gs (g4 56)).n 108 [.one (.int .i64 y9), .one (.int .i64 y10)]] (by kernel_rfl) ?_
           refine TC.seq ?_
           refine TC.region ?_
           refine TL.move rfl rfl (v := SV.v s1) rfl ?_
           refine TL.call (R := G.impl_cloneSurface.R) Try.call102 rfl rfl rfl (fun w hS => G.impl_cloneSurface.calls w s1 ss1 x1 ((RdM.old h1) w hS)) ?_
           rintro r_12 _ _ ⟨s3, ss3, rfl, rfl⟩
           refine TL.assign rfl rfl (v := SV.v s3) rfl ?_
           refine TL.done ?_
           refine TC.seq ?_
           refine TC.wk (Γ' := [(0, SV.v s1), (1, .int .i64 x2), (7, bp (gs (g4 48)).n 0), (8, bp (gs (g4 56)).n 0), (62, SV.v s1), (63, bp (gs (g4 48)).n 0), (64, .int .i64 y7), (65, ep s1 y7.toNat), (66, SV.v (gt ss1 y7)), (67, bp (gs (g4 48)).n 1), (68, .int .i64 y8), (69, .tuple #[.int .i64 r_8, .int .i64 r_9]), (61, .tuple #[.int .i64 r_8, .int .i64 r_9]), (70, .int .i64 r_8), (71, .int .i64 r_9), (9, .int .i64 r_8), (10, .int .i64 r_9), (73, SV.v s1), (74, bp (gs (g4 56)).n 0), (75, .int .i64 y9), (76, ep s1 y9.toNat), (77, SV.v (gt ss1 y9)), (78, bp (gs (g4 56)).n 1), (79, .int .i64 y10), (80, .tuple #[.int .i64 r_10, .int .i64 r_11]), (72, .tuple #[.int .i64 r_10, .int .i64 r_11]), (81, .int .i64 r_10), (82, .int .i64 r_11), (11, .int .i64 r_10), (12, .int .i64 r_11), (83, SV.v s1), (84, SV.v s3), (13, SV.v s3)]) ⟨rfl, rfl, rfl, rfl, rfl, rfl, rfl, rfl, rfl, rfl, rfl, rfl, rfl, rfl, rfl, rfl, rfl, rfl, rfl, rfl, rfl, rfl, rfl, rfl, rfl, rfl, rfl, rfl, rfl, rfl, rfl, rfl, rfl, trivial⟩ ?_
           refine TC.chk fun h9 => ?_
           refine TC.chk fun h11 => ?_
           refine TC.drawG [(0, SV.v s1), (1, .int .i64 x2), (7, bp (gs (g4 48)).n 0), (8, bp (gs (g4 56)).n 0), (62, SV.v s1), (63, bp (gs (g4 48)).n 0), (64, .int .i64 y7), (65, ep s1 y7.toNat), (66, SV.v (gt ss1 y7)), (67, bp (gs (g4 48)).n 1), (68, .int .i64 y8), (69, .tuple #[.int .i64 r_8, .int .i64 r_9]), (61, .tuple #[.int .i64 r_8, .int .i64 r_9]), (70, .int .i64 r_8), (71, .int .i64 r_9), (9, .int .i64 r_8), (10, .int .i64 r_9), (73, SV.v s1), (74, bp (gs (g4 56)).n 0), (75, .int .i64 y9), (76, ep s1 y9.toNat), (77, SV.v (gt ss1 y9)), (78, bp (gs (g4 56)).n 1), (79, .int .i64 y10), (80, .tuple #[.int .i64 r_10, .int .i64 r_11]), (72, .tuple #[.int .i64 r_10, .int .i64 r_11]), (81, .int .i64 r_10), (82, .int .i64 r_11), (11, .int .i64 r_10), (12, .int .i64 r_11), (83, SV.v s1), (84, SV.v s3), (13, SV.v s3)] [] ⟨rfl, rfl, rfl, rfl, rfl, rfl, rfl, rfl, rfl, rfl, rfl, rfl, rfl, rfl, rfl, rfl, rfl, rfl, rfl, rfl, rfl, rfl, rfl, rfl, rfl, rfl, rfl, rfl, rfl, rfl, rfl, rfl, rfl, trivial⟩ trivial (fun l_ g7 => [(bif nb l_ 18 then mat Ei 2 22 s3 ((ss3.set y7.toNat (gs (g7 72))).set y9.toNat (gs (g7 112))) ((r_12.set y7.toNat ([x2, r_9, r_10] : List Int)).set y9.toNat ([(w64 (0 - x2)), r_11, r_8] : List Int)) else (bif nb l_ 16 then mat Ei 2 22 s3 (ss3.set y7.toNat (gs (g7 72))) (r_12.set y7.toNat ([x2, r_9, r_10] : List Int)) else mat Ei 2 22 s3 ss3 r_12)), box (gs (g4 48)).n 108 [.one (.int .i64 y7), .one (.int .i64 y8)], box (gs (g4 56)).n 108 [.one (.int .i64 y9), .one (.int .i64 y10)], (bif nb l_ 16 then emp else (bif nb l_ 9 then row Ei 2 (gs (g7 72)) ([x2, r_9, r_10] : List Int) else emp)), (bif nb l_ 18 then emp else (bif nb l_ 14 then row Ei 2 (gs (g7 112)) ([(w64 (0 - x2)), r_11, r_8] : List Int) else emp))]) (fun g7 => [SV.v s3, bp (gs (g4 48)).n 0, .int .i64 y7, SV.v s3, bp (gs (g4 56)).n 0, .int .i64 y9, .int .i64 x2, .int .i64 r_9, .int .i64 r_10, SV.v (gs (g7 72)), .int .i64 x2, .int .i64 (w64 (0 - x2)), .int .i64 r_11, .int .i64 r_8, SV.v (gs (g7 112)), ep s3 y7.toNat, undef, ep s3 y9.toNat, undef]) [[], [], [1], [], [], [4], [], [], [], [6, 7, 8], [], [10], [], [], [10, 11, 12, 13], [0, 1, 2, 6, 7, 8, 9], [0, 1, 2, 6, 7, 8, 9, 15], [0, 1, 2, 3, 4, 5, 6, 7, 8, 9, 10, 11, 12, 13, 14, 15, 16], [0, 1, 2, 3, 4, 5, 6, 7, 8, 9, 10, 11, 12, 13, 14, 15, 16, 17]] [[some false, none, none, none, none, none, none, none, none, none, none, none, none, none, none, some false, some false, some false, some false], [none, some false, some false, none, none, none, none, none, none, none, none, none, none, none, none, some false, some false, some false, some false], [none, some true, some false, none, none, none, none, none, none, none, none, none, none, none, none, some false, some false, some false, some false], [none, none, none, some false, none, none, none, none, none, none, none, none, none, none, none, none, none, some false, some false], [none, none, none, none, some false, some false, none, none, none, none, none, none, none, none, none, none, none, some false, some false], [none, none, none, none, some true, some false, none, none, none, none, none, none, none, none, none, none, none, some false, some false], [none, none, none, none, none, none, some false, none, none, some false, none, none, none, none, none, some false, some false, some false, some false], [none, none, none, none, none, none, none, some false, none, some false, none, none, none, none, none, some false, some false, some false, some false], [none, none, none, none, none, none, none, none, some false, some false, none, none, none, none, none, some false, some false, some false, some false], [none, none, none, none, none, none, some true, some true, some true, some false, none, none, none, none, none, some false, some false, some false, some false], [none, none, none, none, none, none, none, none, none, none, some false, some false, none, none, some false, none, none, some false, some false], [none, none, none, none, none, none, none, none, none, none, some true, some false, none, none, some false, none, none, some false, some false], [none, none, none, none, none, none, none, none, none, none, none, none, some false, none, some false, none, none, some false, some false], [none, none, none, none, none, none, none, none, none, none, none, none, none, some false, some false, none, none, some false, some false], [none, none, none, none, none, none, none, none, none, none, some true, some true, some true, some true, some false, none, none, some false, some false], [some true, some true, some true, none, none, none, some true, some true, some true, some true, none, none, none, none, none, some false, some false, some false, some false], [some true, some true, some true, none, none, none, some true, some true, some true, some true, none, none, none, none, none, some true, some false, some false, some false], [some true, some true, some true, some true, some true, some true, some true, some true, some true, some true, some true, some true, some true, some true, some true, some true, some true, some false, some false], [some true, some true, some true, some true, some true, some true, some true, some true, some true, some true, some true, some true, some true, some true, some true, some true, some true, some true, some false]] (by kernel_rfl) (fun _ => rfl) rfl rfl rfl rfl rfl (fun _ _ => ⟨⟨⟨⟨⟨⟨⟨⟨⟨⟨⟨⟨⟨⟨⟨⟨⟨⟨⟨trivial, rfl⟩, rfl⟩, rfl⟩, rfl⟩, rfl⟩, rfl⟩, rfl⟩, rfl⟩, rfl⟩, rfl⟩, rfl⟩, rfl⟩, rfl⟩, rfl⟩, rfl⟩, rfl⟩, rfl⟩, rfl⟩, rfl⟩) 2 [2, 2, 2, 0, 0] (fun _ => by kernel_rfl) ?_ ?_
           ·refine ⟨rfl, ?_, rfl, ?_, rfl, ?_, rfl, ?_, rfl, ?_, rfl, ?_, rfl, ?_, rfl, ?_, rfl, ?_, rfl, ?_, rfl, ?_, rfl, ?_, rfl, ?_, rfl, ?_, rfl, ?_, rfl, ?_, rfl, ?_, rfl, ?_, rfl, ?_, trivial⟩
            ·intro b1_ b2_ b3_ b4_ b5_ b6_ b7_ b8_ b9_ b10_ b11_ b12_ b13_ b14_ g7
             refine TL.move rfl rfl (v := SV.v s3) rfl ?_
             refine TL.done ?_
             exact TC.nrm () [] ⟨rfl, trivial⟩ [0, 0, 0, 0, 0] (by kernel_rfl)
            ·intro b0_ b3_ b4_ b5_ b6_ b7_ b8_ b9_ b10_ b11_ b12_ b13_ b14_ g7
             refine TL.asL [mat Ei 2 22 s3 ss3 r_12, box (gs (g4 48)).n 108 [.one (.int .i64 y7), .one (.int .i64 y8)], box (gs (g4 56)).n 108 [.one (.int .i64 y9), .one (.int .i64 y10)], (bif b9_ then row Ei 2 (gs (g7 72)) ([x2, r_9, r_10] : List Int) else emp), (bif b14_ then row Ei 2 (gs (g7 112)) ([(w64 (0 - x2)), r_11, r_8] : List Int) else emp)] (by kernel_rfl) ?_
             refine TL.fa Try.underlying108 rfl Try.sizeOf3 rfl 0 rfl rfl rfl rfl ?_
             refine TL.done ?_
             exact TC.nrm () [] ⟨rfl, trivial⟩ [0, 0, 0, 0, 0] (by kernel_rfl)
            ·intro b0_ b3_ b4_ b5_ b6_ b7_ b8_ b9_ b10_ b11_ b12_ b13_ b14_ g7
             refine TL.asL [mat Ei 2 22 s3 ss3 r_12, box (gs (g4 48)).n 108 [.one (.int .i64 y7), .one (.int .i64 y8)], box (gs (g4 56)).n 108 [.one (.int .i64 y9), .one (.int .i64 y10)], (bif b9_ then row Ei 2 (gs (g7 72)) ([x2, r_9, r_10] : List Int) else emp), (bif b14_ then row Ei 2 (gs (g7 112)) ([(w64 (0 - x2)), r_11, r_8] : List Int) else emp)] (by kernel_rfl) ?_
             refine TL.load1 0 (Src.box 1 rfl) Try.isAgg3 rfl rfl rfl rfl rfl ?_
             refine TL.done ?_
             exact TC.nrm () [] ⟨rfl, trivial⟩ [0, 0, 0, 0, 0] (by kernel_rfl)
            ·intro b0_ b1_ b2_ b4_ b5_ b6_ b7_ b8_ b9_ b10_ b11_ b12_ b13_ b14_ b15_ b16_ g7
             refine TL.move rfl rfl (v := SV.v s3) rfl ?_
             refine TL.done ?_
             exact TC.nrm () [] ⟨rfl, trivial⟩ [0, 0, 0, 0, 0] (by kernel_rfl)
            ·intro b0_ b1_ b2_ b3_ b6_ b7_ b8_ b9_ b10_ b11_ b12_ b13_ b14_ b15_ b16_ g7
             refine TL.asL [(bif b16_ then mat Ei 2 22 s3 (ss3.set y7.toNat (gs (g7 72))) (r_12.set y7.toNat ([x2, r_9, r_10] : List Int)) else mat Ei 2 22 s3 ss3 r_12), box (gs (g4 48)).n 108 [.one (.int .i64 y7), .one (.int .i64 y8)], box (gs (g4 56)).n 108 [.one (.int .i64 y9), .one (.int .i64 y10)], (bif b16_ then emp else (bif b9_ then row Ei 2 (gs (g7 72)) ([x2, r_9, r_10] : List Int) else emp)), (bif b14_ then row Ei 2 (gs (g7 112)) ([(w64 (0 - x2)), r_11, r_8] : List Int) else emp)] (by kernel_rfl) ?_
             refine TL.fa Try.underlying108 rfl Try.sizeOf3 rfl 0 rfl rfl rfl rfl ?_
             refine TL.done ?_
             exact TC.nrm () [] ⟨rfl, trivial⟩ [0, 0, 0, 0, 0] (by kernel_rfl)
            ·intro b0_ b1_ b2_ b3_ b6_ b7_ b8_ b9_ b10_ b11_ b12_ b13_ b14_ b15_ b16_ g7
             refine TL.asL [(bif b16_ then mat Ei 2 22 s3 (ss3.set y7.toNat (gs (g7 72))) (r_12.set y7.toNat ([x2, r_9, r_10] : List Int)) else mat Ei 2 22 s3 ss3 r_12), box (gs (g4 48)).n 108 [.one (.int .i64 y7), .one (.int .i64 y8)], box (gs (g4 56)).n 108 [.one (.int .i64 y9), .one (.int .i64 y10)], (bif b16_ then emp else (bif b9_ then row Ei 2 (gs (g7 72)) ([x2, r_9, r_10] : List Int) else emp)), (bif b14_ then row Ei 2 (gs (g7 112)) ([(w64 (0 - x2)), r_11, r_8] : List Int) else emp)] (by kernel_rfl) ?_
             refine TL.load1 0 (Src.box 2 rfl) Try.isAgg3 rfl rfl rfl rfl rfl ?_
             refine TL.done ?_
             exact TC.nrm () [] ⟨rfl, trivial⟩ [0, 0, 0, 0, 0] (by kernel_rfl)
            ·intro b0_ b1_ b2_ b3_ b4_ b5_ b7_ b8_ b10_ b11_ b12_ b13_ b14_ g7
             refine TL.move rfl rfl (v := .int .i64 x2) rfl ?_
             refine TL.done ?_
             exact TC.nrm () [] ⟨rfl, trivial⟩ [0, 0, 0, 0, 0] (by kernel_rfl)
            ·intro b0_ b1_ b2_ b3_ b4_ b5_ b6_ b8_ b10_ b11_ b12_ b13_ b14_ g7
             refine TL.move rfl rfl (v := .int .i64 r_9) rfl ?_
             refine TL.done ?_
             exact TC.nrm () [] ⟨rfl, trivial⟩ [0, 0, 0, 0, 0] (by kernel_rfl)
            ·intro b0_ b1_ b2_ b3_ b4_ b5_ b6_ b7_ b10_ b11_ b12_ b13_ b14_ g7
             refine TL.move rfl rfl (v := .int .i64 r_10) rfl ?_
             refine TL.done ?_
             exact TC.nrm () [] ⟨rfl, trivial⟩ [0, 0, 0, 0, 0] (by kernel_rfl)
            ·intro b0_ b1_ b2_ b3_ b4_ b5_ b10_ b11_ b12_ b13_ b14_ g7
             refine TL.asL [mat Ei 2 22 s3 ss3 r_12, box (gs (g4 48)).n 108 [.one (.int .i64 y7), .one (.int .i64 y8)], box (gs (g4 56)).n 108 [.one (.int .i64 y9), .one (.int .i64 y10)], emp, (bif b14_ then row Ei 2 (gs (g7 112)) ([(w64 (0 - x2)), r_11, r_8] : List Int) else emp)] (by kernel_rfl) ?_
             refine TL.blit Ei ([x2, r_9, r_10] : List Int) Try.underlying22 Try.sizeOf2 Try.zeroValue2 rfl rfl rfl [(0, .int .i64 x2), (1, .int .i64 r_9), (2, .int .i64 r_10)] rfl ⟨rfl, rfl, rfl, rfl, rfl, rfl, trivial⟩ rfl rfl fun s4 => ?_
             refine TL.done ?_
             exact TC.nrm () [[s4]] ⟨rfl, trivial⟩ [1, 1, 1, 0, 1] (by kernel_rfl)
            ·intro b0_ b1_ b2_ b3_ b4_ b5_ b6_ b7_ b8_ b9_ b12_ b13_ b15_ b16_ g7
             refine TL.move rfl rfl (v := .int .i64 x2) rfl ?_
             refine TL.done ?_
             exact TC.nrm () [] ⟨rfl, trivial⟩ [0, 0, 0, 0, 0] (by kernel_rfl)
            ·intro b0_ b1_ b2_ b3_ b4_ b5_ b6_ b7_ b8_ b9_ b12_ b13_ b15_ b16_ g7
             refine TL.neg .i64 x2 rfl rfl rfl ?_
             refine TL.done ?_
             exact TC.nrm () [] ⟨rfl, trivial⟩ [0, 0, 0, 0, 0] (by kernel_rfl)
            ·intro b0_ b1_ b2_ b3_ b4_ b5_ b6_ b7_ b8_ b9_ b10_ b11_ b13_ b15_ b16_ g7
             refine TL.move rfl rfl (v := .int .i64 r_11) rfl ?_
             refine TL.done ?_
             exact TC.nrm () [] ⟨rfl, trivial⟩ [0, 0, 0, 0, 0] (by kernel_rfl)
            ·intro b0_ b1_ b2_ b3_ b4_ b5_ b6_ b7_ b8_ b9_ b10_ b11_ b12_ b15_ b16_ g7
             refine TL.move rfl rfl (v := .int .i64 r_8) rfl ?_
             refine TL.done ?_
             exact TC.nrm () [] ⟨rfl, trivial⟩ [0, 0, 0, 0, 0] (by kernel_rfl)
            ·intro b0_ b1_ b2_ b3_ b4_ b5_ b6_ b7_ b8_ b9_ b15_ b16_ g7
             refine TL.asL [(bif b16_ then mat Ei 2 22 s3 (ss3.set y7.toNat (gs (g7 72))) (r_12.set y7.toNat ([x2, r_9, r_10] : List Int)) else mat Ei 2 22 s3 ss3 r_12), box (gs (g4 48)).n 108 [.one (.int .i64 y7), .one (.int .i64 y8)], box (gs (g4 56)).n 108 [.one (.int .i64 y9), .one (.int .i64 y10)], (bif b16_ then emp else (bif b9_ then row Ei 2 (gs (g7 72)) ([x2, r_9, r_10] : List Int) else emp)), emp] (by kernel_rfl) ?_
             refine TL.blit Ei ([(w64 (0 - x2)), r_11, r_8] : List Int) Try.underlying22 Try.sizeOf2 Try.zeroValue2 rfl rfl rfl [(0, .int .i64 (w64 (0 - x2))), (1, .int .i64 r_11), (2, .int .i64 r_8)] rfl ⟨rfl, rfl, rfl, rfl, rfl, rfl, trivial⟩ rfl rfl fun s5 => ?_
             refine TL.done ?_
             exact TC.nrm () [[s5]] ⟨rfl, trivial⟩ [1, 1, 1, 1, 0] (by kernel_rfl)
            ·intro b3_ b4_ b5_ b10_ b11_ b12_ b13_ b14_ g7
             refine TL.asL [mat Ei 2 22 s3 ss3 r_12, box (gs (g4 48)).n 108 [.one (.int .i64 y7), .one (.int .i64 y8)], box (gs (g4 56)).n 108 [.one (.int .i64 y9), .one (.int .i64 y10)], row Ei 2 (gs (g7 72)) ([x2, r_9, r_10] : List Int), (bif b14_ then row Ei 2 (gs (g7 112)) ([(w64 (0 - x2)), r_11, r_8] : List Int) else emp)] (by kernel_rfl) ?_
             refine TL.ixsM y7 y7.toNat (RdM.mat 0 rfl) h9 Try.underlying32 Try.sizeOf22 rfl rfl rfl rfl (by omega) ?_
             refine TL.done ?_
             exact TC.nrm () [] ⟨rfl, trivial⟩ [0, 0, 0, 0, 0] (by kernel_rfl)
            ·intro b3_ b4_ b5_ b10_ b11_ b12_ b13_ b14_ g7
             refine TL.asL [mat Ei 2 22 s3 ss3 r_12, box (gs (g4 48)).n 108 [.one (.int .i64 y7), .one (.int .i64 y8)], box (gs (g4 56)).n 108 [.one (.int .i64 y9), .one (.int .i64 y10)], row Ei 2 (gs (g7 72)) ([x2, r_9, r_10] : List Int), (bif b14_ then row Ei 2 (gs (g7 112)) ([(w64 (0 - x2)), r_11, r_8] : List Int) else emp)] (by kernel_rfl) ?_
             refine TL.matlen 0 rfl fun h10 => ?_
             refine TL.matcut 0 rfl ?_
             refine TL.stE 0 (y7.toNat) (gs (g7 72)) (v := SV.v (gs (g7 72))) rfl Try.sizeOf22 rfl rfl rfl (by have h_ := h9; have l_ := h10; (try simp only [List.length_set] at h_ l_ ⊢); omega) (by simp only [show Ev.sz = 1 from rfl] <;> omega) rfl rfl rfl ?_
             refine TL.hole 1 y7 rfl h9 ?_
             refine TL.rowsPut 4 1 rfl rfl ?_
             refine TL.matmk 0 1 rfl rfl ?_
             refine TL.drop 0 rfl ?_
             refine TL.asL [mat Ei 2 22 s3 (ss3.set y7.toNat (gs (g7 72))) (r_12.set y7.toNat ([x2, r_9, r_10] : List Int)), box (gs (g4 48)).n 108 [.one (.int .i64 y7), .one (.int .i64 y8)], box (gs (g4 56)).n 108 [.one (.int .i64 y9), .one (.int .i64 y10)], emp, (bif b14_ then row Ei 2 (gs (g7 112)) ([(w64 (0 - x2)), r_11, r_8] : List Int) else emp)] (by kernel_rfl) ?_
             refine TL.done ?_
             exact TC.nrm () [] trivial [0, 0, 0, 0, 0] (by kernel_rfl)
            ·intro g7
             refine TL.asL [mat Ei 2 22 s3 (ss3.set y7.toNat (gs (g7 72))) (r_12.set y7.toNat ([x2, r_9, r_10] : List Int)), box (gs (g4 48)).n 108 [.one (.int .i64 y7), .one (.int .i64 y8)], box (gs (g4 56)).n 108 [.one (.int .i64 y9), .one (.int .i64 y10)], emp, row Ei 2 (gs (g7 112)) ([(w64 (0 - x2)), r_11, r_8] : List Int)] (by kernel_rfl) ?_
             refine TL.ixsM y9 y9.toNat (RdM.mat 0 rfl) h11 Try.underlying32 Try.sizeOf22 rfl rfl rfl rfl (by omega) ?_
             refine TL.done ?_
             exact TC.nrm () [] ⟨rfl, trivial⟩ [0, 0, 0, 0, 0] (by kernel_rfl)
            ·intro g7
             refine TL.asL [mat Ei 2 22 s3 (ss3.set y7.toNat (gs (g7 72))) (r_12.set y7.toNat ([x2, r_9, r_10] : List Int)), box (gs (g4 48)).n 108 [.one (.int .i64 y7), .one (.int .i64 y8)], box (gs (g4 56)).n 108 [.one (.int .i64 y9), .one (.int .i64 y10)], emp, row Ei 2 (gs (g7 112)) ([(w64 (0 - x2)), r_11, r_8] : List Int)] (by kernel_rfl) ?_
             refine TL.matlen 0 rfl fun h12 => ?_
             refine TL.matcut 0 rfl ?_
             refine TL.stE 0 (y9.toNat) (gs (g7 112)) (v := SV.v (gs (g7 112))) rfl Try.sizeOf22 rfl rfl rfl (by have h_ := h11; have l_ := h12; (try simp only [List.length_set] at h_ l_ ⊢); omega) (by simp only [show Ev.sz = 1 from rfl] <;> omega) rfl rfl rfl ?_
             refine TL.hole 1 y9 rfl h11 ?_
             refine TL.rowsPut 5 1 rfl rfl ?_
             refine TL.matmk 0 1 rfl rfl ?_
             refine TL.drop 0 rfl ?_
             refine TL.asL [mat Ei 2 22 s3 ((ss3.set y7.toNat (gs (g7 72))).set y9.toNat (gs (g7 112))) ((r_12.set y7.toNat ([x2, r_9, r_10] : List Int)).set y9.toNat ([(w64 (0 - x2)), r_11, r_8] : List Int)), box (gs (g4 48)).n 108 [.one (.int .i64 y7), .one (.int .i64 y8)], box (gs (g4 56)).n 108 [.one (.int .i64 y9), .one (.int .i64 y10)], emp, emp] (by kernel_rfl) ?_
             refine TL.done ?_
             exact TC.nrm () [] trivial [0, 0, 0, 0, 0] (by kernel_rfl)
           ·intro g7
            refine TC.asL [mat Ei 2 22 s3 ((ss3.set y7.toNat (gs (g7 72))).set y9.toNat (gs (g7 112))) ((r_12.set y7.toNat ([x2, r_9, r_10] : List Int)).set y9.toNat ([(w64 (0 - x2)), r_11, r_8] : List Int)), box (gs (g4 48)).n 108 [.one (.int .i64 y7), .one (.int .i64 y8)], box (gs (g4 56)).n 108 [.one (.int .i64 y9), .one (.int .i64 y10)], emp, emp] (by kernel_rfl) ?_
            refine TC.seq ?_
            refine TC.region ?_
            refine TL.move rfl rfl (v := SV.v s3) rfl ?_
            refine TL.assign rfl rfl (v := SV.v s3) rfl ?_
            refine TL.assign rfl rfl (v := .int .i64 0) rfl ?_
            refine TL.done ?_
            exact TC.retF (Fin.body (fin2 (.inr rfl) rfl (.tmp rfl) (.tmp rfl) [0] rfl ⟨s3, ((ss3.set y7.toNat (gs (g7 72))).set y9.toNat (gs (g7 112))), rfl, rfl⟩))

end Go.Proofs.Ytiiljfpbcanphaa.G

/- spec.FlipEdge, as a pure function. -/
set_option linter.unusedVariables false
namespace Go.Proofs.Ytiiljfpbcanphaa.G
open Go Go.Sx Go.Proofs

def spec_FlipEdge.f (s1 : List (List Int)) (k_1 : Int) : Option ((List (List Int)) × Int) := (G.spec_l07Is.f s1).bind (fun r_1 => (bif (!r_1) then some (([] : List (List Int)), 1) else (G.spec_l01In.f k_1 1 (w64 (Int.tdiv (w64 ((s1.length : Int) * 3)) 2))).bind (fun r_2 => (bif (!r_2) then some (([] : List (List Int)), 2) else (G.spec_l07Oriented.f s1).bind (fun r_3 => (bif (!r_3) then some (([] : List (List Int)), 5) else (G.spec_l07Flip.f s1 k_1).bind (fun p => match p with | (r_4, r_5) => (bif (!r_5) then some (([] : List (List Int)), 5) else some (r_4, 0)))))))))

def spec_FlipEdge.R (r : (List (List Int)) × Int) (v : Value) (L : List Asn) : Prop := ∃ (s0 : SV) (ss0 : List SV), v = .tuple #[SV.v s0, .int .i64 r.2] ∧ L = [mat Ei 2 22 s0 ss0 r.1]

set_option maxRecDepth 100000 in
set_option maxHeartbeats 4000000 in
theorem spec_FlipEdge.calls (w : World) (s2 : SV) (ss1 : List SV) (s1 : List (List Int)) (k_1 : Int) (h1 : ReadsM Ei (hp w) s2 ss1 s1) :
  ∀ r, spec_FlipEdge.f s1 k_1 = some r → Calls Try.prog 42 #[SV.v s2, .int .i64 k_1] w (Ret w (spec_FlipEdge.R r)) := by

 refine calls_T (n := 33) (Γ := [(0, SV.v s2), (1, .int .i64 k_1)]) (R := spec_FlipEdge.R) Try.func42 rfl rfl (Nat.le_of_ble_eq_true rfl) ⟨rfl, rfl, trivial⟩ ?_
 unfold spec_FlipEdge.f
 refine TC.seq ?_
 refine TC.region ?_
 refine TL.assign rfl rfl (v := SV.v ⟨none, 0, 0⟩) rfl ?_
 refine TL.assign rfl rfl (v := .int .i64 0) rfl ?_
 refine TL.done ?_
 refine TC.seq ?_
 refine TC.block NoEx.body ?_
 refine TC.seq ?_
 refine TC.region ?_
 refine TL.move rfl rfl (v := SV.v s2) rfl ?_
 refine TL.call (R := G.spec_l07Is.R) Try.call100 rfl rfl rfl (fun w hS => G.spec_l07Is.calls w s2 ss1 s1 ((RdM.old h1) w hS)) ?_
 rintro r_1 _ _ ⟨rfl, rfl⟩
 refine TL.not r_1 rfl rfl rfl ?_
 refine TL.assign rfl rfl (v := .bool (!r_1)) rfl ?_
 refine TL.done ?_
 refine TC.cond (b := (!r_1)) rfl (fun c1 => ?_) (fun c2 => ?_)
 ·refine TC.seq ?_
  refine TC.region ?_
  refine TL.assign rfl rfl (v := SV.v ⟨none, 0, 0⟩) rfl ?_
  refine TL.assign rfl rfl (v := .int .i64 1) rfl ?_
  refine TL.done ?_
  refine TC.nilmat Ei 2 22 ?_
  exact TC.retF (Fin.body (fin2 (.inr rfl) rfl (.tmp rfl) (.tmp rfl) [0] rfl ⟨⟨none, 0, 0⟩, [], rfl, rfl⟩))
 ·refine TC.seq ?_
  refine TC.region ?_
  refine TL.move rfl rfl (v := .int .i64 k_1) rfl ?_
  refine TL.move rfl rfl (v := SV.v s2) rfl ?_
  refine TL.lenM (RdM.old h1) Try.underlying32 rfl rfl rfl ?_
  refine TL.bin .i64 (s1.length : Int) 3 rfl rfl rfl rfl (v := .int .i64 (w64 ((s1.length : Int) * 3))) rfl ?_
  refine TL.quo .i64 (w64 ((s1.length : Int) * 3)) 2 (by decide) rfl rfl rfl rfl ?_
  refine TL.call (R := G.spec_l01In.R) Try.call69 rfl rfl rfl (fun w hS => G.spec_l01In.calls w k_1 1 (w64 (Int.tdiv (w64 ((s1.length : Int) * 3)) 2))) ?_
  rintro r_2 _ _ ⟨rfl, rfl⟩
  refine TL.not r_2 rfl rfl rfl ?_
  refine TL.assign rfl rfl (v := .bool (!r_2)) rfl ?_
  refine TL.done ?_
  refine TC.cond (b := (!r_2)) rfl (fun c3 => ?_) (fun c4 => ?_)
  ·refine TC.seq ?_
   refine TC.region ?_
   refine TL.assign rfl rfl (v := SV.v ⟨none, 0, 0⟩) rfl ?_
   refine TL.assign rfl rfl (v := .int .i64 2) rfl ?_
   refine TL.done ?_
   refine TC.nilmat Ei 2 22 ?_
   exact TC.retF (Fin.body (fin2 (.inr rfl) rfl (.tmp rfl) (.tmp rfl) [0] rfl ⟨⟨none, 0, 0⟩, [], rfl, rfl⟩))
  ·refine TC.seq ?_
   refine TC.region ?_
   refine TL.move rfl rfl (v := SV.v s2) rfl ?_
   refine TL.call (R := G.spec_l07Oriented.R) Try.call121 rfl rfl rfl (fun w hS => G.spec_l07Oriented.calls w s2 ss1 s1 ((RdM.old h1) w hS)) ?_
   rintro r_3 _ _ ⟨rfl, rfl⟩
   refine TL.not r_3 rfl rfl rfl ?_
   refine TL.assign rfl rfl (v := .bool (!r_3)) rfl ?_
   refine TL.done ?_
   refine TC.cond (b := (!r_3)) rfl (fun c5 => ?_) (fun c6 => ?_)
   ·refine TC.seq ?_
    refine TC.region ?_
    refine TL.assign rfl rfl (v := SV.v ⟨none, 0, 0⟩) rfl ?_
    refine TL.assign rfl rfl (v := .int .i64 5) rfl ?_
    refine TL.done ?_
    refine TC.nilmat Ei 2 22 ?_
    exact TC.retF (Fin.body (fin2 (.inr rfl) rfl (.tmp rfl) (.tmp rfl) [0] rfl ⟨⟨none, 0, 0⟩, [], rfl, rfl⟩))
   ·refine TC.skip ?_
    refine TC.seq ?_
    refine TC.region ?_
    refine TL.move rfl rfl (v := SV.v s2) rfl ?_
    refine TL.move rfl rfl (v := .int .i64 k_1) rfl ?_
    refine TL.call (R := G.spec_l07Flip.R) Try.call122 rfl rfl rfl (fun w hS => G.spec_l07Flip.calls w s2 ss1 s1 k_1 ((RdM.old h1) w hS)) ?_
    rintro ⟨r_4, r_5⟩ _ _ ⟨s3, ss2, rfl, rfl⟩
    refine TL.move rfl rfl (v := .tuple #[SV.v s3, .bool r_5]) rfl ?_
    refine TL.extract rfl rfl rfl (v := SV.v s3) rfl ?_
    refine TL.extract rfl rfl rfl (v := .bool r_5) rfl ?_
    refine TL.assign rfl rfl (v := SV.v s3) rfl ?_
    refine TL.assign rfl rfl (v := .bool r_5) rfl ?_
    refine TL.done ?_
    refine TC.seq ?_
    refine TC.seq ?_
    refine TC.region ?_
    refine TL.move rfl rfl (v := .bool r_5) rfl ?_
    refine TL.not r_5 rfl rfl rfl ?_
    refine TL.done ?_
    refine TC.cond (b := (!r_5)) rfl (fun c7 => ?_) (fun c8 => ?_)
    ·refine TC.seq ?_
     refine TC.region ?_
     refine TL.assign rfl rfl (v := SV.v ⟨none, 0, 0⟩) rfl ?_
     refine TL.assign rfl rfl (v := .int .i64 5) rfl ?_
     refine TL.done ?_
     refine TC.nilmat Ei 2 22 ?_
     exact TC.retF (Fin.body (fin2 (.inr rfl) rfl (.tmp rfl) (.tmp rfl) [0] rfl ⟨⟨none, 0, 0⟩, [], rfl, rfl⟩))
    ·refine TC.skip ?_
     refine TC.seq ?_
     refine TC.region ?_
     refine TL.move rfl rfl (v := SV.v s3) rfl ?_
     refine TL.assign rfl rfl (v := SV.v s3) rfl ?_
     refine TL.assign rfl rfl (v := .int .i64 0) rfl ?_
     refine TL.done ?_
     exact TC.retF (Fin.body (fin2 (.inr rfl) rfl (.tmp rfl) (.tmp rfl) [0] rfl ⟨s3, ss2, rfl, rfl⟩))

end Go.Proofs.Ytiiljfpbcanphaa.G

/- laws.likeInts, as a pure function. -/
set_option linter.unusedVariables false
namespace Go.Proofs.Ytiiljfpbcanphaa.G
open Go Go.Sx Go.Proofs

def laws_likeInts.b0 (a_1 : List Int) (b_1 : List Int) : Int → Option (LR Int Bool) := fun i1 => (bif (decide (i1 < (a_1.length : Int))) then chk i1 a_1.length (chk i1 b_1.length ((bif ((gt a_1 i1) != (gt b_1 i1)) then some (.ret (false)) else some (.next (w64 (i1 + 1)))))) else some (.brk i1))

def laws_likeInts.f (a_1 : List Int) (b_1 : List Int) : Option Bool := (bif ((a_1.length : Int) != (b_1.length : Int)) then some false else (loop (laws_likeInts.b0 a_1 b_1) 0).bind (ln (fun i1 => some true)))

def laws_likeInts.R (r : Bool) (v : Value) (L : List Asn) : Prop := v = .bool r ∧ L = []

set_option maxRecDepth 100000 in
set_option maxHeartbeats 4000000 in
theorem laws_likeInts.calls (w : World) (s1 : SV) (a_1 : List Int) (s2 : SV) (b_1 : List Int) (h1 : Reads Ei (hp w) s1 a_1) (h2 : Reads Ei (hp w) s2 b_1) :
  ∀ r, laws_likeInts.f a_1 b_1 = some r → Calls Try.prog 123 #[SV.v s1, SV.v s2] w (Ret w (laws_likeInts.R r)) := by

 refine calls_T (n := 26) (Γ := [(0, SV.v s1), (1, SV.v s2)]) (R := laws_likeInts.R) Try.func123 rfl rfl (Nat.le_of_ble_eq_true rfl) ⟨rfl, rfl, trivial⟩ ?_
 unfold laws_likeInts.f
 refine TC.seq ?_
 refine TC.region ?_
 refine TL.assign rfl rfl (v := .bool false) rfl ?_
 refine TL.done ?_
 refine TC.seq ?_
 refine TC.seq ?_
 refine TC.region ?_
 refine TL.move rfl rfl (v := SV.v s1) rfl ?_
 refine TL.len (Rd.old h1) Try.underlying22 rfl rfl rfl ?_
 refine TL.move rfl rfl (v := SV.v s2) rfl ?_
 refine TL.len (Rd.old h2) Try.underlying22 rfl rfl rfl ?_
 refine TL.bin .i64 (a_1.length : Int) (b_1.length : Int) rfl rfl rfl rfl (v := .bool ((a_1.length : Int) != (b_1.length : Int))) rfl ?_
 refine TL.done ?_
 refine TC.cond (b := ((a_1.length : Int) != (b_1.length : Int))) rfl (fun c1 => ?_) (fun c2 => ?_)
 ·refine TC.seq ?_
  refine TC.region ?_
  refine TL.assign rfl rfl (v := .bool false) rfl ?_
  refine TL.done ?_
  exact TC.retF (Fin.body (fin1 (.inr rfl) rfl (.tmp rfl) [] rfl ⟨rfl, rfl⟩))
 ·refine TC.skip ?_
  refine TC.seq ?_
  refine TC.seq ?_
  refine TC.region ?_
  refine TL.assign rfl rfl (v := .int .i64 0) rfl ?_
  refine TL.done ?_
  refine TC.loopK (σ := Int) (γ := Unit) (Γ' := (fun i1 _ => [(0, SV.v s1), (1, SV.v s2), (5, .int .i64 i1)])) (L' := (fun i1 _ => [])) (Γb := (fun i1 _ => [(0, SV.v s1), (1, SV.v s2), (5, .int .i64 i1)])) (Lb := (fun i1 _ => [])) (0) (()) ⟨rfl, rfl, rfl, trivial⟩ [] rfl ?_ ?_
  ·rintro i1 _
   refine TC.seq ?_
   refine TC.seq ?_
   refine TC.region ?_
   refine TL.move rfl rfl (v := .int .i64 i1) rfl ?_
   refine TL.move rfl rfl (v := SV.v s1) rfl ?_
   refine TL.len (Rd.old h1) Try.underlying22 rfl rfl rfl ?_
   refine TL.bin .i64 i1 (a_1.length : Int) rfl rfl rfl rfl (v := .bool (decide (i1 < (a_1.length : Int)))) rfl ?_
   refine TL.done ?_
   refine TC.cond (b := (decide (i1 < (a_1.length : Int)))) rfl (fun c3 => ?_) (fun c4 => ?_)
   ·refine TC.skip ?_
    refine TC.seq ?_
    refine TC.block (NoEx.loop rfl NoEx.body) ?_
    refine TC.seq ?_
    refine TC.wk (Γ' := [(0, SV.v s1), (1, SV.v s2), (5, .int .i64 i1), (11, .int .i64 i1), (12, SV.v s1), (13, .int .i64 (a_1.length : Int)), (14, .bool (decide (i1 < (a_1.length : Int))))]) ⟨rfl, rfl, rfl, rfl, rfl, rfl, rfl, trivial⟩ ?_
    refine TC.chk fun h3 => ?_
    refine TC.chk fun h4 => ?_
    refine TC.draw [SV.v s1, .int .i64 i1, ep s1 i1.toNat, .int .i64 (gt a_1 i1), SV.v s2, .int .i64 i1, ep s2 i1.toNat, .int .i64 (gt b_1 i1), .bool ((gt a_1 i1) != (gt b_1 i1))] 9 [] (by kernel_rfl) rfl rfl rfl rfl ?_ ?_
    ·refine ⟨?_, ?_, ?_, ?_, ?_, ?_, ?_, ?_, ?_, trivial⟩
     ·refine TL.move rfl rfl (v := SV.v s1) rfl ?_
      refine TL.done ?_
      exact TC.nrm () () ⟨rfl, trivial⟩ [] (by kernel_rfl)
     ·refine TL.move rfl rfl (v := .int .i64 i1) rfl ?_
      refine TL.done ?_
      exact TC.nrm () () ⟨rfl, trivial⟩ [] (by kernel_rfl)
     ·refine TL.ixs i1 i1.toNat (Rd.old h1) h3 Try.underlying22 Try.sizeOf2 rfl rfl rfl rfl (by omega) ?_
      refine TL.done ?_
      exact TC.nrm () () ⟨rfl, trivial⟩ [] (by kernel_rfl)
     ·refine TL.loadE (Rd.old h1) Try.isAgg2 i1.toNat 0 (gt_spec h3) (v := .int .i64 (gt a_1 i1)) rfl (by simp only [show Ei.sz = 1 from rfl] <;> omega) rfl rfl rfl ?_
      refine TL.done ?_
      exact TC.nrm () () ⟨rfl, trivial⟩ [] (by kernel_rfl)
     ·refine TL.move rfl rfl (v := SV.v s2) rfl ?_
      refine TL.done ?_
      exact TC.nrm () () ⟨rfl, trivial⟩ [] (by kernel_rfl)
     ·refine TL.move rfl rfl (v := .int .i64 i1) rfl ?_
      refine TL.done ?_
      exact TC.nrm () () ⟨rfl, trivial⟩ [] (by kernel_rfl)
     ·refine TL.ixs i1 i1.toNat (Rd.old h2) h4 Try.underlying22 Try.sizeOf2 rfl rfl rfl rfl (by omega) ?_
      refine TL.done ?_
      exact TC.nrm () () ⟨rfl, trivial⟩ [] (by kernel_rfl)
     ·refine TL.loadE (Rd.old h2) Try.isAgg2 i1.toNat 0 (gt_spec h4) (v := .int .i64 (gt b_1 i1)) rfl (by simp only [show Ei.sz = 1 from rfl] <;> omega) rfl rfl rfl ?_
      refine TL.done ?_
      exact TC.nrm () () ⟨rfl, trivial⟩ [] (by kernel_rfl)
     ·refine TL.bin .i64 (gt a_1 i1) (gt b_1 i1) rfl rfl rfl rfl (v := .bool ((gt a_1 i1) != (gt b_1 i1))) rfl ?_
      refine TL.done ?_
      exact TC.nrm () () ⟨rfl, trivial⟩ [] (by kernel_rfl)
    ·refine TC.cond (b := ((gt a_1 i1) != (gt b_1 i1))) rfl (fun c5 => ?_) (fun c6 => ?_)
     ·refine TC.seq ?_
      refine TC.region ?_
      refine TL.assign rfl rfl (v := .bool false) rfl ?_
      refine TL.done ?_
      exact TC.retF (Fin.loop Far.ret (Fin.body (fin1 (.inr rfl) rfl (.tmp rfl) [] rfl ⟨rfl, rfl⟩)))
     ·refine TC.skip ?_
      refine TC.region ?_
      refine TL.move rfl rfl (v := .int .i64 i1) rfl ?_
      refine TL.bin .i64 i1 1 rfl rfl rfl rfl (v := .int .i64 (w64 (i1 + 1))) rfl ?_
      refine TL.assign rfl rfl (v := .int .i64 (w64 (i1 + 1))) rfl ?_
      refine TL.done ?_
      exact TC.next ((w64 (i1 + 1))) (()) ⟨rfl, rfl, rfl, trivial⟩ [] rfl
   ·exact TC.brk (i1) (()) ⟨rfl, rfl, rfl, trivial⟩ [] rfl
  ·rintro i1 _
   refine TC.seq ?_
   refine TC.region ?_
   refine TL.assign rfl rfl (v := .bool true) rfl ?_
   refine TL.done ?_
   exact TC.retF (Fin.body (fin1 (.inr rfl) rfl (.tmp rfl) [] rfl ⟨rfl, rfl⟩))

end Go.Proofs.Ytiiljfpbcanphaa.G

/- laws.rows5, as a pure function. -/
set_option linter.unusedVariables false
namespace Go.Proofs.Ytiiljfpbcanphaa.G
open Go Go.Sx Go.Proofs

def laws_rows5.b0 (a_1 : List (List Int)) (b_1 : List (List Int)) : Int → Option (LR Int Bool) := fun i1 => (bif (decide (i1 < (a_1.length : Int))) then chk i1 a_1.length (chk i1 b_1.length ((G.laws_likeInts.f (gt a_1 i1) (gt b_1 i1)).bind (fun r_1 => (bif (!r_1) then some (.ret (false)) else some (.next (w64 (i1 + 1))))))) else some (.brk i1))

def laws_rows5.f (a_1 : List (List Int)) (b_1 : List (List Int)) : Option Bool := (bif ((a_1.length : Int) != (b_1.length : Int)) then some false else (loop (laws_rows5.b0 a_1 b_1) 0).bind (ln (fun i1 => some true)))

def laws_rows5.R (r : Bool) (v : Value) (L : List Asn) : Prop := v = .bool r ∧ L = []

set_option maxRecDepth 100000 in
set_option maxHeartbeats 4000000 in
theorem laws_rows5.calls (w : World) (s1 : SV) (ss1 : List SV) (a_1 : List (List Int)) (s2 : SV) (ss2 : List SV) (b_1 : List (List Int)) (h1 : ReadsM Ei (hp w) s1 ss1 a_1) (h2 : ReadsM Ei (hp w) s2 ss2 b_1) :
  ∀ r, laws_rows5.f a_1 b_1 = some r → Calls Try.prog 43 #[SV.v s1, SV.v s2] w (Ret w (laws_rows5.R r)) := by

 refine calls_T (n := 27) (Γ := [(0, SV.v s1), (1, SV.v s2)]) (R := laws_rows5.R) Try.func43 rfl rfl (Nat.le_of_ble_eq_true rfl) ⟨rfl, rfl, trivial⟩ ?_
 unfold laws_rows5.f
 refine TC.seq ?_
 refine TC.region ?_
 refine TL.assign rfl rfl (v := .bool false) rfl ?_
 refine TL.done ?_
 refine TC.seq ?_
 refine TC.seq ?_
 refine TC.region ?_
 refine TL.move rfl rfl (v := SV.v s1) rfl ?_
 refine TL.lenM (RdM.old h1) Try.underlying32 rfl rfl rfl ?_
 refine TL.move rfl rfl (v := SV.v s2) rfl ?_
 refine TL.lenM (RdM.old h2) Try.underlying32 rfl rfl rfl ?_
 refine TL.bin .i64 (a_1.length : Int) (b_1.length : Int) rfl rfl rfl rfl (v := .bool ((a_1.length : Int) != (b_1.length : Int))) rfl ?_
 refine TL.done ?_
 refine TC.cond (b := ((a_1.length : Int) != (b_1.length : Int))) rfl (fun c1 => ?_) (fun c2 => ?_)
 ·refine TC.seq ?_
  refine TC.region ?_
  refine TL.assign rfl rfl (v := .bool false) rfl ?_
  refine TL.done ?_
  exact TC.retF (Fin.body (fin1 (.inr rfl) rfl (.tmp rfl) [] rfl ⟨rfl, rfl⟩))
 ·refine TC.skip ?_
  refine TC.seq ?_
  refine TC.seq ?_
  refine TC.region ?_
  refine TL.assign rfl rfl (v := .int .i64 0) rfl ?_
  refine TL.done ?_
  refine TC.loopK (σ := Int) (γ := Unit) (Γ' := (fun i1 _ => [(0, SV.v s1), (1, SV.v s2), (5, .int .i64 i1)])) (L' := (fun i1 _ => [])) (Γb := (fun i1 _ => [(0, SV.v s1), (1, SV.v s2), (5, .int .i64 i1)])) (Lb := (fun i1 _ => [])) (0) (()) ⟨rfl, rfl, rfl, trivial⟩ [] rfl ?_ ?_
  ·rintro i1 _
   refine TC.seq ?_
   refine TC.seq ?_
   refine TC.region ?_
   refine TL.move rfl rfl (v := .int .i64 i1) rfl ?_
   refine TL.move rfl rfl (v := SV.v s1) rfl ?_
   refine TL.lenM (RdM.old h1) Try.underlying32 rfl rfl rfl ?_
   refine TL.bin .i64 i1 (a_1.length : Int) rfl rfl rfl rfl (v := .bool (decide (i1 < (a_1.length : Int)))) rfl ?_
   refine TL.done ?_
   refine TC.cond (b := (decide (i1 < (a_1.length : Int)))) rfl (fun c3 => ?_) (fun c4 => ?_)
   ·refine TC.skip ?_
    refine TC.seq ?_
    refine TC.block (NoEx.loop rfl NoEx.body) ?_
    refine TC.seq ?_
    refine TC.wk (Γ' := [(0, SV.v s1), (1, SV.v s2), (5, .int .i64 i1), (11, .int .i64 i1), (12, SV.v s1), (13, .int .i64 (a_1.length : Int)), (14, .bool (decide (i1 < (a_1.length : Int))))]) ⟨rfl, rfl, rfl, rfl, rfl, rfl, rfl, trivial⟩ ?_
    refine TC.chk fun h3 => ?_
    refine TC.chk fun h4 => ?_
    refine TC.bindE fun r_1 hr1 => ?_
    refine TC.draw [SV.v s1, .int .i64 i1, ep s1 i1.toNat, SV.v (gt ss1 i1), SV.v s2, .int .i64 i1, ep s2 i1.toNat, SV.v (gt ss2 i1), .bool r_1, .bool (!r_1)] 10 [] (by kernel_rfl) rfl rfl rfl rfl ?_ ?_
    ·refine ⟨?_, ?_, ?_, ?_, ?_, ?_, ?_, ?_, ?_, ?_, trivial⟩
     ·refine TL.move rfl rfl (v := SV.v s1) rfl ?_
      refine TL.done ?_
      exact TC.nrm () () ⟨rfl, trivial⟩ [] (by kernel_rfl)
     ·refine TL.move rfl rfl (v := .int .i64 i1) rfl ?_
      refine TL.done ?_
      exact TC.nrm () () ⟨rfl, trivial⟩ [] (by kernel_rfl)
     ·refine TL.ixsM i1 i1.toNat (RdM.old h1) h3 Try.underlying32 Try.sizeOf22 rfl rfl rfl rfl (by omega) ?_
      refine TL.done ?_
      exact TC.nrm () () ⟨rfl, trivial⟩ [] (by kernel_rfl)
     ·refine TL.loadM2 (RdM.old h1) Try.isAgg22 i1 h3 (by omega) rfl rfl rfl ?_
      refine TL.done ?_
      exact TC.nrm () () ⟨rfl, trivial⟩ [] (by kernel_rfl)
     ·refine TL.move rfl rfl (v := SV.v s2) rfl ?_
      refine TL.done ?_
      exact TC.nrm () () ⟨rfl, trivial⟩ [] (by kernel_rfl)
     ·refine TL.move rfl rfl (v := .int .i64 i1) rfl ?_
      refine TL.done ?_
      exact TC.nrm () () ⟨rfl, trivial⟩ [] (by kernel_rfl)
     ·refine TL.ixsM i1 i1.toNat (RdM.old h2) h4 Try.underlying32 Try.sizeOf22 rfl rfl rfl rfl (by omega) ?_
      refine TL.done ?_
      exact TC.nrm () () ⟨rfl, trivial⟩ [] (by kernel_rfl)
     ·refine TL.loadM2 (RdM.old h2) Try.isAgg22 i1 h4 (by omega) rfl rfl rfl ?_
      refine TL.done ?_
      exact TC.nrm () () ⟨rfl, trivial⟩ [] (by kernel_rfl)
     ·refine TL.callH (R := G.laws_likeInts.R) hr1 Try.call123 rfl rfl rfl (fun w hS => G.laws_likeInts.calls w (gt ss1 i1) (gt a_1 i1) (gt ss2 i1) (gt b_1 i1) ((RdM.inn (RdM.old h1) h3) w hS) ((RdM.inn (RdM.old h2) h4) w hS)) ?_
      rintro _ _ ⟨rfl, rfl⟩
      refine TL.done ?_
      exact TC.nrm () () ⟨rfl, trivial⟩ [] (by kernel_rfl)
     ·refine TL.not r_1 rfl rfl rfl ?_
      refine TL.done ?_
      exact TC.nrm () () ⟨rfl, trivial⟩ [] (by kernel_rfl)
    ·refine TC.cond (b := (!r_1)) rfl (fun c5 => ?_) (fun c6 => ?_)
     ·refine TC.seq ?_
      refine TC.region ?_
      refine TL.assign rfl rfl (v := .bool false) rfl ?_
      refine TL.done ?_
      exact TC.retF (Fin.loop Far.ret (Fin.body (fin1 (.inr rfl) rfl (.tmp rfl) [] rfl ⟨rfl, rfl⟩)))
     ·refine TC.skip ?_
      refine TC.region ?_
      refine TL.move rfl rfl (v := .int .i64 i1) rfl ?_
      refine TL.bin .i64 i1 1 rfl rfl rfl rfl (v := .int .i64 (w64 (i1 + 1))) rfl ?_
      refine TL.assign rfl rfl (v := .int .i64 (w64 (i1 + 1))) rfl ?_
      refine TL.done ?_
      exact TC.next ((w64 (i1 + 1))) (()) ⟨rfl, rfl, rfl, trivial⟩ [] rfl
   ·exact TC.brk (i1) (()) ⟨rfl, rfl, rfl, trivial⟩ [] rfl
  ·rintro i1 _
   refine TC.seq ?_
   refine TC.region ?_
   refine TL.assign rfl rfl (v := .bool true) rfl ?_
   refine TL.done ?_
   exact TC.retF (Fin.body (fin1 (.inr rfl) rfl (.tmp rfl) [] rfl ⟨rfl, rfl⟩))

end Go.Proofs.Ytiiljfpbcanphaa.G

/- spec.IsSurface, as a pure function. -/
set_option linter.unusedVariables false
namespace Go.Proofs.Ytiiljfpbcanphaa.G
open Go Go.Sx Go.Proofs

def spec_IsSurface.f (s1 : List (List Int)) : Option Bool := (G.spec_l07Is.f s1).bind (fun r_1 => some r_1)

def spec_IsSurface.R (r : Bool) (v : Value) (L : List Asn) : Prop := v = .bool r ∧ L = []

set_option maxRecDepth 100000 in
set_option maxHeartbeats 4000000 in
theorem spec_IsSurface.calls (w : World) (s2 : SV) (ss1 : List SV) (s1 : List (List Int)) (h1 : ReadsM Ei (hp w) s2 ss1 s1) :
  ∀ r, spec_IsSurface.f s1 = some r → Calls Try.prog 45 #[SV.v s2] w (Ret w (spec_IsSurface.R r)) := by

 refine calls_T (n := 5) (Γ := [(0, SV.v s2)]) (R := spec_IsSurface.R) Try.func45 rfl rfl (Nat.le_of_ble_eq_true rfl) ⟨rfl, trivial⟩ ?_
 unfold spec_IsSurface.f
 refine TC.seq ?_
 refine TC.region ?_
 refine TL.assign rfl rfl (v := .bool false) rfl ?_
 refine TL.done ?_
 refine TC.seq ?_
 refine TC.region ?_
 refine TL.move rfl rfl (v := SV.v s2) rfl ?_
 refine TL.call (R := G.spec_l07Is.R) Try.call100 rfl rfl rfl (fun w hS => G.spec_l07Is.calls w s2 ss1 s1 ((RdM.old h1) w hS)) ?_
 rintro r_1 _ _ ⟨rfl, rfl⟩
 refine TL.assign rfl rfl (v := .bool r_1) rfl ?_
 refine TL.done ?_
 exact TC.retF (Fin.body (fin1 (.inr rfl) rfl (.tmp rfl) [] rfl ⟨rfl, rfl⟩))

end Go.Proofs.Ytiiljfpbcanphaa.G

/- impl.ofSurface, as a pure function. -/
set_option linter.unusedVariables false
namespace Go.Proofs.Ytiiljfpbcanphaa.G
open Go Go.Sx Go.Proofs

def impl_ofSurface.f (s1 : List (List Int)) (of_1 : (List (List Int)) → Option Int) : Option (Int × Int) := (G.impl_IsSurface.f s1).bind (fun r_1 => (bif (!r_1) then some (0, 1) else (of_1 s1).bind (fun r_2 => some (r_2, 0))))

def impl_ofSurface.R (r : Int × Int) (v : Value) (L : List Asn) : Prop := v = .tuple #[.int .i64 r.1, .int .i64 r.2] ∧ L = []

set_option maxRecDepth 100000 in
set_option maxHeartbeats 4000000 in
theorem impl_ofSurface.calls (w : World) (s2 : SV) (ss1 : List SV) (s1 : List (List Int)) (f1 : Nat) (fst1 : List Value) (cap1 : List Value) (of_1 : (List (List Int)) → Option Int) (h1 : ReadsM Ei (hp w) s2 ss1 s1) (hc1 : ∀ (args_ : Array Value) (w_ : World), (callFunc f1 args_).run Try.prog w_ = .ok (.enter f1 args_) w_) (hf1 : ∀ w_, Hle (hp w) (hp w_) → ∀ (s1_ : SV) (ss1_ : List SV) (x0_ : List (List Int)), ReadsM Ei (hp w_) s1_ ss1_ x0_ → ∀ r_, of_1 x0_ = some r_ → Calls Try.prog f1 (fst1 ++ ([SV.v s1_] : List Value) ++ cap1).toArray w_ (Ret w_ (fun (v_ : Value) (L_ : List Asn) => v_ = .int .i64 r_ ∧ L_ = []))) :
  ∀ r, impl_ofSurface.f s1 of_1 = some r → Calls Try.prog 127 #[SV.v s2, .func (.func f1) fst1.toArray cap1.toArray] w (Ret w (impl_ofSurface.R r)) := by

 refine calls_T (n := 12) (Γ := [(0, SV.v s2), (1, .func (.func f1) fst1.toArray cap1.toArray)]) (R := impl_ofSurface.R) Try.func127 rfl rfl (Nat.le_of_ble_eq_true rfl) ⟨rfl, rfl, trivial⟩ ?_
 unfold impl_ofSurface.f
 refine TC.seq ?_
 refine TC.region ?_
 refine TL.assign rfl rfl (v := .int .i64 0) rfl ?_
 refine TL.assign rfl rfl (v := .int .i64 0) rfl ?_
 refine TL.done ?_
 refine TC.seq ?_
 refine TC.seq ?_
 refine TC.region ?_
 refine TL.move rfl rfl (v := SV.v s2) rfl ?_
 refine TL.call (R := G.impl_IsSurface.R) Try.call44 rfl rfl rfl (fun w hS => G.impl_IsSurface.calls w s2 ss1 s1 ((RdM.old h1) w hS)) ?_
 rintro r_1 _ _ ⟨rfl, rfl⟩
 refine TL.not r_1 rfl rfl rfl ?_
 refine TL.done ?_
 refine TC.cond (b := (!r_1)) rfl (fun c1 => ?_) (fun c2 => ?_)
 ·refine TC.seq ?_
  refine TC.region ?_
  refine TL.assign rfl rfl (v := .int .i64 0) rfl ?_
  refine TL.assign rfl rfl (v := .int .i64 1) rfl ?_
  refine TL.done ?_
  exact TC.retF (Fin.body (fin2 (.inr rfl) rfl (.tmp rfl) (.tmp rfl) [] rfl ⟨rfl, rfl⟩))
 ·refine TC.skip ?_
  refine TC.seq ?_
  refine TC.region ?_
  refine TL.move rfl rfl (v := .func (.func f1) fst1.toArray cap1.toArray) rfl ?_
  refine TL.move rfl rfl (v := SV.v s2) rfl ?_
  refine TL.callv (R := (fun r_ => (fun (v_ : Value) (L_ : List Asn) => v_ = .int .i64 r_ ∧ L_ = []))) (vs := [SV.v s2]) hc1 rfl rfl rfl rfl (fun w hS => hf1 w hS.iw s2 ss1 s1 ((RdM.old h1) w hS)) ?_
  rintro r_2 _ _ ⟨rfl, rfl⟩
  refine TL.assign rfl rfl (v := .int .i64 r_2) rfl ?_
  refine TL.assign rfl rfl (v := .int .i64 0) rfl ?_
  refine TL.done ?_
  exact TC.retF (Fin.body (fin2 (.inr rfl) rfl (.tmp rfl) (.tmp rfl) [] rfl ⟨rfl, rfl⟩))

end Go.Proofs.Ytiiljfpbcanphaa.G
