/- Functions of the program, as pure functions. -/
import Derived.Test.YtiiljfpbcanphaaMFnSurfaces7
import Derived.Test.YtiiljfpbcanphaaProg
/- spec.CountSurfacePieces, as a pure function. -/
set_option linter.unusedVariables false
namespace Go.Proofs.Ytiiljfpbcanphaa.G
open Go Go.Sx Go.Proofs

def spec_CountSurfacePieces.f (s1 : List (List Int)) : Option (Int × Int) := (G.spec_l07Is.f s1).bind (fun r_1 => (bif (!r_1) then some (0, 1) else (G.spec_l07Pieces.f s1).bind (fun r_2 => (G.spec_l07Different.f r_2).bind (fun r_3 => some (r_3, 0)))))

def spec_CountSurfacePieces.R (r : Int × Int) (v : Value) (L : List Asn) : Prop := v = .tuple #[.int .i64 r.1, .int .i64 r.2] ∧ L = []

set_option maxRecDepth 100000 in
set_option maxHeartbeats 4000000 in
theorem spec_CountSurfacePieces.calls (w : World) (s2 : SV) (ss1 : List SV) (s1 : List (List Int)) (h1 : ReadsM Ei (hp w) s2 ss1 s1) :
  ∀ r, spec_CountSurfacePieces.f s1 = some r → Calls Try.prog 58 #[SV.v s2] w (Ret w (spec_CountSurfacePieces.R r)) := by

 refine calls_T (n := 10) (Γ := [(0, SV.v s2)]) (R := spec_CountSurfacePieces.R) Try.func58 rfl rfl (Nat.le_of_ble_eq_true rfl) ⟨rfl, trivial⟩ ?_
 unfold spec_CountSurfacePieces.f
 refine TC.seq ?_
 refine TC.region ?_
 refine TL.assign rfl rfl (v := .int .i64 0) rfl ?_
 refine TL.assign rfl rfl (v := .int .i64 0) rfl ?_
 refine TL.done ?_
 refine TC.seq ?_
 refine TC.seq ?_
 refine TC.region ?_
 refine TL.move rfl rfl (v := SV.v s2) rfl ?_
 refine TL.call (R := G.spec_l07Is.R) Try.call100 rfl rfl rfl (fun w hS => G.spec_l07Is.calls w s2 ss1 s1 ((RdM.old h1) w hS)) ?_
 rintro r_1 _ _ ⟨rfl, rfl⟩
 refine TL.not r_1 rfl rfl rfl ?_
 refine TL.done ?_
 refine TC.cond (b := (!r_1)) rfl (fun c1 => ?_) (fun c2 => ?_)
 ·refine TC.seq ?_
  refine TC.region ?_
  refine TL.assign rfl rfl (v := .int .i64 0) rfl ?_
  refine TL.assign rfl rfl (v := .int .i64 1) rfl ?_
  refine TL.done ?_
  exact TC.retF (Fin.body (fin2 (.inr rfl) rfl (.tmp rfl) (.tmp rfl) [] rfl ⟨rfl, rfl⟩))
 ·refine TC.skip ?_
  refine TC.seq ?_
  refine TC.region ?_
  refine TL.move rfl rfl (v := SV.v s2) rfl ?_
  refine TL.call (R := G.spec_l07Pieces.R) Try.call134 rfl rfl rfl (fun w hS => G.spec_l07Pieces.calls w s2 ss1 s1 ((RdM.old h1) w hS)) ?_
  rintro r_2 _ _ ⟨s3, rfl, rfl⟩
  refine TL.call (R := G.spec_l07Different.R) Try.call133 rfl rfl rfl (fun w hS => G.spec_l07Different.calls w s3 r_2 ((Rd.row 0 rfl) w hS)) ?_
  rintro r_3 _ _ ⟨rfl, rfl⟩
  refine TL.assign rfl rfl (v := .int .i64 r_3) rfl ?_
  refine TL.assign rfl rfl (v := .int .i64 0) rfl ?_
  refine TL.done ?_
  exact TC.retF (Fin.body (fin2 (.inr rfl) rfl (.tmp rfl) (.tmp rfl) [] rfl ⟨rfl, rfl⟩))

end Go.Proofs.Ytiiljfpbcanphaa.G

/- spec.DrawNamedSurface, as a pure function. -/
set_option linter.unusedVariables false
namespace Go.Proofs.Ytiiljfpbcanphaa.G
open Go Go.Sx Go.Proofs

def spec_DrawNamedSurface.f (code1 : List UInt8) : Option Str := (G.spec_l01From.f code1).bind (fun p => match p with | (r_1, r_2) => (G.spec_l01Next.f code1 r_1 r_2 7).bind (fun p => match p with | (r_3, s3, s4) => chk r_3 (([([115, 112, 104, 101, 114, 101] : Str), ([116, 111, 114, 117, 115] : Str), ([112, 108, 97, 110, 101] : Str), ([98, 111, 116, 116, 108, 101] : Str), ([100, 111, 117, 98, 108, 101] : Str), ([] : Str), ([84, 111, 114, 117, 115] : Str)] : List Str).length) (some (gt ([([115, 112, 104, 101, 114, 101] : Str), ([116, 111, 114, 117, 115] : Str), ([112, 108, 97, 110, 101] : Str), ([98, 111, 116, 116, 108, 101] : Str), ([100, 111, 117, 98, 108, 101] : Str), ([] : Str), ([84, 111, 114, 117, 115] : Str)] : List Str) r_3))))

def spec_DrawNamedSurface.R (r : Str) (v : Value) (L : List Asn) : Prop := v = strv r ∧ L = []

set_option maxRecDepth 100000 in
set_option maxHeartbeats 4000000 in
theorem spec_DrawNamedSurface.calls (w : World) (s1 : SV) (code1 : List UInt8) (h1 : Reads Eu (hp w) s1 code1) :
  ∀ r, spec_DrawNamedSurface.f code1 = some r → Calls Try.prog 59 #[SV.v s1] w (Ret w (spec_DrawNamedSurface.R r)) := by

 refine calls_T (n := 13) (Γ := [(0, SV.v s1)]) (R := spec_DrawNamedSurface.R) Try.func59 rfl rfl (Nat.le_of_ble_eq_true rfl) ⟨rfl, trivial⟩ ?_
 unfold spec_DrawNamedSurface.f
 refine TC.seq ?_
 refine TC.region ?_
 refine TL.assign rfl rfl (v := strv ([] : Str)) rfl ?_
 refine TL.done ?_
 refine TC.seq ?_
 refine TC.region ?_
 refine TL.move rfl rfl (v := SV.v s1) rfl ?_
 refine TL.call (R := G.spec_l01From.R s1) Try.call115 rfl rfl rfl (fun w hS => G.spec_l01From.calls w s1 code1 ((Rd.old h1) w hS)) ?_
 rintro ⟨r_1, r_2⟩ _ _ ⟨b_1, rfl, rfl⟩
 refine TL.assign rfl rfl (v := bp b_1 0) rfl ?_
 refine TL.done ?_
 refine TC.seq ?_
 refine TC.region ?_
 refine TL.blit Es ([([115, 112, 104, 101, 114, 101] : Str), ([116, 111, 114, 117, 115] : Str), ([112, 108, 97, 110, 101] : Str), ([98, 111, 116, 116, 108, 101] : Str), ([100, 111, 117, 98, 108, 101] : Str), ([] : Str), ([84, 111, 114, 117, 115] : Str)] : List Str) Try.underlying117 Try.sizeOf9 Try.zeroValue9 rfl rfl rfl [(0, strv ([115, 112, 104, 101, 114, 101] : Str)), (1, strv ([116, 111, 114, 117, 115] : Str)), (2, strv ([112, 108, 97, 110, 101] : Str)), (3, strv ([98, 111, 116, 116, 108, 101] : Str)), (4, strv ([100, 111, 117, 98, 108, 101] : Str)), (5, strv ([] : Str)), (6, strv ([84, 111, 114, 117, 115] : Str))] rfl ⟨rfl, rfl, rfl, rfl, rfl, rfl, rfl, rfl, rfl, rfl, rfl, rfl, rfl, rfl, trivial⟩ rfl rfl fun s2 => ?_
 refine TL.assign rfl rfl (v := SV.v s2) rfl ?_
 refine TL.done ?_
 refine TC.seq ?_
 refine TC.region ?_
 refine TL.move rfl rfl (v := SV.v s2) rfl ?_
 refine TL.move rfl rfl (v := bp b_1 0) rfl ?_
 refine TL.callX (R := G.spec_l01Next.R b_1 s1) [1, 0] [box b_1 143 [.one (SV.v s1), .one (.int .i64 r_1), .one (.int .u64 r_2)]] [row Es 9 s2 ([([115, 112, 104, 101, 114, 101] : Str), ([116, 111, 114, 117, 115] : Str), ([112, 108, 97, 110, 101] : Str), ([98, 111, 116, 116, 108, 101] : Str), ([100, 111, 117, 98, 108, 101] : Str), ([] : Str), ([84, 111, 114, 117, 115] : Str)] : List Str)] rfl Try.call129 rfl rfl rfl (fun w I_ hle hB hS => G.spec_l01Next.calls _ I_ w b_1 s1 code1 r_1 r_2 7 hS (h1.mono hle)) ?_
 rintro ⟨r_3, s3, s4⟩ _ _ ⟨rfl, rfl⟩
 refine TL.chk fun h2 => ?_
 refine TL.ixs r_3 r_3.toNat (Rd.row 1 rfl) h2 Try.underlying117 Try.sizeOf9 rfl rfl rfl rfl (by omega) ?_
 refine TL.loadE (Rd.row 1 rfl) Try.isAgg9 r_3.toNat 0 (gt_spec h2) (v := strv (gt ([([115, 112, 104, 101, 114, 101] : Str), ([116, 111, 114, 117, 115] : Str), ([112, 108, 97, 110, 101] : Str), ([98, 111, 116, 116, 108, 101] : Str), ([100, 111, 117, 98, 108, 101] : Str), ([] : Str), ([84, 111, 114, 117, 115] : Str)] : List Str) r_3)) rfl (by simp only [show Es.sz = 1 from rfl] <;> omega) rfl rfl rfl ?_
 refine TL.assign rfl rfl (v := strv (gt ([([115, 112, 104, 101, 114, 101] : Str), ([116, 111, 114, 117, 115] : Str), ([112, 108, 97, 110, 101] : Str), ([98, 111, 116, 116, 108, 101] : Str), ([100, 111, 117, 98, 108, 101] : Str), ([] : Str), ([84, 111, 114, 117, 115] : Str)] : List Str) r_3)) rfl ?_
 refine TL.done ?_
 exact TC.retF (Fin.body (fin1 (.inr rfl) rfl (.tmp rfl) [] rfl ⟨rfl, rfl⟩))

end Go.Proofs.Ytiiljfpbcanphaa.G

/- impl.NamedSurface, as a pure function. -/
set_option linter.unusedVariables false
namespace Go.Proofs.Ytiiljfpbcanphaa.G
open Go Go.Sx Go.Proofs

def impl_NamedSurface.f (name1 : Str) : Option ((List (List Int)) × Int) := (bif (name1 == ([115, 112, 104, 101, 114, 101] : Str)) then some (([([1, 2, 3] : List Int), ([(-3), (-2), (-1)] : List Int)] : List (List Int)), 0) else (bif (name1 == ([116, 111, 114, 117, 115] : Str)) then some (([([1, 2, (-3)] : List Int), ([3, (-1), (-2)] : List Int)] : List (List Int)), 0) else (bif (name1 == ([112, 108, 97, 110, 101] : Str)) then some (([([1, 2, (-3)] : List Int), ([3, 1, 2] : List Int)] : List (List Int)), 0) else (bif (name1 == ([98, 111, 116, 116, 108, 101] : Str)) then some (([([1, 2, (-3)] : List Int), ([3, 1, (-2)] : List Int)] : List (List Int)), 0) else (bif (name1 == ([100, 111, 117, 98, 108, 101] : Str)) then some (([([1, 2, (-5)] : List Int), ([5, (-1), 6] : List Int), ([(-6), (-2), 7] : List Int), ([(-7), 3, 8] : List Int), ([(-8), 4, 9] : List Int), ([(-9), (-3), (-4)] : List Int)] : List (List Int)), 0) else some (([] : List (List Int)), 4))))))

def impl_NamedSurface.R (r : (List (List Int)) × Int) (v : Value) (L : List Asn) : Prop := ∃ (s0 : SV) (ss0 : List SV), v = .tuple #[SV.v s0, .int .i64 r.2] ∧ L = [mat Ei 2 22 s0 ss0 r.1]

set_option maxRecDepth 100000 in
set_option maxHeartbeats 4000000 in
theorem impl_NamedSurface.calls (w : World) (name1 : Str) :
  ∀ r, impl_NamedSurface.f name1 = some r → Calls Try.prog 60 #[strv name1] w (Ret w (impl_NamedSurface.R r)) := by

 refine calls_T (n := 34) (Γ := [(0, strv name1)]) (R := impl_NamedSurface.R) Try.func60 rfl rfl (Nat.le_of_ble_eq_true rfl) ⟨rfl, trivial⟩ ?_
 unfold impl_NamedSurface.f
 refine TC.seq ?_
 refine TC.region ?_
 refine TL.assign rfl rfl (v := SV.v ⟨none, 0, 0⟩) rfl ?_
 refine TL.assign rfl rfl (v := .int .i64 0) rfl ?_
 refine TL.done ?_
 refine TC.seq ?_
 refine TC.seq ?_
 refine TC.region ?_
 refine TL.move rfl rfl (v := strv name1) rfl ?_
 refine TL.done ?_
 refine TC.block NoEx.body ?_
 refine TC.seq ?_
 refine TC.region ?_
 refine TL.strEq name1 ([115, 112, 104, 101, 114, 101] : Str) rfl rfl rfl rfl ?_
 refine TL.assign rfl rfl (v := .bool (name1 == ([115, 112, 104, 101, 114, 101] : Str))) rfl ?_
 refine TL.done ?_
 refine TC.cond (b := (name1 == ([115, 112, 104, 101, 114, 101] : Str))) rfl (fun c1 => ?_) (fun c2 => ?_)
 ·refine TC.seq ?_
  refine TC.region ?_
  refine TL.blit Ei ([1, 2, 3] : List Int) Try.underlying22 Try.sizeOf2 Try.zeroValue2 rfl rfl rfl [(0, .int .i64 1), (1, .int .i64 2), (2, .int .i64 3)] rfl ⟨rfl, rfl, rfl, rfl, rfl, rfl, trivial⟩ rfl rfl fun s1 => ?_
  refine TL.blit Ei ([(-3), (-2), (-1)] : List Int) Try.underlying22 Try.sizeOf2 Try.zeroValue2 rfl rfl rfl [(0, .int .i64 (-3)), (1, .int .i64 (-2)), (2, .int .i64 (-1))] rfl ⟨rfl, rfl, rfl, rfl, rfl, rfl, trivial⟩ rfl rfl fun s2 => ?_
  refine TL.blit Ev ([s1, s2] : List SV) Try.underlying32 Try.sizeOf22 Try.zeroValue22 rfl rfl rfl [(0, SV.v s1), (1, SV.v s2)] rfl ⟨rfl, rfl, rfl, rfl, trivial⟩ rfl rfl fun s3 => ?_
  refine TL.rows0 Ei 2 ?_
  refine TL.rowsPush 0 3 rfl rfl ?_
  refine TL.rowsPush 3 2 rfl rfl ?_
  refine TL.matmk 1 2 rfl rfl ?_
  refine TL.asL [emp, emp, mat Ei 2 22 s3 ([s1, s2] : List SV) ([([1, 2, 3] : List Int), ([(-3), (-2), (-1)] : List Int)] : List (List Int)), emp] (by kernel_rfl) ?_
  refine TL.assign rfl rfl (v := SV.v s3) rfl ?_
  refine TL.assign rfl rfl (v := .int .i64 0) rfl ?_
  refine TL.done ?_
  exact TC.retF (Fin.body (fin2 (.inr rfl) rfl (.tmp rfl) (.tmp rfl) [2] rfl ⟨s3, ([s1, s2] : List SV), rfl, rfl⟩))
 ·refine TC.seq ?_
  refine TC.region ?_
  refine TL.strEq name1 ([116, 111, 114, 117, 115] : Str) rfl rfl rfl rfl ?_
  refine TL.assign rfl rfl (v := .bool (name1 == ([116, 111, 114, 117, 115] : Str))) rfl ?_
  refine TL.done ?_
  refine TC.cond (b := (name1 == ([116, 111, 114, 117, 115] : Str))) rfl (fun c3 => ?_) (fun c4 => ?_)
  ·refine TC.seq ?_
   refine TC.region ?_
   refine TL.blit Ei ([1, 2, (-3)] : List Int) Try.underlying22 Try.sizeOf2 Try.zeroValue2 rfl rfl rfl [(0, .int .i64 1), (1, .int .i64 2), (2, .int .i64 (-3))] rfl ⟨rfl, rfl, rfl, rfl, rfl, rfl, trivial⟩ rfl rfl fun s4 => ?_
   refine TL.blit Ei ([3, (-1), (-2)] : List Int) Try.underlying22 Try.sizeOf2 Try.zeroValue2 rfl rfl rfl [(0, .int .i64 3), (1, .int .i64 (-1)), (2, .int .i64 (-2))] rfl ⟨rfl, rfl, rfl, rfl, rfl, rfl, trivial⟩ rfl rfl fun s5 => ?_
   refine TL.blit Ev ([s4, s5] : List SV) Try.underlying32 Try.sizeOf22 Try.zeroValue22 rfl rfl rfl [(0, SV.v s4), (1, SV.v s5)] rfl ⟨rfl, rfl, rfl, rfl, trivial⟩ rfl rfl fun s6 => ?_
   refine TL.rows0 Ei 2 ?_
   refine TL.rowsPush 0 3 rfl rfl ?_
   refine TL.rowsPush 3 2 rfl rfl ?_
   refine TL.matmk 1 2 rfl rfl ?_
   refine TL.asL [emp, emp, mat Ei 2 22 s6 ([s4, s5] : List SV) ([([1, 2, (-3)] : List Int), ([3, (-1), (-2)] : List Int)] : List (List Int)), emp] (by kernel_rfl) ?_
   refine TL.assign rfl rfl (v := SV.v s6) rfl ?_
   refine TL.assign rfl rfl (v := .int .i64 0) rfl ?_
   refine TL.done ?_
   exact TC.retF (Fin.body (fin2 (.inr rfl) rfl (.tmp rfl) (.tmp rfl) [2] rfl ⟨s6, ([s4, s5] : List SV), rfl, rfl⟩))
  ·refine TC.seq ?_
   refine TC.region ?_
   refine TL.strEq name1 ([112, 108, 97, 110, 101] : Str) rfl rfl rfl rfl ?_
   refine TL.assign rfl rfl (v := .bool (name1 == ([112, 108, 97, 110, 101] : Str))) rfl ?_
   refine TL.done ?_
   refine TC.cond (b := (name1 == ([112, 108, 97, 110, 101] : Str))) rfl (fun c5 => ?_) (fun c6 => ?_)
   ·refine TC.seq ?_
    refine TC.region ?_
    refine TL.blit Ei ([1, 2, (-3)] : List Int) Try.underlying22 Try.sizeOf2 Try.zeroValue2 rfl rfl rfl [(0, .int .i64 1), (1, .int .i64 2), (2, .int .i64 (-3))] rfl ⟨rfl, rfl, rfl, rfl, rfl, rfl, trivial⟩ rfl rfl fun s7 => ?_
    refine TL.blit Ei ([3, 1, 2] : List Int) Try.underlying22 Try.sizeOf2 Try.zeroValue2 rfl rfl rfl [(0, .int .i64 3), (1, .int .i64 1), (2, .int .i64 2)] rfl ⟨rfl, rfl, rfl, rfl, rfl, rfl, trivial⟩ rfl rfl fun s8 => ?_
    refine TL.blit Ev ([s7, s8] : List SV) Try.underlying32 Try.sizeOf22 Try.zeroValue22 rfl rfl rfl [(0, SV.v s7), (1, SV.v s8)] rfl ⟨rfl, rfl, rfl, rfl, trivial⟩ rfl rfl fun s9 => ?_
    refine TL.rows0 Ei 2 ?_
    refine TL.rowsPush 0 3 rfl rfl ?_
    refine TL.rowsPush 3 2 rfl rfl ?_
    refine TL.matmk 1 2 rfl rfl ?_
    refine TL.asL [emp, emp, mat Ei 2 22 s9 ([s7, s8] : List SV) ([([1, 2, (-3)] : List Int), ([3, 1, 2] : List Int)] : List (List Int)), emp] (by kernel_rfl) ?_
    refine TL.assign rfl rfl (v := SV.v s9) rfl ?_
    refine TL.assign rfl rfl (v := .int .i64 0) rfl ?_
    refine TL.done ?_
    exact TC.retF (Fin.body (fin2 (.inr rfl) rfl (.tmp rfl) (.tmp rfl) [2] rfl ⟨s9, ([s7, s8] : List SV), rfl, rfl⟩))
   ·refine TC.seq ?_
    refine TC.region ?_
    refine TL.strEq name1 ([98, 111, 116, 116, 108, 101] : Str) rfl rfl rfl rfl ?_
    refine TL.assign rfl rfl (v := .bool (name1 == ([98, 111, 116, 116, 108, 101] : Str))) rfl ?_
    refine TL.done ?_
    refine TC.cond (b := (name1 == ([98, 111, 116, 116, 108, 101] : Str))) rfl (fun c7 => ?_) (fun c8 => ?_)
    ·refine TC.seq ?_
     refine TC.region ?_
     refine TL.blit Ei ([1, 2, (-3)] : List Int) Try.underlying22 Try.sizeOf2 Try.zeroValue2 rfl rfl rfl [(0, .int .i64 1), (1, .int .i64 2), (2, .int .i64 (-3))] rfl ⟨rfl, rfl, rfl, rfl, rfl, rfl, trivial⟩ rfl rfl fun s10 => ?_
     refine TL.blit Ei ([3, 1, (-2)] : List Int) Try.underlying22 Try.sizeOf2 Try.zeroValue2 rfl rfl rfl [(0, .int .i64 3), (1, .int .i64 1), (2, .int .i64 (-2))] rfl ⟨rfl, rfl, rfl, rfl, rfl, rfl, trivial⟩ rfl rfl fun s11 => ?_
     refine TL.blit Ev ([s10, s11] : List SV) Try.underlying32 Try.sizeOf22 Try.zeroValue22 rfl rfl rfl [(0, SV.v s10), (1, SV.v s11)] rfl ⟨rfl, rfl, rfl, rfl, trivial⟩ rfl rfl fun s12 => ?_
     refine TL.rows0 Ei 2 ?_
     refine TL.rowsPush 0 3 rfl rfl ?_
     refine TL.rowsPush 3 2 rfl rfl ?_
     refine TL.matmk 1 2 rfl rfl ?_
     refine TL.asL [emp, emp, mat Ei 2 22 s12 ([s10, s11] : List SV) ([([1, 2, (-3)] : List Int), ([3, 1, (-2)] : List Int)] : List (List Int)), emp] (by kernel_rfl) ?_
     refine TL.assign rfl rfl (v := SV.v s12) rfl ?_
     refine TL.assign rfl rfl (v := .int .i64 0) rfl ?_
     refine TL.done ?_
     exact TC.retF (Fin.body (fin2 (.inr rfl) rfl (.tmp rfl) (.tmp rfl) [2] rfl ⟨s12, ([s10, s11] : List SV), rfl, rfl⟩))
    ·refine TC.seq ?_
     refine TC.region ?_
     refine TL.strEq name1 ([100, 111, 117, 98, 108, 101] : Str) rfl rfl rfl rfl ?_
     refine TL.assign rfl rfl (v := .bool (name1 == ([100, 111, 117, 98, 108, 101] : Str))) rfl ?_
     refine TL.done ?_
     refine TC.cond (b := (name1 == ([100, 111, 117, 98, 108, 101] : Str))) rfl (fun c9 => ?_) (fun c10 => ?_)
     ·refine TC.seq ?_
      refine TC.region ?_
      refine TL.blit Ei ([1, 2, (-5)] : List Int) Try.underlying22 Try.sizeOf2 Try.zeroValue2 rfl rfl rfl [(0, .int .i64 1), (1, .int .i64 2), (2, .int .i64 (-5))] rfl ⟨rfl, rfl, rfl, rfl, rfl, rfl, trivial⟩ rfl rfl fun s13 => ?_
      refine TL.blit Ei ([5, (-1), 6] : List Int) Try.underlying22 Try.sizeOf2 Try.zeroValue2 rfl rfl rfl [(0, .int .i64 5), (1, .int .i64 (-1)), (2, .int .i64 6)] rfl ⟨rfl, rfl, rfl, rfl, rfl, rfl, trivial⟩ rfl rfl fun s14 => ?_
      refine TL.blit Ei ([(-6), (-2), 7] : List Int) Try.underlying22 Try.sizeOf2 Try.zeroValue2 rfl rfl rfl [(0, .int .i64 (-6)), (1, .int .i64 (-2)), (2, .int .i64 7)] rfl ⟨rfl, rfl, rfl, rfl, rfl, rfl, trivial⟩ rfl rfl fun s15 => ?_
      refine TL.blit Ei ([(-7), 3, 8] : List Int) Try.underlying22 Try.sizeOf2 Try.zeroValue2 rfl rfl rfl [(0, .int .i64 (-7)), (1, .int .i64 3), (2, .int .i64 8)] rfl ⟨rfl, rfl, rfl, rfl, rfl, rfl, trivial⟩ rfl rfl fun s16 => ?_
      refine TL.blit Ei ([(-8), 4, 9] : List Int) Try.underlying22 Try.sizeOf2 Try.zeroValue2 rfl rfl rfl [(0, .int .i64 (-8)), (1, .int .i64 4), (2, .int .i64 9)] rfl ⟨rfl, rfl, rfl, rfl, rfl, rfl, trivial⟩ rfl rfl fun s17 => ?_
      refine TL.blit Ei ([(-9), (-3), (-4)] : List Int) Try.underlying22 Try.sizeOf2 Try.zeroValue2 rfl rfl rfl [(0, .int .i64 (-9)), (1, .int .i64 (-3)), (2, .int .i64 (-4))] rfl ⟨rfl, rfl, rfl, rfl, rfl, rfl, trivial⟩ rfl rfl fun s18 => ?_
      refine TL.blit Ev ([s13, s14, s15, s16, s17, s18] : List SV) Try.underlying32 Try.sizeOf22 Try.zeroValue22 rfl rfl rfl [(0, SV.v s13), (1, SV.v s14), (2, SV.v s15), (3, SV.v s16), (4, SV.v s17), (5, SV.v s18)] rfl ⟨rfl, rfl, rfl, rfl, rfl, rfl, rfl, rfl, rfl, rfl, rfl, rfl, trivial⟩ rfl rfl fun s19 => ?_
      refine TL.rows0 Ei 2 ?_
      refine TL.rowsPush 0 7 rfl rfl ?_
      refine TL.rowsPush 7 6 rfl rfl ?_
      refine TL.rowsPush 6 5 rfl rfl ?_
      refine TL.rowsPush 5 4 rfl rfl ?_
      refine TL.rowsPush 4 3 rfl rfl ?_
      refine TL.rowsPush 3 2 rfl rfl ?_
      refine TL.matmk 1 2 rfl rfl ?_
      refine TL.asL [emp, emp, mat Ei 2 22 s19 ([s13, s14, s15, s16, s17, s18] : List SV) ([([1, 2, (-5)] : List Int), ([5, (-1), 6] : List Int), ([(-6), (-2), 7] : List Int), ([(-7), 3, 8] : List Int), ([(-8), 4, 9] : List Int), ([(-9), (-3), (-4)] : List Int)] : List (List Int)), emp, emp, emp, emp, emp] (by kernel_rfl) ?_
      refine TL.assign rfl rfl (v := SV.v s19) rfl ?_
      refine TL.assign rfl rfl (v := .int .i64 0) rfl ?_
      refine TL.done ?_
      exact TC.retF (Fin.body (fin2 (.inr rfl) rfl (.tmp rfl) (.tmp rfl) [2] rfl ⟨s19, ([s13, s14, s15, s16, s17, s18] : List SV), rfl, rfl⟩))
     ·refine TC.skip ?_
      refine TC.seq ?_
      refine TC.region ?_
      refine TL.assign rfl rfl (v := SV.v ⟨none, 0, 0⟩) rfl ?_
      refine TL.assign rfl rfl (v := .int .i64 4) rfl ?_
      refine TL.done ?_
      refine TC.nilmat Ei 2 22 ?_
      exact TC.retF (Fin.body (fin2 (.inr rfl) rfl (.tmp rfl) (.tmp rfl) [0] rfl ⟨⟨none, 0, 0⟩, [], rfl, rfl⟩))

end Go.Proofs.Ytiiljfpbcanphaa.G

/- spec.NamedSurface, as a pure function. -/
set_option linter.unusedVariables false
namespace Go.Proofs.Ytiiljfpbcanphaa.G
open Go Go.Sx Go.Proofs

def spec_NamedSurface.f (name1 : Str) : Option ((List (List Int)) × Int) := (G.spec_l07Named.f name1).bind (fun p => match p with | (r_1, r_2) => (bif (!r_2) then some (([] : List (List Int)), 4) else some (r_1, 0)))

def spec_NamedSurface.R (r : (List (List Int)) × Int) (v : Value) (L : List Asn) : Prop := ∃ (s0 : SV) (ss0 : List SV), v = .tuple #[SV.v s0, .int .i64 r.2] ∧ L = [mat Ei 2 22 s0 ss0 r.1]

set_option maxRecDepth 100000 in
set_option maxHeartbeats 4000000 in
theorem spec_NamedSurface.calls (w : World) (name1 : Str) :
  ∀ r, spec_NamedSurface.f name1 = some r → Calls Try.prog 61 #[strv name1] w (Ret w (spec_NamedSurface.R r)) := by

 refine calls_T (n := 14) (Γ := [(0, strv name1)]) (R := spec_NamedSurface.R) Try.func61 rfl rfl (Nat.le_of_ble_eq_true rfl) ⟨rfl, trivial⟩ ?_
 unfold spec_NamedSurface.f
 refine TC.seq ?_
 refine TC.region ?_
 refine TL.assign rfl rfl (v := SV.v ⟨none, 0, 0⟩) rfl ?_
 refine TL.assign rfl rfl (v := .int .i64 0) rfl ?_
 refine TL.done ?_
 refine TC.seq ?_
 refine TC.region ?_
 refine TL.move rfl rfl (v := strv name1) rfl ?_
 refine TL.call (R := G.spec_l07Named.R) Try.call136 rfl rfl rfl (fun w hS => G.spec_l07Named.calls w name1) ?_
 rintro ⟨r_1, r_2⟩ _ _ ⟨s1, ss1, rfl, rfl⟩
 refine TL.move rfl rfl (v := .tuple #[SV.v s1, .bool r_2]) rfl ?_
 refine TL.extract rfl rfl rfl (v := SV.v s1) rfl ?_
 refine TL.extract rfl rfl rfl (v := .bool r_2) rfl ?_
 refine TL.assign rfl rfl (v := SV.v s1) rfl ?_
 refine TL.assign rfl rfl (v := .bool r_2) rfl ?_
 refine TL.done ?_
 refine TC.seq ?_
 refine TC.seq ?_
 refine TC.region ?_
 refine TL.move rfl rfl (v := .bool r_2) rfl ?_
 refine TL.not r_2 rfl rfl rfl ?_
 refine TL.done ?_
 refine TC.cond (b := (!r_2)) rfl (fun c1 => ?_) (fun c2 => ?_)
 ·refine TC.seq ?_
  refine TC.region ?_
  refine TL.assign rfl rfl (v := SV.v ⟨none, 0, 0⟩) rfl ?_
  refine TL.assign rfl rfl (v := .int .i64 4) rfl ?_
  refine TL.done ?_
  refine TC.nilmat Ei 2 22 ?_
  exact TC.retF (Fin.body (fin2 (.inr rfl) rfl (.tmp rfl) (.tmp rfl) [0] rfl ⟨⟨none, 0, 0⟩, [], rfl, rfl⟩))
 ·refine TC.skip ?_
  refine TC.seq ?_
  refine TC.region ?_
  refine TL.move rfl rfl (v := SV.v s1) rfl ?_
  refine TL.assign rfl rfl (v := SV.v s1) rfl ?_
  refine TL.assign rfl rfl (v := .int .i64 0) rfl ?_
  refine TL.done ?_
  exact TC.retF (Fin.body (fin2 (.inr rfl) rfl (.tmp rfl) (.tmp rfl) [0] rfl ⟨s1, ss1, rfl, rfl⟩))

end Go.Proofs.Ytiiljfpbcanphaa.G

/- spec.DrawEulerNumber, as a pure function. -/
set_option linter.unusedVariables false
namespace Go.Proofs.Ytiiljfpbcanphaa.G
open Go Go.Sx Go.Proofs

def spec_DrawEulerNumber.f (code1 : List UInt8) : Option (List (List Int)) := (G.spec_l01From.f code1).bind (fun p => match p with | (r_1, r_2) => (G.spec_l07Spoil.f code1 r_1 r_2).bind (fun p => match p with | (r_3, y1, y2) => some r_3))

def spec_DrawEulerNumber.R (r : List (List Int)) (v : Value) (L : List Asn) : Prop := ∃ (s0 : SV) (ss0 : List SV), v = SV.v s0 ∧ L = [mat Ei 2 22 s0 ss0 r]

set_option maxRecDepth 100000 in
set_option maxHeartbeats 4000000 in
theorem spec_DrawEulerNumber.calls (w : World) (s1 : SV) (code1 : List UInt8) (h1 : Reads Eu (hp w) s1 code1) :
  ∀ r, spec_DrawEulerNumber.f code1 = some r → Calls Try.prog 62 #[SV.v s1] w (Ret w (spec_DrawEulerNumber.R r)) := by

 refine calls_T (n := 6) (Γ := [(0, SV.v s1)]) (R := spec_DrawEulerNumber.R) Try.func62 rfl rfl (Nat.le_of_ble_eq_true rfl) ⟨rfl, trivial⟩ ?_
 unfold spec_DrawEulerNumber.f
 refine TC.seq ?_
 refine TC.region ?_
 refine TL.assign rfl rfl (v := SV.v ⟨none, 0, 0⟩) rfl ?_
 refine TL.done ?_
 refine TC.seq ?_
 refine TC.region ?_
 refine TL.move rfl rfl (v := SV.v s1) rfl ?_
 refine TL.call (R := G.spec_l01From.R s1) Try.call115 rfl rfl rfl (fun w hS => G.spec_l01From.calls w s1 code1 ((Rd.old h1) w hS)) ?_
 rintro ⟨r_1, r_2⟩ _ _ ⟨b_1, rfl, rfl⟩
 refine TL.callX (R := G.spec_l07Spoil.R b_1 s1) [0] [box b_1 143 [.one (SV.v s1), .one (.int .i64 r_1), .one (.int .u64 r_2)]] [] rfl Try.call116 rfl rfl rfl (fun w I_ hle hB hS => G.spec_l07Spoil.calls _ I_ w b_1 s1 code1 r_1 r_2 hS (h1.mono hle)) ?_
 rintro ⟨r_3, y1, y2⟩ _ _ ⟨s2, ss1, rfl, rfl⟩
 refine TL.assign rfl rfl (v := SV.v s2) rfl ?_
 refine TL.done ?_
 exact TC.retF (Fin.body (fin1 (.inr rfl) rfl (.tmp rfl) [0] rfl ⟨s2, ss1, rfl, rfl⟩))

end Go.Proofs.Ytiiljfpbcanphaa.G

/- spec.EulerNumber, as a pure function. -/
set_option linter.unusedVariables false
namespace Go.Proofs.Ytiiljfpbcanphaa.G
open Go Go.Sx Go.Proofs

def spec_EulerNumber.f (s1 : List (List Int)) : Option (Int × Int) := (G.spec_l07Is.f s1).bind (fun r_1 => (bif (!r_1) then some (0, 1) else (G.spec_l07Euler.f s1).bind (fun r_2 => some (r_2, 0))))

def spec_EulerNumber.R (r : Int × Int) (v : Value) (L : List Asn) : Prop := v = .tuple #[.int .i64 r.1, .int .i64 r.2] ∧ L = []

set_option maxRecDepth 100000 in
set_option maxHeartbeats 4000000 in
theorem spec_EulerNumber.calls (w : World) (s2 : SV) (ss1 : List SV) (s1 : List (List Int)) (h1 : ReadsM Ei (hp w) s2 ss1 s1) :
  ∀ r, spec_EulerNumber.f s1 = some r → Calls Try.prog 63 #[SV.v s2] w (Ret w (spec_EulerNumber.R r)) := by

 refine calls_T (n := 9) (Γ := [(0, SV.v s2)]) (R := spec_EulerNumber.R) Try.func63 rfl rfl (Nat.le_of_ble_eq_true rfl) ⟨rfl, trivial⟩ ?_
 unfold spec_EulerNumber.f
 refine TC.seq ?_
 refine TC.region ?_
 refine TL.assign rfl rfl (v := .int .i64 0) rfl ?_
 refine TL.assign rfl rfl (v := .int .i64 0) rfl ?_
 refine TL.done ?_
 refine TC.seq ?_
 refine TC.seq ?_
 refine TC.region ?_
 refine TL.move rfl rfl (v := SV.v s2) rfl ?_
 refine TL.call (R := G.spec_l07Is.R) Try.call100 rfl rfl rfl (fun w hS => G.spec_l07Is.calls w s2 ss1 s1 ((RdM.old h1) w hS)) ?_
 rintro r_1 _ _ ⟨rfl, rfl⟩
 refine TL.not r_1 rfl rfl rfl ?_
 refine TL.done ?_
 refine TC.cond (b := (!r_1)) rfl (fun c1 => ?_) (fun c2 => ?_)
 ·refine TC.seq ?_
  refine TC.region ?_
  refine TL.assign rfl rfl (v := .int .i64 0) rfl ?_
  refine TL.assign rfl rfl (v := .int .i64 1) rfl ?_
  refine TL.done ?_
  exact TC.retF (Fin.body (fin2 (.inr rfl) rfl (.tmp rfl) (.tmp rfl) [] rfl ⟨rfl, rfl⟩))
 ·refine TC.skip ?_
  refine TC.seq ?_
  refine TC.region ?_
  refine TL.move rfl rfl (v := SV.v s2) rfl ?_
  refine TL.call (R := G.spec_l07Euler.R) Try.call135 rfl rfl rfl (fun w hS => G.spec_l07Euler.calls w s2 ss1 s1 ((RdM.old h1) w hS)) ?_
  rintro r_2 _ _ ⟨rfl, rfl⟩
  refine TL.assign rfl rfl (v := .int .i64 r_2) rfl ?_
  refine TL.assign rfl rfl (v := .int .i64 0) rfl ?_
  refine TL.done ?_
  exact TC.retF (Fin.body (fin2 (.inr rfl) rfl (.tmp rfl) (.tmp rfl) [] rfl ⟨rfl, rfl⟩))

end Go.Proofs.Ytiiljfpbcanphaa.G

/- spec.DrawCountVertices, as a pure function. -/
set_option linter.unusedVariables false
namespace Go.Proofs.Ytiiljfpbcanphaa.G
open Go Go.Sx Go.Proofs

def spec_DrawCountVertices.f (code1 : List UInt8) : Option (List (List Int)) := (G.spec_l01From.f code1).bind (fun p => match p with | (r_1, r_2) => (G.spec_l07Spoil.f code1 r_1 r_2).bind (fun p => match p with | (r_3, y1, y2) => some r_3))

def spec_DrawCountVertices.R (r : List (List Int)) (v : Value) (L : List Asn) : Prop := ∃ (s0 : SV) (ss0 : List SV), v = SV.v s0 ∧ L = [mat Ei 2 22 s0 ss0 r]

set_option maxRecDepth 100000 in
set_option maxHeartbeats 4000000 in
theorem spec_DrawCountVertices.calls (w : World) (s1 : SV) (code1 : List UInt8) (h1 : Reads Eu (hp w) s1 code1) :
  ∀ r, spec_DrawCountVertices.f code1 = some r → Calls Try.prog 64 #[SV.v s1] w (Ret w (spec_DrawCountVertices.R r)) := by

 refine calls_T (n := 6) (Γ := [(0, SV.v s1)]) (R := spec_DrawCountVertices.R) Try.func64 rfl rfl (Nat.le_of_ble_eq_true rfl) ⟨rfl, trivial⟩ ?_
 unfold spec_DrawCountVertices.f
 refine TC.seq ?_
 refine TC.region ?_
 refine TL.assign rfl rfl (v := SV.v ⟨none, 0, 0⟩) rfl ?_
 refine TL.done ?_
 refine TC.seq ?_
 refine TC.region ?_
 refine TL.move rfl rfl (v := SV.v s1) rfl ?_
 refine TL.call (R := G.spec_l01From.R s1) Try.call115 rfl rfl rfl (fun w hS => G.spec_l01From.calls w s1 code1 ((Rd.old h1) w hS)) ?_
 rintro ⟨r_1, r_2⟩ _ _ ⟨b_1, rfl, rfl⟩
 refine TL.callX (R := G.spec_l07Spoil.R b_1 s1) [0] [box b_1 143 [.one (SV.v s1), .one (.int .i64 r_1), .one (.int .u64 r_2)]] [] rfl Try.call116 rfl rfl rfl (fun w I_ hle hB hS => G.spec_l07Spoil.calls _ I_ w b_1 s1 code1 r_1 r_2 hS (h1.mono hle)) ?_
 rintro ⟨r_3, y1, y2⟩ _ _ ⟨s2, ss1, rfl, rfl⟩
 refine TL.assign rfl rfl (v := SV.v s2) rfl ?_
 refine TL.done ?_
 exact TC.retF (Fin.body (fin1 (.inr rfl) rfl (.tmp rfl) [0] rfl ⟨s2, ss1, rfl, rfl⟩))

end Go.Proofs.Ytiiljfpbcanphaa.G

/- spec.CountVertices, as a pure function. -/
set_option linter.unusedVariables false
namespace Go.Proofs.Ytiiljfpbcanphaa.G
open Go Go.Sx Go.Proofs

def spec_CountVertices.f (s1 : List (List Int)) : Option (Int × Int) := (G.spec_l07Is.f s1).bind (fun r_1 => (bif (!r_1) then some (0, 1) else (G.spec_l07Vertices.f s1).bind (fun r_2 => some (r_2, 0))))

def spec_CountVertices.R (r : Int × Int) (v : Value) (L : List Asn) : Prop := v = .tuple #[.int .i64 r.1, .int .i64 r.2] ∧ L = []

set_option maxRecDepth 100000 in
set_option maxHeartbeats 4000000 in
theorem spec_CountVertices.calls (w : World) (s2 : SV) (ss1 : List SV) (s1 : List (List Int)) (h1 : ReadsM Ei (hp w) s2 ss1 s1) :
  ∀ r, spec_CountVertices.f s1 = some r → Calls Try.prog 65 #[SV.v s2] w (Ret w (spec_CountVertices.R r)) := by

 refine calls_T (n := 9) (Γ := [(0, SV.v s2)]) (R := spec_CountVertices.R) Try.func65 rfl rfl (Nat.le_of_ble_eq_true rfl) ⟨rfl, trivial⟩ ?_
 unfold spec_CountVertices.f
 refine TC.seq ?_
 refine TC.region ?_
 refine TL.assign rfl rfl (v := .int .i64 0) rfl ?_
 refine TL.assign rfl rfl (v := .int .i64 0) rfl ?_
 refine TL.done ?_
 refine TC.seq ?_
 refine TC.seq ?_
 refine TC.region ?_
 refine TL.move rfl rfl (v := SV.v s2) rfl ?_
 refine TL.call (R := G.spec_l07Is.R) Try.call100 rfl rfl rfl (fun w hS => G.spec_l07Is.calls w s2 ss1 s1 ((RdM.old h1) w hS)) ?_
 rintro r_1 _ _ ⟨rfl, rfl⟩
 refine TL.not r_1 rfl rfl rfl ?_
 refine TL.done ?_
 refine TC.cond (b := (!r_1)) rfl (fun c1 => ?_) (fun c2 => ?_)
 ·refine TC.seq ?_
  refine TC.region ?_
  refine TL.assign rfl rfl (v := .int .i64 0) rfl ?_
  refine TL.assign rfl rfl (v := .int .i64 1) rfl ?_
  refine TL.done ?_
  exact TC.retF (Fin.body (fin2 (.inr rfl) rfl (.tmp rfl) (.tmp rfl) [] rfl ⟨rfl, rfl⟩))
 ·refine TC.skip ?_
  refine TC.seq ?_
  refine TC.region ?_
  refine TL.move rfl rfl (v := SV.v s2) rfl ?_
  refine TL.call (R := G.spec_l07Vertices.R) Try.call137 rfl rfl rfl (fun w hS => G.spec_l07Vertices.calls w s2 ss1 s1 ((RdM.old h1) w hS)) ?_
  rintro r_2 _ _ ⟨rfl, rfl⟩
  refine TL.assign rfl rfl (v := .int .i64 r_2) rfl ?_
  refine TL.assign rfl rfl (v := .int .i64 0) rfl ?_
  refine TL.done ?_
  exact TC.retF (Fin.body (fin2 (.inr rfl) rfl (.tmp rfl) (.tmp rfl) [] rfl ⟨rfl, rfl⟩))

end Go.Proofs.Ytiiljfpbcanphaa.G

/- spec.DrawIsOriented, as a pure function. -/
set_option linter.unusedVariables false
namespace Go.Proofs.Ytiiljfpbcanphaa.G
open Go Go.Sx Go.Proofs

def spec_DrawIsOriented.f (code1 : List UInt8) : Option (List (List Int)) := (G.spec_l01From.f code1).bind (fun p => match p with | (r_1, r_2) => (G.spec_l07Spoil.f code1 r_1 r_2).bind (fun p => match p with | (r_3, y1, y2) => some r_3))

def spec_DrawIsOriented.R (r : List (List Int)) (v : Value) (L : List Asn) : Prop := ∃ (s0 : SV) (ss0 : List SV), v = SV.v s0 ∧ L = [mat Ei 2 22 s0 ss0 r]

set_option maxRecDepth 100000 in
set_option maxHeartbeats 4000000 in
theorem spec_DrawIsOriented.calls (w : World) (s1 : SV) (code1 : List UInt8) (h1 : Reads Eu (hp w) s1 code1) :
  ∀ r, spec_DrawIsOriented.f code1 = some r → Calls Try.prog 66 #[SV.v s1] w (Ret w (spec_DrawIsOriented.R r)) := by

 refine calls_T (n := 6) (Γ := [(0, SV.v s1)]) (R := spec_DrawIsOriented.R) Try.func66 rfl rfl (Nat.le_of_ble_eq_true rfl) ⟨rfl, trivial⟩ ?_
 unfold spec_DrawIsOriented.f
 refine TC.seq ?_
 refine TC.region ?_
 refine TL.assign rfl rfl (v := SV.v ⟨none, 0, 0⟩) rfl ?_
 refine TL.done ?_
 refine TC.seq ?_
 refine TC.region ?_
 refine TL.move rfl rfl (v := SV.v s1) rfl ?_
 refine TL.call (R := G.spec_l01From.R s1) Try.call115 rfl rfl rfl (fun w hS => G.spec_l01From.calls w s1 code1 ((Rd.old h1) w hS)) ?_
 rintro ⟨r_1, r_2⟩ _ _ ⟨b_1, rfl, rfl⟩
 refine TL.callX (R := G.spec_l07Spoil.R b_1 s1) [0] [box b_1 143 [.one (SV.v s1), .one (.int .i64 r_1), .one (.int .u64 r_2)]] [] rfl Try.call116 rfl rfl rfl (fun w I_ hle hB hS => G.spec_l07Spoil.calls _ I_ w b_1 s1 code1 r_1 r_2 hS (h1.mono hle)) ?_
 rintro ⟨r_3, y1, y2⟩ _ _ ⟨s2, ss1, rfl, rfl⟩
 refine TL.assign rfl rfl (v := SV.v s2) rfl ?_
 refine TL.done ?_
 exact TC.retF (Fin.body (fin1 (.inr rfl) rfl (.tmp rfl) [0] rfl ⟨s2, ss1, rfl, rfl⟩))

end Go.Proofs.Ytiiljfpbcanphaa.G

/- spec.IsOriented, as a pure function. -/
set_option linter.unusedVariables false
namespace Go.Proofs.Ytiiljfpbcanphaa.G
open Go Go.Sx Go.Proofs

def spec_IsOriented.f (s1 : List (List Int)) : Option (Bool × Int) := (G.spec_l07Is.f s1).bind (fun r_1 => (bif (!r_1) then some (false, 1) else (G.spec_l07Oriented.f s1).bind (fun r_2 => some (r_2, 0))))

def spec_IsOriented.R (r : Bool × Int) (v : Value) (L : List Asn) : Prop := v = .tuple #[.bool r.1, .int .i64 r.2] ∧ L = []

set_option maxRecDepth 100000 in
set_option maxHeartbeats 4000000 in
theorem spec_IsOriented.calls (w : World) (s2 : SV) (ss1 : List SV) (s1 : List (List Int)) (h1 : ReadsM Ei (hp w) s2 ss1 s1) :
  ∀ r, spec_IsOriented.f s1 = some r → Calls Try.prog 67 #[SV.v s2] w (Ret w (spec_IsOriented.R r)) := by

 refine calls_T (n := 9) (Γ := [(0, SV.v s2)]) (R := spec_IsOriented.R) Try.func67 rfl rfl (Nat.le_of_ble_eq_true rfl) ⟨rfl, trivial⟩ ?_
 unfold spec_IsOriented.f
 refine TC.seq ?_
 refine TC.region ?_
 refine TL.assign rfl rfl (v := .bool false) rfl ?_
 refine TL.assign rfl rfl (v := .int .i64 0) rfl ?_
 refine TL.done ?_
 refine TC.seq ?_
 refine TC.seq ?_
 refine TC.region ?_
 refine TL.move rfl rfl (v := SV.v s2) rfl ?_
 refine TL.call (R := G.spec_l07Is.R) Try.call100 rfl rfl rfl (fun w hS => G.spec_l07Is.calls w s2 ss1 s1 ((RdM.old h1) w hS)) ?_
 rintro r_1 _ _ ⟨rfl, rfl⟩
 refine TL.not r_1 rfl rfl rfl ?_
 refine TL.done ?_
 refine TC.cond (b := (!r_1)) rfl (fun c1 => ?_) (fun c2 => ?_)
 ·refine TC.seq ?_
  refine TC.region ?_
  refine TL.assign rfl rfl (v := .bool false) rfl ?_
  refine TL.assign rfl rfl (v := .int .i64 1) rfl ?_
  refine TL.done ?_
  exact TC.retF (Fin.body (fin2 (.inr rfl) rfl (.tmp rfl) (.tmp rfl) [] rfl ⟨rfl, rfl⟩))
 ·refine TC.skip ?_
  refine TC.seq ?_
  refine TC.region ?_
  refine TL.move rfl rfl (v := SV.v s2) rfl ?_
  refine TL.call (R := G.spec_l07Oriented.R) Try.call121 rfl rfl rfl (fun w hS => G.spec_l07Oriented.calls w s2 ss1 s1 ((RdM.old h1) w hS)) ?_
  rintro r_2 _ _ ⟨rfl, rfl⟩
  refine TL.assign rfl rfl (v := .bool r_2) rfl ?_
  refine TL.assign rfl rfl (v := .int .i64 0) rfl ?_
  refine TL.done ?_
  exact TC.retF (Fin.body (fin2 (.inr rfl) rfl (.tmp rfl) (.tmp rfl) [] rfl ⟨rfl, rfl⟩))

end Go.Proofs.Ytiiljfpbcanphaa.G
