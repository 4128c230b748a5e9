/- impl.KnownGroup, as a pure function. -/
import Derived.Test.YtgljkechjkllgaaProg
import Derived.Test.YtgljkechjkllgaaSx9
import Derived.Test.YtgljkechjkllgaaQ62
import Derived.Test.YtgljkechjkllgaaQ63
import Derived.Test.YtgljkechjkllgaaQ64
import Derived.Test.YtgljkechjkllgaaQ65
import Derived.Test.YtgljkechjkllgaaQ66
set_option linter.unusedVariables false
namespace Go.Proofs.Ytgljkechjkllgaa.G
open Go Go.Sx Go.Proofs

def impl_KnownGroup.f (name1 : Str) : Option (Int × (Nat → UInt8) × Int) := (G.slices_Index_string_string.f ([([99, 49] : Str), ([99, 50] : Str), ([99, 51] : Str), ([99, 52] : Str), ([99, 53] : Str), ([99, 54] : Str)] : List Str) name1).bind (fun r_1 => (bif (decide ((w64 (r_1 + 1)) > 0)) then (G.impl_groupOf.f (w64 (r_1 + 1)) (fun x0_ x1_ => G.impl_KnownGroup_1.f x0_ x1_ (w64 (r_1 + 1)))).bind (fun p => match p with | (r_2, r_3) => some (r_2, r_3, 0)) else (bif (name1 == ([118, 52] : Str)) then (G.impl_groupOf.f 4 G.impl_KnownGroup_2.f).bind (fun p => match p with | (r_4, r_5) => some (r_4, r_5, 0)) else (bif (name1 == ([115, 51] : Str)) then (G.impl_groupOf.f 6 G.impl_KnownGroup_3.f).bind (fun p => match p with | (r_6, r_7) => some (r_6, r_7, 0)) else some (0, (fun _ => (0 : UInt8)), 4)))))

def impl_KnownGroup.R (r : Int × (Nat → UInt8) × Int) (v : Value) (L : List Asn) : Prop := v = .tuple #[sval [.one (.int .i64 r.1), .arr 36 (enf u8v r.2.1)], .int .i64 r.2.2] ∧ L = []

set_option maxRecDepth 100000 in
set_option maxHeartbeats 4000000 in
theorem impl_KnownGroup.calls (w : World) (name1 : Str) :
    ∀ r, impl_KnownGroup.f name1 = some r → Calls Try.prog 28 #[strv name1] w (Ret w (impl_KnownGroup.R r)) := by

  refine calls_T (n := 24) (Γ := [(0, strv name1)]) (R := impl_KnownGroup.R) Try.func28 rfl rfl (Nat.le_of_ble_eq_true rfl) ⟨rfl, trivial⟩ ?_
  unfold impl_KnownGroup.f
  refine TC.seq ?_
  refine TC.region ?_
  refine TL.alloc [.one (.int .i64 0), .arr 36 (enf u8v (fun _ => (0 : UInt8)))] rfl rfl Try.zeroValue38 rfl fun b_1 => ?_
  refine TL.assign rfl rfl (v := .int .i64 0) rfl ?_
  refine TL.done ?_
  refine TC.seq ?_
  refine TC.region ?_
  refine TL.blit Es ([([99, 49] : Str), ([99, 50] : Str), ([99, 51] : Str), ([99, 52] : Str), ([99, 53] : Str), ([99, 54] : Str)] : List Str) Try.underlying23 Try.sizeOf9 Try.zeroValue9 rfl rfl rfl [(0, strv ([99, 49] : Str)), (1, strv ([99, 50] : Str)), (2, strv ([99, 51] : Str)), (3, strv ([99, 52] : Str)), (4, strv ([99, 53] : Str)), (5, strv ([99, 54] : Str))] rfl ⟨rfl, rfl, rfl, rfl, rfl, rfl, rfl, rfl, rfl, rfl, rfl, rfl, trivial⟩ rfl rfl fun s1 => ?_
  refine TL.move rfl rfl (v := strv name1) rfl ?_
  refine TL.call (R := G.slices_Index_string_string.R) Try.call62 rfl rfl rfl (fun w hS => G.slices_Index_string_string.calls w s1 ([([99, 49] : Str), ([99, 50] : Str), ([99, 51] : Str), ([99, 52] : Str), ([99, 53] : Str), ([99, 54] : Str)] : List Str) name1 ((Rd.row 0 rfl) w hS)) ?_
  rintro r_1 _ _ ⟨rfl, rfl⟩
  refine TL.bin .i64 r_1 1 rfl rfl rfl rfl (v := .int .i64 (w64 (r_1 + 1))) rfl ?_
  refine TL.alloc [.one (.int .i64 0)] rfl rfl Try.zeroValue3 rfl fun b_2 => ?_
  refine TL.st1 0 0 rfl Try.sizeOf3 rfl rfl rfl rfl rfl rfl rfl ?_
  refine TL.done ?_
  refine TC.seq ?_
  refine TC.block NoEx.body ?_
  refine TC.seq ?_
  refine TC.region ?_
  refine TL.load1 0 (Src.box 0 rfl) Try.isAgg3 rfl rfl rfl rfl rfl ?_
  refine TL.bin .i64 (w64 (r_1 + 1)) 0 rfl rfl rfl rfl (v := .bool (decide ((w64 (r_1 + 1)) > 0))) rfl ?_
  refine TL.assign rfl rfl (v := .bool (decide ((w64 (r_1 + 1)) > 0))) rfl ?_
  refine TL.done ?_
  refine TC.cond (b := (decide ((w64 (r_1 + 1)) > 0))) rfl (fun c1 => ?_) (fun c2 => ?_)
  · refine TC.seq ?_
    refine TC.region ?_
    refine TL.load1 0 (Src.box 0 rfl) Try.isAgg3 rfl rfl rfl rfl rfl ?_
    refine TL.makeFunc rfl rfl (vs := [bp b_2 0]) rfl ?_
    refine TL.call (R := G.impl_groupOf.R) Try.call63 rfl rfl rfl (fun w hS => G.impl_groupOf.calls w (w64 (r_1 + 1)) 64 [bp b_2 0] (fun x0_ x1_ => G.impl_KnownGroup_1.f x0_ x1_ (w64 (r_1 + 1))) Try.call64 (fun w_ hle_ x0_ x1_ r_ hr_ => G.impl_KnownGroup_1.calls w_ x0_ x1_ b_2 (w64 (r_1 + 1)) (((Src.box 0 rfl) w hS).mono hle_) r_ hr_)) ?_
    rintro ⟨r_2, r_3⟩ _ _ ⟨rfl, rfl⟩
    refine TL.stM (news := [.one (.int .i64 r_2), .arr 36 (enf u8v r_3)]) 2 0 2 rfl Try.sizeOf38 (ones_one rfl (ones_arr (fun _ => rfl) ones_nil)) rfl rfl rfl rfl rfl rfl ?_
    refine TL.assign rfl rfl (v := .int .i64 0) rfl ?_
    refine TL.done ?_
    exact TC.retF (Fin.body (fin2 (.inr rfl) rfl (.cellN rfl (Src.box 2 rfl) Try.isAgg38 Try.sizeOf38 rfl) (.tmp rfl) [] rfl ⟨rfl, rfl⟩))
  · refine TC.seq ?_
    refine TC.region ?_
    refine TL.move rfl rfl (v := strv name1) rfl ?_
    refine TL.strEq name1 ([118, 52] : Str) rfl rfl rfl rfl ?_
    refine TL.assign rfl rfl (v := .bool (name1 == ([118, 52] : Str))) rfl ?_
    refine TL.done ?_
    refine TC.cond (b := (name1 == ([118, 52] : Str))) rfl (fun c3 => ?_) (fun c4 => ?_)
    · refine TC.seq ?_
      refine TC.region ?_
      refine TL.call (R := G.impl_groupOf.R) Try.call63 rfl rfl rfl (fun w hS => G.impl_groupOf.calls w 4 65 [] G.impl_KnownGroup_2.f Try.call65 (fun w_ hle_ x0_ x1_ r_ hr_ => G.impl_KnownGroup_2.calls w_ x0_ x1_ r_ hr_)) ?_
      rintro ⟨r_4, r_5⟩ _ _ ⟨rfl, rfl⟩
      refine TL.stM (news := [.one (.int .i64 r_4), .arr 36 (enf u8v r_5)]) 2 0 2 rfl Try.sizeOf38 (ones_one rfl (ones_arr (fun _ => rfl) ones_nil)) rfl rfl rfl rfl rfl rfl ?_
      refine TL.assign rfl rfl (v := .int .i64 0) rfl ?_
      refine TL.done ?_
      exact TC.retF (Fin.body (fin2 (.inr rfl) rfl (.cellN rfl (Src.box 2 rfl) Try.isAgg38 Try.sizeOf38 rfl) (.tmp rfl) [] rfl ⟨rfl, rfl⟩))
    · refine TC.seq ?_
      refine TC.region ?_
      refine TL.move rfl rfl (v := strv name1) rfl ?_
      refine TL.strEq name1 ([115, 51] : Str) rfl rfl rfl rfl ?_
      refine TL.assign rfl rfl (v := .bool (name1 == ([115, 51] : Str))) rfl ?_
      refine TL.done ?_
      refine TC.cond (b := (name1 == ([115, 51] : Str))) rfl (fun c5 => ?_) (fun c6 => ?_)
      · refine TC.seq ?_
        refine TC.region ?_
        refine TL.call (R := G.impl_groupOf.R) Try.call63 rfl rfl rfl (fun w hS => G.impl_groupOf.calls w 6 66 [] G.impl_KnownGroup_3.f Try.call66 (fun w_ hle_ x0_ x1_ r_ hr_ => G.impl_KnownGroup_3.calls w_ x0_ x1_ r_ hr_)) ?_
        rintro ⟨r_6, r_7⟩ _ _ ⟨rfl, rfl⟩
        refine TL.stM (news := [.one (.int .i64 r_6), .arr 36 (enf u8v r_7)]) 2 0 2 rfl Try.sizeOf38 (ones_one rfl (ones_arr (fun _ => rfl) ones_nil)) rfl rfl rfl rfl rfl rfl ?_
        refine TL.assign rfl rfl (v := .int .i64 0) rfl ?_
        refine TL.done ?_
        exact TC.retF (Fin.body (fin2 (.inr rfl) rfl (.cellN rfl (Src.box 2 rfl) Try.isAgg38 Try.sizeOf38 rfl) (.tmp rfl) [] rfl ⟨rfl, rfl⟩))
      · refine TC.skip ?_
        refine TC.seq ?_
        refine TC.region ?_
        refine TL.buildS (segs0 := [.one (.int .i64 0), .arr 36 (enf u8v (fun _ => (0 : UInt8)))]) (segs := [.one (.int .i64 0), .arr 36 (enf u8v (fun _ => (0 : UInt8)))]) [1, 36] Try.underlying38 ⟨Try.sizeOf2, Try.sizeOf34, trivial⟩ Try.zeroValue38 rfl [] rfl (fun pl hpl => by subst hpl; exact rfl) rfl rfl ?_
        refine TL.stM (news := [.one (.int .i64 0), .arr 36 (enf u8v (fun _ => (0 : UInt8)))]) 2 0 2 rfl Try.sizeOf38 (ones_one rfl (ones_arr (fun _ => rfl) ones_nil)) rfl rfl rfl rfl rfl rfl ?_
        refine TL.assign rfl rfl (v := .int .i64 4) rfl ?_
        refine TL.done ?_
        exact TC.retF (Fin.body (fin2 (.inr rfl) rfl (.cellN rfl (Src.box 2 rfl) Try.isAgg38 Try.sizeOf38 rfl) (.tmp rfl) [] rfl ⟨rfl, rfl⟩))

end Go.Proofs.Ytgljkechjkllgaa.G
