/- spec.l07Named, as a pure function. -/
import Derived.Test.YtgljkechjkllgaaProg
import Derived.Test.YtgljkechjkllgaaSx9
set_option linter.unusedVariables false
namespace Go.Proofs.Ytgljkechjkllgaa.G
open Go Go.Sx Go.Proofs

def spec_l07Named.f (name1 : Str) : Option ((List (List Int)) × Bool) := (bif (name1 == ([115, 112, 104, 101, 114, 101] : Str)) then some (([([1, 2, 3] : List Int), ([(-3), (-2), (-1)] : List Int)] : List (List Int)), true) else (bif (name1 == ([116, 111, 114, 117, 115] : Str)) then some (([([1, 2, (-3)] : List Int), ([3, (-1), (-2)] : List Int)] : List (List Int)), true) else (bif (name1 == ([112, 108, 97, 110, 101] : Str)) then some (([([1, 2, (-3)] : List Int), ([3, 1, 2] : List Int)] : List (List Int)), true) else (bif (name1 == ([98, 111, 116, 116, 108, 101] : Str)) then some (([([1, 2, (-3)] : List Int), ([3, 1, (-2)] : List Int)] : List (List Int)), true) else (bif (name1 == ([100, 111, 117, 98, 108, 101] : Str)) then some (([([1, 2, (-5)] : List Int), ([5, (-1), 6] : List Int), ([(-6), (-2), 7] : List Int), ([(-7), 3, 8] : List Int), ([(-8), 4, 9] : List Int), ([(-9), (-3), (-4)] : List Int)] : List (List Int)), true) else some (([] : List (List Int)), false))))))

def spec_l07Named.R (r : (List (List Int)) × Bool) (v : Value) (L : List Asn) : Prop := ∃ (s0 : SV) (ss0 : List SV), v = .tuple #[SV.v s0, .bool r.2] ∧ L = [mat Ei 2 44 s0 ss0 r.1]

set_option maxRecDepth 100000 in
set_option maxHeartbeats 4000000 in
theorem spec_l07Named.calls (w : World) (name1 : Str) :
    ∀ r, spec_l07Named.f name1 = some r → Calls Try.prog 53 #[strv name1] w (Ret w (spec_l07Named.R r)) := by

  refine calls_T (n := 34) (Γ := [(0, strv name1)]) (R := spec_l07Named.R) Try.func53 rfl rfl (Nat.le_of_ble_eq_true rfl) ⟨rfl, trivial⟩ ?_
  unfold spec_l07Named.f
  refine TC.seq ?_
  refine TC.region ?_
  refine TL.assign rfl rfl (v := SV.v ⟨none, 0, 0⟩) rfl ?_
  refine TL.assign rfl rfl (v := .bool false) rfl ?_
  refine TL.done ?_
  refine TC.seq ?_
  refine TC.seq ?_
  refine TC.region ?_
  refine TL.move rfl rfl (v := strv name1) rfl ?_
  refine TL.done ?_
  refine TC.block NoEx.body ?_
  refine TC.seq ?_
  refine TC.region ?_
  refine TL.strEq name1 ([115, 112, 104, 101, 114, 101] : Str) rfl rfl rfl rfl ?_
  refine TL.assign rfl rfl (v := .bool (name1 == ([115, 112, 104, 101, 114, 101] : Str))) rfl ?_
  refine TL.done ?_
  refine TC.cond (b := (name1 == ([115, 112, 104, 101, 114, 101] : Str))) rfl (fun c1 => ?_) (fun c2 => ?_)
  · refine TC.seq ?_
    refine TC.region ?_
    refine TL.blit Ei ([1, 2, 3] : List Int) Try.underlying44 Try.sizeOf2 Try.zeroValue2 rfl rfl rfl [(0, .int .i64 1), (1, .int .i64 2), (2, .int .i64 3)] rfl ⟨rfl, rfl, rfl, rfl, rfl, rfl, trivial⟩ rfl rfl fun s1 => ?_
    refine TL.blit Ei ([(-3), (-2), (-1)] : List Int) Try.underlying44 Try.sizeOf2 Try.zeroValue2 rfl rfl rfl [(0, .int .i64 (-3)), (1, .int .i64 (-2)), (2, .int .i64 (-1))] rfl ⟨rfl, rfl, rfl, rfl, rfl, rfl, trivial⟩ rfl rfl fun s2 => ?_
    refine TL.blit Ev ([s1, s2] : List SV) Try.underlying27 Try.sizeOf44 Try.zeroValue44 rfl rfl rfl [(0, SV.v s1), (1, SV.v s2)] rfl ⟨rfl, rfl, rfl, rfl, trivial⟩ rfl rfl fun s3 => ?_
    refine TL.rows0 Ei 2 ?_
    refine TL.rowsPush 0 3 rfl rfl ?_
    refine TL.rowsPush 3 2 rfl rfl ?_
    refine TL.matmk 1 2 rfl rfl ?_
    refine TL.asL [emp, emp, mat Ei 2 44 s3 ([s1, s2] : List SV) ([([1, 2, 3] : List Int), ([(-3), (-2), (-1)] : List Int)] : List (List Int)), emp] rfl ?_
    refine TL.assign rfl rfl (v := SV.v s3) rfl ?_
    refine TL.assign rfl rfl (v := .bool true) rfl ?_
    refine TL.done ?_
    exact TC.retF (Fin.body (fin2 (.inr rfl) rfl (.tmp rfl) (.tmp rfl) [2] rfl ⟨s3, ([s1, s2] : List SV), rfl, rfl⟩))
  · refine TC.seq ?_
    refine TC.region ?_
    refine TL.strEq name1 ([116, 111, 114, 117, 115] : Str) rfl rfl rfl rfl ?_
    refine TL.assign rfl rfl (v := .bool (name1 == ([116, 111, 114, 117, 115] : Str))) rfl ?_
    refine TL.done ?_
    refine TC.cond (b := (name1 == ([116, 111, 114, 117, 115] : Str))) rfl (fun c3 => ?_) (fun c4 => ?_)
    · refine TC.seq ?_
      refine TC.region ?_
      refine TL.blit Ei ([1, 2, (-3)] : List Int) Try.underlying44 Try.sizeOf2 Try.zeroValue2 rfl rfl rfl [(0, .int .i64 1), (1, .int .i64 2), (2, .int .i64 (-3))] rfl ⟨rfl, rfl, rfl, rfl, rfl, rfl, trivial⟩ rfl rfl fun s4 => ?_
      refine TL.blit Ei ([3, (-1), (-2)] : List Int) Try.underlying44 Try.sizeOf2 Try.zeroValue2 rfl rfl rfl [(0, .int .i64 3), (1, .int .i64 (-1)), (2, .int .i64 (-2))] rfl ⟨rfl, rfl, rfl, rfl, rfl, rfl, trivial⟩ rfl rfl fun s5 => ?_
      refine TL.blit Ev ([s4, s5] : List SV) Try.underlying27 Try.sizeOf44 Try.zeroValue44 rfl rfl rfl [(0, SV.v s4), (1, SV.v s5)] rfl ⟨rfl, rfl, rfl, rfl, trivial⟩ rfl rfl fun s6 => ?_
      refine TL.rows0 Ei 2 ?_
      refine TL.rowsPush 0 3 rfl rfl ?_
      refine TL.rowsPush 3 2 rfl rfl ?_
      refine TL.matmk 1 2 rfl rfl ?_
      refine TL.asL [emp, emp, mat Ei 2 44 s6 ([s4, s5] : List SV) ([([1, 2, (-3)] : List Int), ([3, (-1), (-2)] : List Int)] : List (List Int)), emp] rfl ?_
      refine TL.assign rfl rfl (v := SV.v s6) rfl ?_
      refine TL.assign rfl rfl (v := .bool true) rfl ?_
      refine TL.done ?_
      exact TC.retF (Fin.body (fin2 (.inr rfl) rfl (.tmp rfl) (.tmp rfl) [2] rfl ⟨s6, ([s4, s5] : List SV), rfl, rfl⟩))
    · refine TC.seq ?_
      refine TC.region ?_
      refine TL.strEq name1 ([112, 108, 97, 110, 101] : Str) rfl rfl rfl rfl ?_
      refine TL.assign rfl rfl (v := .bool (name1 == ([112, 108, 97, 110, 101] : Str))) rfl ?_
      refine TL.done ?_
      refine TC.cond (b := (name1 == ([112, 108, 97, 110, 101] : Str))) rfl (fun c5 => ?_) (fun c6 => ?_)
      · refine TC.seq ?_
        refine TC.region ?_
        refine TL.blit Ei ([1, 2, (-3)] : List Int) Try.underlying44 Try.sizeOf2 Try.zeroValue2 rfl rfl rfl [(0, .int .i64 1), (1, .int .i64 2), (2, .int .i64 (-3))] rfl ⟨rfl, rfl, rfl, rfl, rfl, rfl, trivial⟩ rfl rfl fun s7 => ?_
        refine TL.blit Ei ([3, 1, 2] : List Int) Try.underlying44 Try.sizeOf2 Try.zeroValue2 rfl rfl rfl [(0, .int .i64 3), (1, .int .i64 1), (2, .int .i64 2)] rfl ⟨rfl, rfl, rfl, rfl, rfl, rfl, trivial⟩ rfl rfl fun s8 => ?_
        refine TL.blit Ev ([s7, s8] : List SV) Try.underlying27 Try.sizeOf44 Try.zeroValue44 rfl rfl rfl [(0, SV.v s7), (1, SV.v s8)] rfl ⟨rfl, rfl, rfl, rfl, trivial⟩ rfl rfl fun s9 => ?_
        refine TL.rows0 Ei 2 ?_
        refine TL.rowsPush 0 3 rfl rfl ?_
        refine TL.rowsPush 3 2 rfl rfl ?_
        refine TL.matmk 1 2 rfl rfl ?_
        refine TL.asL [emp, emp, mat Ei 2 44 s9 ([s7, s8] : List SV) ([([1, 2, (-3)] : List Int), ([3, 1, 2] : List Int)] : List (List Int)), emp] rfl ?_
        refine TL.assign rfl rfl (v := SV.v s9) rfl ?_
        refine TL.assign rfl rfl (v := .bool true) rfl ?_
        refine TL.done ?_
        exact TC.retF (Fin.body (fin2 (.inr rfl) rfl (.tmp rfl) (.tmp rfl) [2] rfl ⟨s9, ([s7, s8] : List SV), rfl, rfl⟩))
      · refine TC.seq ?_
        refine TC.region ?_
        refine TL.strEq name1 ([98, 111, 116, 116, 108, 101] : Str) rfl rfl rfl rfl ?_
        refine TL.assign rfl rfl (v := .bool (name1 == ([98, 111, 116, 116, 108, 101] : Str))) rfl ?_
        refine TL.done ?_
        refine TC.cond (b := (name1 == ([98, 111, 116, 116, 108, 101] : Str))) rfl (fun c7 => ?_) (fun c8 => ?_)
        · refine TC.seq ?_
          refine TC.region ?_
          refine TL.blit Ei ([1, 2, (-3)] : List Int) Try.underlying44 Try.sizeOf2 Try.zeroValue2 rfl rfl rfl [(0, .int .i64 1), (1, .int .i64 2), (2, .int .i64 (-3))] rfl ⟨rfl, rfl, rfl, rfl, rfl, rfl, trivial⟩ rfl rfl fun s10 => ?_
          refine TL.blit Ei ([3, 1, (-2)] : List Int) Try.underlying44 Try.sizeOf2 Try.zeroValue2 rfl rfl rfl [(0, .int .i64 3), (1, .int .i64 1), (2, .int .i64 (-2))] rfl ⟨rfl, rfl, rfl, rfl, rfl, rfl, trivial⟩ rfl rfl fun s11 => ?_
          refine TL.blit Ev ([s10, s11] : List SV) Try.underlying27 Try.sizeOf44 Try.zeroValue44 rfl rfl rfl [(0, SV.v s10), (1, SV.v s11)] rfl ⟨rfl, rfl, rfl, rfl, trivial⟩ rfl rfl fun s12 => ?_
          refine TL.rows0 Ei 2 ?_
          refine TL.rowsPush 0 3 rfl rfl ?_
          refine TL.rowsPush 3 2 rfl rfl ?_
          refine TL.matmk 1 2 rfl rfl ?_
          refine TL.asL [emp, emp, mat Ei 2 44 s12 ([s10, s11] : List SV) ([([1, 2, (-3)] : List Int), ([3, 1, (-2)] : List Int)] : List (List Int)), emp] rfl ?_
          refine TL.assign rfl rfl (v := SV.v s12) rfl ?_
          refine TL.assign rfl rfl (v := .bool true) rfl ?_
          refine TL.done ?_
          exact TC.retF (Fin.body (fin2 (.inr rfl) rfl (.tmp rfl) (.tmp rfl) [2] rfl ⟨s12, ([s10, s11] : List SV), rfl, rfl⟩))
        · refine TC.seq ?_
          refine TC.region ?_
          refine TL.strEq name1 ([100, 111, 117, 98, 108, 101] : Str) rfl rfl rfl rfl ?_
          refine TL.assign rfl rfl (v := .bool (name1 == ([100, 111, 117, 98, 108, 101] : Str))) rfl ?_
          refine TL.done ?_
          refine TC.cond (b := (name1 == ([100, 111, 117, 98, 108, 101] : Str))) rfl (fun c9 => ?_) (fun c10 => ?_)
          · refine TC.seq ?_
            refine TC.region ?_
            refine TL.blit Ei ([1, 2, (-5)] : List Int) Try.underlying44 Try.sizeOf2 Try.zeroValue2 rfl rfl rfl [(0, .int .i64 1), (1, .int .i64 2), (2, .int .i64 (-5))] rfl ⟨rfl, rfl, rfl, rfl, rfl, rfl, trivial⟩ rfl rfl fun s13 => ?_
            refine TL.blit Ei ([5, (-1), 6] : List Int) Try.underlying44 Try.sizeOf2 Try.zeroValue2 rfl rfl rfl [(0, .int .i64 5), (1, .int .i64 (-1)), (2, .int .i64 6)] rfl ⟨rfl, rfl, rfl, rfl, rfl, rfl, trivial⟩ rfl rfl fun s14 => ?_
            refine TL.blit Ei ([(-6), (-2), 7] : List Int) Try.underlying44 Try.sizeOf2 Try.zeroValue2 rfl rfl rfl [(0, .int .i64 (-6)), (1, .int .i64 (-2)), (2, .int .i64 7)] rfl ⟨rfl, rfl, rfl, rfl, rfl, rfl, trivial⟩ rfl rfl fun s15 => ?_
            refine TL.blit Ei ([(-7), 3, 8] : List Int) Try.underlying44 Try.sizeOf2 Try.zeroValue2 rfl rfl rfl [(0, .int .i64 (-7)), (1, .int .i64 3), (2, .int .i64 8)] rfl ⟨rfl, rfl, rfl, rfl, rfl, rfl, trivial⟩ rfl rfl fun s16 => ?_
            refine TL.blit Ei ([(-8), 4, 9] : List Int) Try.underlying44 Try.sizeOf2 Try.zeroValue2 rfl rfl rfl [(0, .int .i64 (-8)), (1, .int .i64 4), (2, .int .i64 9)] rfl ⟨rfl, rfl, rfl, rfl, rfl, rfl, trivial⟩ rfl rfl fun s17 => ?_
            refine TL.blit Ei ([(-9), (-3), (-4)] : List Int) Try.underlying44 Try.sizeOf2 Try.zeroValue2 rfl rfl rfl [(0, .int .i64 (-9)), (1, .int .i64 (-3)), (2, .int .i64 (-4))] rfl ⟨rfl, rfl, rfl, rfl, rfl, rfl, trivial⟩ rfl rfl fun s18 => ?_
            refine TL.blit Ev ([s13, s14, s15, s16, s17, s18] : List SV) Try.underlying27 Try.sizeOf44 Try.zeroValue44 rfl rfl rfl [(0, SV.v s13), (1, SV.v s14), (2, SV.v s15), (3, SV.v s16), (4, SV.v s17), (5, SV.v s18)] rfl ⟨rfl, rfl, rfl, rfl, rfl, rfl, rfl, rfl, rfl, rfl, rfl, rfl, trivial⟩ rfl rfl fun s19 => ?_
            refine TL.rows0 Ei 2 ?_
            refine TL.rowsPush 0 7 rfl rfl ?_
            refine TL.rowsPush 7 6 rfl rfl ?_
            refine TL.rowsPush 6 5 rfl rfl ?_
            refine TL.rowsPush 5 4 rfl rfl ?_
            refine TL.rowsPush 4 3 rfl rfl ?_
            refine TL.rowsPush 3 2 rfl rfl ?_
            refine TL.matmk 1 2 rfl rfl ?_
            refine TL.asL [emp, emp, mat Ei 2 44 s19 ([s13, s14, s15, s16, s17, s18] : List SV) ([([1, 2, (-5)] : List Int), ([5, (-1), 6] : List Int), ([(-6), (-2), 7] : List Int), ([(-7), 3, 8] : List Int), ([(-8), 4, 9] : List Int), ([(-9), (-3), (-4)] : List Int)] : List (List Int)), emp, emp, emp, emp, emp] rfl ?_
            refine TL.assign rfl rfl (v := SV.v s19) rfl ?_
            refine TL.assign rfl rfl (v := .bool true) rfl ?_
            refine TL.done ?_
            exact TC.retF (Fin.body (fin2 (.inr rfl) rfl (.tmp rfl) (.tmp rfl) [2] rfl ⟨s19, ([s13, s14, s15, s16, s17, s18] : List SV), rfl, rfl⟩))
          · refine TC.skip ?_
            refine TC.seq ?_
            refine TC.region ?_
            refine TL.assign rfl rfl (v := SV.v ⟨none, 0, 0⟩) rfl ?_
            refine TL.assign rfl rfl (v := .bool false) rfl ?_
            refine TL.done ?_
            refine TC.nilmat Ei 2 44 ?_
            exact TC.retF (Fin.body (fin2 (.inr rfl) rfl (.tmp rfl) (.tmp rfl) [0] rfl ⟨⟨none, 0, 0⟩, [], rfl, rfl⟩))

end Go.Proofs.Ytgljkechjkllgaa.G
