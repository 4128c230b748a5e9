/- laws.markText, as a pure function. -/
import Derived.Test.YtgljkechjkllgaaProg
import Derived.Test.YtgljkechjkllgaaSx9
set_option linter.unusedVariables false
namespace Go.Proofs.Ytgljkechjkllgaa.G
open Go Go.Sx Go.Proofs

def laws_markText.b0 : Int × Str → Option (LB (Int × Str)) := fun p => match p with | (k_2, out1) => (bif (decide (k_2 > 0)) then small (([(UInt8.ofInt (w64 (48 + (Int.tmod k_2 10))))] : List UInt8).length + out1.length) (some (.next ((w64 (Int.tdiv k_2 10)), (([(UInt8.ofInt (w64 (48 + (Int.tmod k_2 10))))] : List UInt8) ++ out1)))) else some (.brk (k_2, out1)))

def laws_markText.f (k_1 : Int) : Option Str := (bif (decide (k_1 ≤ 0)) then some ([109, 48] : Str) else (loop1 (laws_markText.b0) (k_1, ([] : Str))).bind (fun p => match p with | (k_2, out1) => small (([109] : Str).length + out1.length) (some (([109] : Str) ++ out1))))

def laws_markText.R (r : Str) (v : Value) (L : List Asn) : Prop := v = strv r ∧ L = []

set_option maxRecDepth 100000 in
set_option maxHeartbeats 4000000 in
theorem laws_markText.calls (w : World) (k_1 : Int) :
    ∀ r, laws_markText.f k_1 = some r → Calls Try.prog 52 #[.int .i64 k_1] w (Ret w (laws_markText.R r)) := by

  refine calls_T (n := 20) (Γ := [(0, .int .i64 k_1)]) (R := laws_markText.R) Try.func52 rfl rfl (Nat.le_of_ble_eq_true rfl) ⟨rfl, trivial⟩ ?_
  unfold laws_markText.f
  refine TC.seq ?_
  refine TC.region ?_
  refine TL.assign rfl rfl (v := strv ([] : Str)) rfl ?_
  refine TL.done ?_
  refine TC.seq ?_
  refine TC.seq ?_
  refine TC.region ?_
  refine TL.move rfl rfl (v := .int .i64 k_1) rfl ?_
  refine TL.bin .i64 k_1 0 rfl rfl rfl rfl (v := .bool (decide (k_1 ≤ 0))) rfl ?_
  refine TL.done ?_
  refine TC.cond (b := (decide (k_1 ≤ 0))) rfl (fun c1 => ?_) (fun c2 => ?_)
  · refine TC.seq ?_
    refine TC.region ?_
    refine TL.assign rfl rfl (v := strv ([109, 48] : Str)) rfl ?_
    refine TL.done ?_
    exact TC.retF (Fin.body (fin1 (.inr rfl) rfl (.tmp rfl) [] rfl ⟨rfl, rfl⟩))
  · refine TC.skip ?_
    refine TC.seq ?_
    refine TC.region ?_
    refine TL.assign rfl rfl (v := strv ([] : Str)) rfl ?_
    refine TL.done ?_
    refine TC.seq ?_
    refine TC.loop1 (σ := Int × Str) (γ := Unit) (Γ' := (fun p q => match p, q with | (k_2, out1), _ => [(0, .int .i64 k_2), (3, strv out1)])) (L' := (fun p q => match p, q with | (k_2, out1), _ => [])) (Γb := (fun p q => match p, q with | (k_2, out1), _ => [(0, .int .i64 k_2), (3, strv out1)])) (Lb := (fun p q => match p, q with | (k_2, out1), _ => [])) ((k_1, ([] : Str))) (()) ⟨rfl, rfl, trivial⟩ [] rfl ?_ ?_
    · rintro ⟨k_2, out1⟩ _
      refine TC.seq ?_
      refine TC.seq ?_
      refine TC.region ?_
      refine TL.move rfl rfl (v := .int .i64 k_2) rfl ?_
      refine TL.bin .i64 k_2 0 rfl rfl rfl rfl (v := .bool (decide (k_2 > 0))) rfl ?_
      refine TL.done ?_
      refine TC.cond (b := (decide (k_2 > 0))) rfl (fun c3 => ?_) (fun c4 => ?_)
      · refine TC.skip ?_
        refine TC.block (NoEx.loop1 rfl) ?_
        refine TC.seq ?_
        refine TC.region ?_
        refine TL.move rfl rfl (v := .int .i64 k_2) rfl ?_
        refine TL.rem .i64 k_2 10 (by decide) rfl rfl rfl rfl ?_
        refine TL.bin .i64 48 (Int.tmod k_2 10) rfl rfl rfl rfl (v := .int .i64 (w64 (48 + (Int.tmod k_2 10)))) rfl ?_
        refine TL.conv .i64 .u8 (w64 (48 + (Int.tmod k_2 10))) _ rfl rfl rfl Try.underlying3 Try.underlying5 (v := u8v (UInt8.ofInt (w64 (48 + (Int.tmod k_2 10))))) (conv_i64_u8 _) ?_
        refine TL.blit Eu ([(UInt8.ofInt (w64 (48 + (Int.tmod k_2 10))))] : List UInt8) Try.underlying98 Try.sizeOf5 Try.zeroValue5 rfl rfl rfl [(0, u8v (UInt8.ofInt (w64 (48 + (Int.tmod k_2 10)))))] rfl ⟨rfl, rfl, trivial⟩ rfl rfl fun s1 => ?_
        refine TL.b2s (Rd.row 0 rfl) Try.underlying98 Try.underlying5 Try.underlying9 rfl rfl rfl ?_
        refine TL.move rfl rfl (v := strv out1) rfl ?_
        refine TL.small fun h1 => ?_
        refine TL.cat ([(UInt8.ofInt (w64 (48 + (Int.tmod k_2 10))))] : List UInt8) out1 h1 rfl rfl rfl rfl ?_
        refine TL.assign rfl rfl (v := strv (([(UInt8.ofInt (w64 (48 + (Int.tmod k_2 10))))] : List UInt8) ++ out1)) rfl ?_
        refine TL.done ?_
        refine TC.region ?_
        refine TL.move rfl rfl (v := .int .i64 k_2) rfl ?_
        refine TL.quo .i64 k_2 10 (by decide) rfl rfl rfl rfl ?_
        refine TL.assign rfl rfl (v := .int .i64 (w64 (Int.tdiv k_2 10))) rfl ?_
        refine TL.done ?_
        exact TC.next1 (((w64 (Int.tdiv k_2 10)), (([(UInt8.ofInt (w64 (48 + (Int.tmod k_2 10))))] : List UInt8) ++ out1))) (()) ⟨rfl, rfl, trivial⟩ [] rfl
      · exact TC.brk1 ((k_2, out1)) (()) ⟨rfl, rfl, trivial⟩ [] rfl
    · rintro ⟨k_2, out1⟩ _
      refine TC.seq ?_
      refine TC.region ?_
      refine TL.move rfl rfl (v := strv out1) rfl ?_
      refine TL.small fun h2 => ?_
      refine TL.cat ([109] : Str) out1 h2 rfl rfl rfl rfl ?_
      refine TL.assign rfl rfl (v := strv (([109] : Str) ++ out1)) rfl ?_
      refine TL.done ?_
      exact TC.retF (Fin.body (fin1 (.inr rfl) rfl (.tmp rfl) [] rfl ⟨rfl, rfl⟩))

end Go.Proofs.Ytgljkechjkllgaa.G
