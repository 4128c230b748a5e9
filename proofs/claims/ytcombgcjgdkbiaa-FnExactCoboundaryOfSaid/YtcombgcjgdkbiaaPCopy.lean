/- The laws' copies of tables copy them. -/
import Derived.Test.YtcombgcjgdkbiaaPl
import Derived.Test.YtcombgcjgdkbiaaQ24
set_option linter.unusedSimpArgs false
namespace Go.Proofs.Ytcombgcjgdkbiaa.G
open Go Go.Sx Go.Proofs

def cut0 (n : Nat) (t : Nat → UInt8) : Nat → UInt8 := fun k => if k < n then t k else 0

theorem toByteA6_eq (t : Nat → UInt8) : laws_toByteA6.f t = some (cut0 6 t) := by
  unfold laws_toByteA6.f
  have h := loop1_upto (f := laws_toByteA6.b0 t) (fun i => (cut0 i t, (i : Int))) 6 (cut0 6 t, 6) (by omega) (by
    intro i hi
    dsimp only [laws_toByteA6.b0]
    rw [show decide ((i : Int) < 6) = true by simp; omega, cond_true, chk_in (by omega), w64_succ (by omega)]
    congr 3
    funext k
    simp only [upd, cut0, Int.toNat_natCast]
    by_cases hk : k = i
    · subst hk; simp
    · by_cases hk2 : k < i
      · simp [hk, hk2, show k < i + 1 by omega]
      · simp [hk, hk2, show ¬ k < i + 1 by omega]) rfl
  have h0 : (cut0 0 t, ((0 : Nat) : Int)) = ((fun _ => (0 : UInt8)), (0 : Int)) := by
    congr 1
  rw [h0] at h
  rw [h]; rfl

theorem toByteA6A6_eq (t : Nat → UInt8) : laws_toByteA6A6.f t = some (cut0 36 t) := by
  unfold laws_toByteA6A6.f
  have h := loop1_upto (f := laws_toByteA6A6.b0 t) (fun i => (cut0 (i * 6) t, (i : Int))) 6 (cut0 36 t, 6) (by omega) (by
    intro i hi
    dsimp only [laws_toByteA6A6.b0]
    rw [show decide ((i : Int) < 6) = true by simp; omega, cond_true, chk_in (by omega), w64_succ (by omega), toByteA6_eq, Option.bind_some]
    congr 3
    funext k
    simp only [updN, cut0, sub, Int.toNat_natCast]
    by_cases h1 : i * 6 ≤ k ∧ k < i * 6 + 6
    · rw [if_pos h1, if_pos (by omega), if_pos (by omega)]
      congr 1; omega
    · rw [if_neg h1]
      by_cases h2 : k < i * 6
      · rw [if_pos h2, if_pos (by omega)]
      · rw [if_neg h2, if_neg (by omega)]) rfl
  have h0 : (cut0 (0 * 6) t, ((0 : Nat) : Int)) = ((fun _ => (0 : UInt8)), (0 : Int)) := by
    congr 1
  rw [h0] at h
  rw [h]; rfl

theorem toGroup_eq (a : Int) (t : Nat → UInt8) : laws_toGroup.f a t = some (a, cut0 36 t) := by
  unfold laws_toGroup.f
  rw [toByteA6A6_eq]; rfl
end Go.Proofs.Ytcombgcjgdkbiaa.G
