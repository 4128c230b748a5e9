/- So many numbers, told by a function. -/
import Derived.Test.YtcombgcjgdkbiaaPl
namespace Go.Proofs.Ytcombgcjgdkbiaa.G
open Go Go.Sx Go.Proofs
/-- So many numbers. -/
def lz (n : Nat) (g : Nat → Nat) : List Int := (List.range n).map fun k => (g k : Int)
theorem lz_length (n : Nat) (g : Nat → Nat) : (lz n g).length = n := by simp [lz]
theorem lz_gt {n : Nat} (g : Nat → Nat) {k : Nat} (hk : k < n) : gt (lz n g) (k : Int) = (g k : Int) := by simp [gt, lz, List.getD, hk]
theorem lz_set {n : Nat} (g : Nat → Nat) {k v : Nat} (hk : k < n) : (lz n g).set k (v : Int) = lz n (fun x => if x = k then v else g x) := by
  apply List.ext_getElem?
  intro q
  simp only [lz, List.getElem?_set, List.length_map, List.length_range, List.getElem?_map]
  by_cases hq : q < n
  · by_cases h : k = q
    · subst h; simp [hk]
    · have : ¬ q = k := fun e => h e.symm
      simp [hq, h, this]
  · by_cases h : k = q
    · omega
    · simp [hq, h]
theorem lz_congr {n : Nat} {g h : Nat → Nat} (e : ∀ i, i < n → g i = h i) : lz n g = lz n h := by
  unfold lz
  refine List.map_congr_left fun i hi => ?_
  rw [e i (List.mem_range.1 hi)]
theorem lz_succ (n : Nat) (g : Nat → Nat) : lz (n + 1) g = lz n g ++ [(g n : Int)] := by simp [lz, List.range_succ]

end Go.Proofs.Ytcombgcjgdkbiaa.G
