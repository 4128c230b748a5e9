/- The law of NamedSurface tells true: the five names one by one, and all others. -/
import Derived.Test.YtgljkechjkllgaaPl
import Derived.Test.YtgljkechjkllgaaQ5
namespace Go.Proofs.Ytgljkechjkllgaa.G
open Go Go.Sx Go.Proofs
theorem plain_FnExactNamedSurface (x : Str) : laws_FnExactNamedSurface.f x = some true := by
  by_cases h1 : x = [115, 112, 104, 101, 114, 101]
  · subst h1; decide +kernel
  by_cases h2 : x = [116, 111, 114, 117, 115]
  · subst h2; decide +kernel
  by_cases h3 : x = [112, 108, 97, 110, 101]
  · subst h3; decide +kernel
  by_cases h4 : x = [98, 111, 116, 116, 108, 101]
  · subst h4; decide +kernel
  by_cases h5 : x = [100, 111, 117, 98, 108, 101]
  · subst h5; decide +kernel
  have e1 : (x == ([115, 112, 104, 101, 114, 101] : Str)) = false := by simpa using h1
  have e2 : (x == ([116, 111, 114, 117, 115] : Str)) = false := by simpa using h2
  have e3 : (x == ([112, 108, 97, 110, 101] : Str)) = false := by simpa using h3
  have e4 : (x == ([98, 111, 116, 116, 108, 101] : Str)) = false := by simpa using h4
  have e5 : (x == ([100, 111, 117, 98, 108, 101] : Str)) = false := by simpa using h5
  have hs : spec_NamedSurface.f x = some ([], 4) := by
    unfold spec_NamedSurface.f spec_l07Named.f
    rw [e1, e2, e3, e4, e5]; rfl
  have hi : impl_NamedSurface.f x = some ([], 4) := by
    unfold impl_NamedSurface.f
    rw [e1, e2, e3, e4, e5]; rfl
  have k1 : laws_eqInt64SS.f [] [] = some true := by decide +kernel
  have k2 : laws_markInt64SS.f [] 1 = some (1, []) := by decide +kernel
  have k3 : laws_heldInt64SS.f [] 1 = some 1 := by decide +kernel
  unfold laws_FnExactNamedSurface.f
  rw [hs, hi]
  simp only [Option.bind_some, k1, k2, k3]
  cases decide ((x.length : Int) > 1048576) <;> rfl
end Go.Proofs.Ytgljkechjkllgaa.G
