/-
  No cell of these rows narrows 'for every input' (looked for: loops, veiled, ifaces, maps, wideKeys, modest, calm, conditions, laid).
  DERIVED. THE GIVEN ROWS OF THIS SEAT. 9 by the template 'for every input the law returns true; each argument reads behind the call as it read before'; 0 by the template 'total and deterministic' (their statements: YtiiljfpbcanphaaTotals.lean).
  GIVEN WITH THE SEED: the statements are not yours to turn. If you find one false, say at which input.
  Laid BY PROGRAM, IN A SANDBOX (cutbox-rows.mjs): the forced cells as the released guide's own fill.sh prints them over the translation 2a8171a77ab55ed0… (all of the seat's roots in one cut). By AI agents, Wed Nov 11 2026. No macro, syntax, notation, axiom, sorry.
-/
import Derived.Test.YtiiljfpbcanphaaChecked
import GoSem.Claim
import GoSem.ClaimJoined
import GoSem.ClaimMapViews
import Derived.JoinedTies
import Derived.KernelRfl
namespace Go.Proofs.Ytiiljfpbcanphaa
/- THE CELL 'sum', in the pinned program and in every row, IS THE sha256 OF THE DUMP (.gsa) THAT YtiiljfpbcanphaaProg.lean LOADS. Nothing in Lean hashes anything: it is a label: what it is worth is what the hold of that sum in a sandbox is worth. -/
noncomputable def Try.pinned : Pinned := { name := "ytiiljfpbcanphaa", sum := "2a8171a77ab55ed01e77ff6872c01978352b044603d77e6c67c785b7d02ae29f", checked := Try.checked }
namespace Rows
def none {H : Type} : Left H := { results := [], args := [] }

/-- 'laws.FnExactSlopeAt': WHATEVER THE INPUT: true; the input reads as it did. -/
def fnExactSlopeAtSpec : ChangeSpec := { name := "fnExactSlopeAt", fn := fun _ => fun
  | [d1, d2, d3] => { results := [.lit (.bool true)], args := [d1, d2, d3] }
  | _ => none }
def fnExactSlopeAtRow : OpenClaim := { program := "ytiiljfpbcanphaa", sum := "2a8171a77ab55ed01e77ff6872c01978352b044603d77e6c67c785b7d02ae29f", func := "loop.example/g01267/laws.FnExactSlopeAt", spec := "fnExactSlopeAt", unfollowed := true, recurses := true, apart := false }
def FnExactSlopeAtSaid : Prop := fnExactSlopeAtRow.holds Try.pinned (OpenSpec.ofChange fnExactSlopeAtSpec)

/-- ITS FALSE NEIGHBOUR: 'it returns false'. Refute it at one input. -/
def fnExactSlopeAtWrong : ChangeSpec := { name := "fnExactSlopeAt", fn := fun _ => fun
  | [d1, d2, d3] => { results := [.lit (.bool false)], args := [d1, d2, d3] }
  | _ => none }
def FnExactSlopeAtWrongFalsely : Prop := fnExactSlopeAtRow.holds Try.pinned (OpenSpec.ofChange fnExactSlopeAtWrong)

/-- 'laws.FnExactRootsOf': WHATEVER THE INPUT: true; the input reads as it did. -/
def fnExactRootsOfSpec : ChangeSpec := { name := "fnExactRootsOf", fn := fun _ => fun
  | [d1, d2] => { results := [.lit (.bool true)], args := [d1, d2] }
  | _ => none }
def fnExactRootsOfRow : OpenClaim := { program := "ytiiljfpbcanphaa", sum := "2a8171a77ab55ed01e77ff6872c01978352b044603d77e6c67c785b7d02ae29f", func := "loop.example/g01267/laws.FnExactRootsOf", spec := "fnExactRootsOf", unfollowed := true, recurses := true, apart := false }
def FnExactRootsOfSaid : Prop := fnExactRootsOfRow.holds Try.pinned (OpenSpec.ofChange fnExactRootsOfSpec)

/-- ITS FALSE NEIGHBOUR: 'it returns false'. Refute it at one input. -/
def fnExactRootsOfWrong : ChangeSpec := { name := "fnExactRootsOf", fn := fun _ => fun
  | [d1, d2] => { results := [.lit (.bool false)], args := [d1, d2] }
  | _ => none }
def FnExactRootsOfWrongFalsely : Prop := fnExactRootsOfRow.holds Try.pinned (OpenSpec.ofChange fnExactRootsOfWrong)

/-- 'laws.FnExactRootNumber': WHATEVER THE INPUT: true; the input reads as it did. -/
def fnExactRootNumberSpec : ChangeSpec := { name := "fnExactRootNumber", fn := fun _ => fun
  | [d1, d2, d3] => { results := [.lit (.bool true)], args := [d1, d2, d3] }
  | _ => none }
def fnExactRootNumberRow : OpenClaim := { program := "ytiiljfpbcanphaa", sum := "2a8171a77ab55ed01e77ff6872c01978352b044603d77e6c67c785b7d02ae29f", func := "loop.example/g01267/laws.FnExactRootNumber", spec := "fnExactRootNumber", unfollowed := true, recurses := true, apart := false }
def FnExactRootNumberSaid : Prop := fnExactRootNumberRow.holds Try.pinned (OpenSpec.ofChange fnExactRootNumberSpec)

/-- ITS FALSE NEIGHBOUR: 'it returns false'. Refute it at one input. -/
def fnExactRootNumberWrong : ChangeSpec := { name := "fnExactRootNumber", fn := fun _ => fun
  | [d1, d2, d3] => { results := [.lit (.bool false)], args := [d1, d2, d3] }
  | _ => none }
def FnExactRootNumberWrongFalsely : Prop := fnExactRootNumberRow.holds Try.pinned (OpenSpec.ofChange fnExactRootNumberWrong)

/-- 'laws.FnExactCornersOf': WHATEVER THE INPUT: true; the input reads as it did. -/
def fnExactCornersOfSpec : ChangeSpec := { name := "fnExactCornersOf", fn := fun _ => fun
  | [d] => { results := [.lit (.bool true)], args := [d] }
  | _ => none }
def fnExactCornersOfRow : OpenClaim := { program := "ytiiljfpbcanphaa", sum := "2a8171a77ab55ed01e77ff6872c01978352b044603d77e6c67c785b7d02ae29f", func := "loop.example/g01267/laws.FnExactCornersOf", spec := "fnExactCornersOf", apart := false }
def FnExactCornersOfSaid : Prop := fnExactCornersOfRow.holds Try.pinned (OpenSpec.ofChange fnExactCornersOfSpec)

/-- ITS FALSE NEIGHBOUR: 'it returns false'. Refute it at one input. -/
def fnExactCornersOfWrong : ChangeSpec := { name := "fnExactCornersOf", fn := fun _ => fun
  | [d] => { results := [.lit (.bool false)], args := [d] }
  | _ => none }
def FnExactCornersOfWrongFalsely : Prop := fnExactCornersOfRow.holds Try.pinned (OpenSpec.ofChange fnExactCornersOfWrong)

/-- 'laws.FnExactStairsAlgebra': WHATEVER THE INPUT: true; the input reads as it did. -/
def fnExactStairsAlgebraSpec : ChangeSpec := { name := "fnExactStairsAlgebra", fn := fun _ => fun
  | [d1, d2] => { results := [.lit (.bool true)], args := [d1, d2] }
  | _ => none }
def fnExactStairsAlgebraRow : OpenClaim := { program := "ytiiljfpbcanphaa", sum := "2a8171a77ab55ed01e77ff6872c01978352b044603d77e6c67c785b7d02ae29f", func := "loop.example/g01267/laws.FnExactStairsAlgebra", spec := "fnExactStairsAlgebra", unfollowed := true, recurses := true, apart := false }
def FnExactStairsAlgebraSaid : Prop := fnExactStairsAlgebraRow.holds Try.pinned (OpenSpec.ofChange fnExactStairsAlgebraSpec)

/-- ITS FALSE NEIGHBOUR: 'it returns false'. Refute it at one input. -/
def fnExactStairsAlgebraWrong : ChangeSpec := { name := "fnExactStairsAlgebra", fn := fun _ => fun
  | [d1, d2] => { results := [.lit (.bool false)], args := [d1, d2] }
  | _ => none }
def FnExactStairsAlgebraWrongFalsely : Prop := fnExactStairsAlgebraRow.holds Try.pinned (OpenSpec.ofChange fnExactStairsAlgebraWrong)

/-- 'laws.FnExactNamedAlgebra': WHATEVER THE INPUT: true; the input reads as it did. -/
def fnExactNamedAlgebraSpec : ChangeSpec := { name := "fnExactNamedAlgebra", fn := fun _ => fun
  | [d1, d2] => { results := [.lit (.bool true)], args := [d1, d2] }
  | _ => none }
def fnExactNamedAlgebraRow : OpenClaim := { program := "ytiiljfpbcanphaa", sum := "2a8171a77ab55ed01e77ff6872c01978352b044603d77e6c67c785b7d02ae29f", func := "loop.example/g01267/laws.FnExactNamedAlgebra", spec := "fnExactNamedAlgebra", unfollowed := true, recurses := true, apart := false }
def FnExactNamedAlgebraSaid : Prop := fnExactNamedAlgebraRow.holds Try.pinned (OpenSpec.ofChange fnExactNamedAlgebraSpec)

/-- ITS FALSE NEIGHBOUR: 'it returns false'. Refute it at one input. -/
def fnExactNamedAlgebraWrong : ChangeSpec := { name := "fnExactNamedAlgebra", fn := fun _ => fun
  | [d1, d2] => { results := [.lit (.bool false)], args := [d1, d2] }
  | _ => none }
def FnExactNamedAlgebraWrongFalsely : Prop := fnExactNamedAlgebraRow.holds Try.pinned (OpenSpec.ofChange fnExactNamedAlgebraWrong)

/-- 'laws.FnExactOrientSurface': WHATEVER THE INPUT: true; the input reads as it did. -/
def fnExactOrientSurfaceSpec : ChangeSpec := { name := "fnExactOrientSurface", fn := fun _ => fun
  | [d] => { results := [.lit (.bool true)], args := [d] }
  | _ => none }
def fnExactOrientSurfaceRow : OpenClaim := { program := "ytiiljfpbcanphaa", sum := "2a8171a77ab55ed01e77ff6872c01978352b044603d77e6c67c785b7d02ae29f", func := "loop.example/g01267/laws.FnExactOrientSurface", spec := "fnExactOrientSurface", unfollowed := true, recurses := true, apart := false }
def FnExactOrientSurfaceSaid : Prop := fnExactOrientSurfaceRow.holds Try.pinned (OpenSpec.ofChange fnExactOrientSurfaceSpec)

/-- ITS FALSE NEIGHBOUR: 'it returns false'. Refute it at one input. -/
def fnExactOrientSurfaceWrong : ChangeSpec := { name := "fnExactOrientSurface", fn := fun _ => fun
  | [d] => { results := [.lit (.bool false)], args := [d] }
  | _ => none }
def FnExactOrientSurfaceWrongFalsely : Prop := fnExactOrientSurfaceRow.holds Try.pinned (OpenSpec.ofChange fnExactOrientSurfaceWrong)

/-- 'laws.FnExactIsAlgebra': WHATEVER THE INPUT: true; the input reads as it did. -/
def fnExactIsAlgebraSpec : ChangeSpec := { name := "fnExactIsAlgebra", fn := fun _ => fun
  | [d] => { results := [.lit (.bool true)], args := [d] }
  | _ => none }
def fnExactIsAlgebraRow : OpenClaim := { program := "ytiiljfpbcanphaa", sum := "2a8171a77ab55ed01e77ff6872c01978352b044603d77e6c67c785b7d02ae29f", func := "loop.example/g01267/laws.FnExactIsAlgebra", spec := "fnExactIsAlgebra", unfollowed := true, recurses := true, apart := false }
def FnExactIsAlgebraSaid : Prop := fnExactIsAlgebraRow.holds Try.pinned (OpenSpec.ofChange fnExactIsAlgebraSpec)

/-- ITS FALSE NEIGHBOUR: 'it returns false'. Refute it at one input. -/
def fnExactIsAlgebraWrong : ChangeSpec := { name := "fnExactIsAlgebra", fn := fun _ => fun
  | [d] => { results := [.lit (.bool false)], args := [d] }
  | _ => none }
def FnExactIsAlgebraWrongFalsely : Prop := fnExactIsAlgebraRow.holds Try.pinned (OpenSpec.ofChange fnExactIsAlgebraWrong)

/-- 'laws.FnSurfaces': WHATEVER THE INPUT: true; the input reads as it did. -/
def fnSurfacesSpec : ChangeSpec := { name := "fnSurfaces", fn := fun _ => fun
  | [d] => { results := [.lit (.bool true)], args := [d] }
  | _ => none }
def fnSurfacesRow : OpenClaim := { program := "ytiiljfpbcanphaa", sum := "2a8171a77ab55ed01e77ff6872c01978352b044603d77e6c67c785b7d02ae29f", func := "loop.example/g01267/laws.FnSurfaces", spec := "fnSurfaces", unfollowed := true, recurses := true, apart := false }
def FnSurfacesSaid : Prop := fnSurfacesRow.holds Try.pinned (OpenSpec.ofChange fnSurfacesSpec)

/-- ITS FALSE NEIGHBOUR: 'it returns false'. Refute it at one input. -/
def fnSurfacesWrong : ChangeSpec := { name := "fnSurfaces", fn := fun _ => fun
  | [d] => { results := [.lit (.bool false)], args := [d] }
  | _ => none }
def FnSurfacesWrongFalsely : Prop := fnSurfacesRow.holds Try.pinned (OpenSpec.ofChange fnSurfacesWrong)

/- THE SECOND FORM. 'bulk': how many values and letters a reading holds, each counted each time it is reached (what is shared counts as often as it is met; a slice's spare places count too). A statement '..UptoSaid' is the law's where the arguments, and the package variables that the reading takes, are together of bulk at most 1048576: NARROWER than '..Said'. Prove '..Said' where nothing that the law and all that it calls make is longer than what came in: it says more and counts as full. Else prove '..UptoSaid'. A law counts once. -/
mutual
def uptoBulk {H : Type} : DataW H → Nat
  | .lit (.string bytes) => bytes.length + 1
  | .lit _ => 1
  | .nil => 1
  | .ptr d => uptoBulk d + 1
  | .slice elems spare => uptoBulkAll elems + uptoBulkAll spare + 1
  | .agg parts => uptoBulkAll parts + 1
  | .iface _ d => uptoBulk d + 1
  | .map entries => uptoBulkEntries entries + 1
  | .held _ => 1
def uptoBulkAll {H : Type} : List (DataW H) → Nat
  | [] => 0
  | d :: r => uptoBulk d + uptoBulkAll r
def uptoBulkEntries {H : Type} : List (Lit × DataW H) → Nat
  | [] => 0
  | x :: r => uptoBulkEntry x + uptoBulkEntries r
def uptoBulkEntry {H : Type} : Lit × DataW H → Nat
  | (.string bytes, d) => bytes.length + uptoBulk d + 1
  | (_, d) => uptoBulk d + 1
 end
def uptoSmall : (H : Type) → List (DataW H) → Bool := fun _ ds => decide (uptoBulkAll ds ≤ 1048576)
def OpenSpec.upto (s : _root_.Go.ChangeSpec) : _root_.Go.OpenSpec := { _root_.Go.OpenSpec.ofChange s with cond := some uptoSmall }

/-- 'laws.FnExactSlopeAt', WHERE WHAT IT READS IS OF BULK AT MOST 1048576: true; the input reads as it did. -/
def fnExactSlopeAtUptoRow : OpenClaim := { program := "ytiiljfpbcanphaa", sum := "2a8171a77ab55ed01e77ff6872c01978352b044603d77e6c67c785b7d02ae29f", func := "loop.example/g01267/laws.FnExactSlopeAt", spec := "fnExactSlopeAt", unfollowed := true, recurses := true, apart := false, narrowed := true }
def FnExactSlopeAtUptoSaid : Prop := fnExactSlopeAtUptoRow.holds Try.pinned (OpenSpec.upto fnExactSlopeAtSpec)

/-- 'laws.FnExactRootsOf', WHERE WHAT IT READS IS OF BULK AT MOST 1048576: true; the input reads as it did. -/
def fnExactRootsOfUptoRow : OpenClaim := { program := "ytiiljfpbcanphaa", sum := "2a8171a77ab55ed01e77ff6872c01978352b044603d77e6c67c785b7d02ae29f", func := "loop.example/g01267/laws.FnExactRootsOf", spec := "fnExactRootsOf", unfollowed := true, recurses := true, apart := false, narrowed := true }
def FnExactRootsOfUptoSaid : Prop := fnExactRootsOfUptoRow.holds Try.pinned (OpenSpec.upto fnExactRootsOfSpec)

/-- 'laws.FnExactRootNumber', WHERE WHAT IT READS IS OF BULK AT MOST 1048576: true; the input reads as it did. -/
def fnExactRootNumberUptoRow : OpenClaim := { program := "ytiiljfpbcanphaa", sum := "2a8171a77ab55ed01e77ff6872c01978352b044603d77e6c67c785b7d02ae29f", func := "loop.example/g01267/laws.FnExactRootNumber", spec := "fnExactRootNumber", unfollowed := true, recurses := true, apart := false, narrowed := true }
def FnExactRootNumberUptoSaid : Prop := fnExactRootNumberUptoRow.holds Try.pinned (OpenSpec.upto fnExactRootNumberSpec)

/-- 'laws.FnExactCornersOf', WHERE WHAT IT READS IS OF BULK AT MOST 1048576: true; the input reads as it did. -/
def fnExactCornersOfUptoRow : OpenClaim := { program := "ytiiljfpbcanphaa", sum := "2a8171a77ab55ed01e77ff6872c01978352b044603d77e6c67c785b7d02ae29f", func := "loop.example/g01267/laws.FnExactCornersOf", spec := "fnExactCornersOf", apart := false, narrowed := true }
def FnExactCornersOfUptoSaid : Prop := fnExactCornersOfUptoRow.holds Try.pinned (OpenSpec.upto fnExactCornersOfSpec)

/-- 'laws.FnExactStairsAlgebra', WHERE WHAT IT READS IS OF BULK AT MOST 1048576: true; the input reads as it did. -/
def fnExactStairsAlgebraUptoRow : OpenClaim := { program := "ytiiljfpbcanphaa", sum := "2a8171a77ab55ed01e77ff6872c01978352b044603d77e6c67c785b7d02ae29f", func := "loop.example/g01267/laws.FnExactStairsAlgebra", spec := "fnExactStairsAlgebra", unfollowed := true, recurses := true, apart := false, narrowed := true }
def FnExactStairsAlgebraUptoSaid : Prop := fnExactStairsAlgebraUptoRow.holds Try.pinned (OpenSpec.upto fnExactStairsAlgebraSpec)

/-- 'laws.FnExactNamedAlgebra', WHERE WHAT IT READS IS OF BULK AT MOST 1048576: true; the input reads as it did. -/
def fnExactNamedAlgebraUptoRow : OpenClaim := { program := "ytiiljfpbcanphaa", sum := "2a8171a77ab55ed01e77ff6872c01978352b044603d77e6c67c785b7d02ae29f", func := "loop.example/g01267/laws.FnExactNamedAlgebra", spec := "fnExactNamedAlgebra", unfollowed := true, recurses := true, apart := false, narrowed := true }
def FnExactNamedAlgebraUptoSaid : Prop := fnExactNamedAlgebraUptoRow.holds Try.pinned (OpenSpec.upto fnExactNamedAlgebraSpec)

/-- 'laws.FnExactOrientSurface', WHERE WHAT IT READS IS OF BULK AT MOST 1048576: true; the input reads as it did. -/
def fnExactOrientSurfaceUptoRow : OpenClaim := { program := "ytiiljfpbcanphaa", sum := "2a8171a77ab55ed01e77ff6872c01978352b044603d77e6c67c785b7d02ae29f", func := "loop.example/g01267/laws.FnExactOrientSurface", spec := "fnExactOrientSurface", unfollowed := true, recurses := true, apart := false, narrowed := true }
def FnExactOrientSurfaceUptoSaid : Prop := fnExactOrientSurfaceUptoRow.holds Try.pinned (OpenSpec.upto fnExactOrientSurfaceSpec)

/-- 'laws.FnExactIsAlgebra', WHERE WHAT IT READS IS OF BULK AT MOST 1048576: true; the input reads as it did. -/
def fnExactIsAlgebraUptoRow : OpenClaim := { program := "ytiiljfpbcanphaa", sum := "2a8171a77ab55ed01e77ff6872c01978352b044603d77e6c67c785b7d02ae29f", func := "loop.example/g01267/laws.FnExactIsAlgebra", spec := "fnExactIsAlgebra", unfollowed := true, recurses := true, apart := false, narrowed := true }
def FnExactIsAlgebraUptoSaid : Prop := fnExactIsAlgebraUptoRow.holds Try.pinned (OpenSpec.upto fnExactIsAlgebraSpec)

/-- 'laws.FnSurfaces', WHERE WHAT IT READS IS OF BULK AT MOST 1048576: true; the input reads as it did. -/
def fnSurfacesUptoRow : OpenClaim := { program := "ytiiljfpbcanphaa", sum := "2a8171a77ab55ed01e77ff6872c01978352b044603d77e6c67c785b7d02ae29f", func := "loop.example/g01267/laws.FnSurfaces", spec := "fnSurfaces", unfollowed := true, recurses := true, apart := false, narrowed := true }
def FnSurfacesUptoSaid : Prop := fnSurfacesUptoRow.holds Try.pinned (OpenSpec.upto fnSurfacesSpec)

end Rows
end Go.Proofs.Ytiiljfpbcanphaa
