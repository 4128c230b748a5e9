/-
  No cell of these rows narrows 'for every input' (looked for: loops, veiled, ifaces, maps, wideKeys, modest, calm, conditions, laid).
  DERIVED. THE GIVEN ROWS OF THIS SEAT. 12 by the template 'for every input the law returns true; each argument reads behind the call as it read before'; 0 by the template 'total and deterministic' (their statements: YtcombgcjgdkbiaaTotals.lean).
  GIVEN WITH THE SEED: the statements are not yours to turn. If you find one false, say at which input.
  Laid BY PROGRAM, IN A SANDBOX (cutbox-rows.mjs): the forced cells as the released guide's own fill.sh prints them over the translation aa5ca071dd2a90e6… (all of the seat's roots in one cut). By AI agents, Wed Nov 11 2026. No macro, syntax, notation, axiom, sorry.
-/
import Derived.Test.YtcombgcjgdkbiaaChecked
import GoSem.Claim
import GoSem.ClaimJoined
import GoSem.ClaimMapViews
import Derived.JoinedTies
import Derived.KernelRfl
namespace Go.Proofs.Ytcombgcjgdkbiaa
/- THE CELL 'sum', in the pinned program and in every row, IS THE sha256 OF THE DUMP (.gsa) THAT YtcombgcjgdkbiaaProg.lean LOADS. Nothing in Lean hashes anything: it is a label: what it is worth is what the hold of that sum in a sandbox is worth. -/
noncomputable def Try.pinned : Pinned := { name := "ytcombgcjgdkbiaa", sum := "aa5ca071dd2a90e664fba2c1ff9e8240b456bc529112ce46eb253136fb113b23", checked := Try.checked }
namespace Rows
def none {H : Type} : Left H := { results := [], args := [] }

/-- 'laws.FnExactRootsOf': WHATEVER THE INPUT: true; the input reads as it did. -/
def fnExactRootsOfSpec : ChangeSpec := { name := "fnExactRootsOf", fn := fun _ => fun
  | [d1, d2] => { results := [.lit (.bool true)], args := [d1, d2] }
  | _ => none }
def fnExactRootsOfRow : OpenClaim := { program := "ytcombgcjgdkbiaa", sum := "aa5ca071dd2a90e664fba2c1ff9e8240b456bc529112ce46eb253136fb113b23", func := "loop.example/g01267/laws.FnExactRootsOf", spec := "fnExactRootsOf", unfollowed := true, recurses := true, apart := false }
def FnExactRootsOfSaid : Prop := fnExactRootsOfRow.holds Try.pinned (OpenSpec.ofChange fnExactRootsOfSpec)

/-- ITS FALSE NEIGHBOUR: 'it returns false'. Refute it at one input. -/
def fnExactRootsOfWrong : ChangeSpec := { name := "fnExactRootsOf", fn := fun _ => fun
  | [d1, d2] => { results := [.lit (.bool false)], args := [d1, d2] }
  | _ => none }
def FnExactRootsOfWrongFalsely : Prop := fnExactRootsOfRow.holds Try.pinned (OpenSpec.ofChange fnExactRootsOfWrong)

/-- 'laws.FnExactRootNumber': WHATEVER THE INPUT: true; the input reads as it did. -/
def fnExactRootNumberSpec : ChangeSpec := { name := "fnExactRootNumber", fn := fun _ => fun
  | [d1, d2, d3] => { results := [.lit (.bool true)], args := [d1, d2, d3] }
  | _ => none }
def fnExactRootNumberRow : OpenClaim := { program := "ytcombgcjgdkbiaa", sum := "aa5ca071dd2a90e664fba2c1ff9e8240b456bc529112ce46eb253136fb113b23", func := "loop.example/g01267/laws.FnExactRootNumber", spec := "fnExactRootNumber", unfollowed := true, recurses := true, apart := false }
def FnExactRootNumberSaid : Prop := fnExactRootNumberRow.holds Try.pinned (OpenSpec.ofChange fnExactRootNumberSpec)

/-- ITS FALSE NEIGHBOUR: 'it returns false'. Refute it at one input. -/
def fnExactRootNumberWrong : ChangeSpec := { name := "fnExactRootNumber", fn := fun _ => fun
  | [d1, d2, d3] => { results := [.lit (.bool false)], args := [d1, d2, d3] }
  | _ => none }
def FnExactRootNumberWrongFalsely : Prop := fnExactRootNumberRow.holds Try.pinned (OpenSpec.ofChange fnExactRootNumberWrong)

/-- 'laws.FnExactCountSquares': WHATEVER THE INPUT: true; the input reads as it did. -/
def fnExactCountSquaresSpec : ChangeSpec := { name := "fnExactCountSquares", fn := fun _ => fun
  | [d1, d2] => { results := [.lit (.bool true)], args := [d1, d2] }
  | _ => none }
def fnExactCountSquaresRow : OpenClaim := { program := "ytcombgcjgdkbiaa", sum := "aa5ca071dd2a90e664fba2c1ff9e8240b456bc529112ce46eb253136fb113b23", func := "loop.example/g01267/laws.FnExactCountSquares", spec := "fnExactCountSquares", apart := false }
def FnExactCountSquaresSaid : Prop := fnExactCountSquaresRow.holds Try.pinned (OpenSpec.ofChange fnExactCountSquaresSpec)

/-- ITS FALSE NEIGHBOUR: 'it returns false'. Refute it at one input. -/
def fnExactCountSquaresWrong : ChangeSpec := { name := "fnExactCountSquares", fn := fun _ => fun
  | [d1, d2] => { results := [.lit (.bool false)], args := [d1, d2] }
  | _ => none }
def FnExactCountSquaresWrongFalsely : Prop := fnExactCountSquaresRow.holds Try.pinned (OpenSpec.ofChange fnExactCountSquaresWrong)

/-- 'laws.FnExactCountHomomorphisms': WHATEVER THE INPUT: true; the input reads as it did. -/
def fnExactCountHomomorphismsSpec : ChangeSpec := { name := "fnExactCountHomomorphisms", fn := fun _ => fun
  | [d1, d2] => { results := [.lit (.bool true)], args := [d1, d2] }
  | _ => none }
def fnExactCountHomomorphismsRow : OpenClaim := { program := "ytcombgcjgdkbiaa", sum := "aa5ca071dd2a90e664fba2c1ff9e8240b456bc529112ce46eb253136fb113b23", func := "loop.example/g01267/laws.FnExactCountHomomorphisms", spec := "fnExactCountHomomorphisms", apart := false }
def FnExactCountHomomorphismsSaid : Prop := fnExactCountHomomorphismsRow.holds Try.pinned (OpenSpec.ofChange fnExactCountHomomorphismsSpec)

/-- ITS FALSE NEIGHBOUR: 'it returns false'. Refute it at one input. -/
def fnExactCountHomomorphismsWrong : ChangeSpec := { name := "fnExactCountHomomorphisms", fn := fun _ => fun
  | [d1, d2] => { results := [.lit (.bool false)], args := [d1, d2] }
  | _ => none }
def FnExactCountHomomorphismsWrongFalsely : Prop := fnExactCountHomomorphismsRow.holds Try.pinned (OpenSpec.ofChange fnExactCountHomomorphismsWrong)

/-- 'laws.FnExactCountSurface': WHATEVER THE INPUT: true; the input reads as it did. -/
def fnExactCountSurfaceSpec : ChangeSpec := { name := "fnExactCountSurface", fn := fun _ => fun
  | [d1, d2] => { results := [.lit (.bool true)], args := [d1, d2] }
  | _ => none }
def fnExactCountSurfaceRow : OpenClaim := { program := "ytcombgcjgdkbiaa", sum := "aa5ca071dd2a90e664fba2c1ff9e8240b456bc529112ce46eb253136fb113b23", func := "loop.example/g01267/laws.FnExactCountSurface", spec := "fnExactCountSurface", apart := false }
def FnExactCountSurfaceSaid : Prop := fnExactCountSurfaceRow.holds Try.pinned (OpenSpec.ofChange fnExactCountSurfaceSpec)

/-- ITS FALSE NEIGHBOUR: 'it returns false'. Refute it at one input. -/
def fnExactCountSurfaceWrong : ChangeSpec := { name := "fnExactCountSurface", fn := fun _ => fun
  | [d1, d2] => { results := [.lit (.bool false)], args := [d1, d2] }
  | _ => none }
def FnExactCountSurfaceWrongFalsely : Prop := fnExactCountSurfaceRow.holds Try.pinned (OpenSpec.ofChange fnExactCountSurfaceWrong)

/-- 'laws.FnExactStairsAlgebra': WHATEVER THE INPUT: true; the input reads as it did. -/
def fnExactStairsAlgebraSpec : ChangeSpec := { name := "fnExactStairsAlgebra", fn := fun _ => fun
  | [d1, d2] => { results := [.lit (.bool true)], args := [d1, d2] }
  | _ => none }
def fnExactStairsAlgebraRow : OpenClaim := { program := "ytcombgcjgdkbiaa", sum := "aa5ca071dd2a90e664fba2c1ff9e8240b456bc529112ce46eb253136fb113b23", func := "loop.example/g01267/laws.FnExactStairsAlgebra", spec := "fnExactStairsAlgebra", unfollowed := true, recurses := true, apart := false }
def FnExactStairsAlgebraSaid : Prop := fnExactStairsAlgebraRow.holds Try.pinned (OpenSpec.ofChange fnExactStairsAlgebraSpec)

/-- ITS FALSE NEIGHBOUR: 'it returns false'. Refute it at one input. -/
def fnExactStairsAlgebraWrong : ChangeSpec := { name := "fnExactStairsAlgebra", fn := fun _ => fun
  | [d1, d2] => { results := [.lit (.bool false)], args := [d1, d2] }
  | _ => none }
def FnExactStairsAlgebraWrongFalsely : Prop := fnExactStairsAlgebraRow.holds Try.pinned (OpenSpec.ofChange fnExactStairsAlgebraWrong)

/-- 'laws.FnExactPolynomialAlgebra': WHATEVER THE INPUT: true; the input reads as it did. -/
def fnExactPolynomialAlgebraSpec : ChangeSpec := { name := "fnExactPolynomialAlgebra", fn := fun _ => fun
  | [d1, d2] => { results := [.lit (.bool true)], args := [d1, d2] }
  | _ => none }
def fnExactPolynomialAlgebraRow : OpenClaim := { program := "ytcombgcjgdkbiaa", sum := "aa5ca071dd2a90e664fba2c1ff9e8240b456bc529112ce46eb253136fb113b23", func := "loop.example/g01267/laws.FnExactPolynomialAlgebra", spec := "fnExactPolynomialAlgebra", unfollowed := true, recurses := true, apart := false }
def FnExactPolynomialAlgebraSaid : Prop := fnExactPolynomialAlgebraRow.holds Try.pinned (OpenSpec.ofChange fnExactPolynomialAlgebraSpec)

/-- ITS FALSE NEIGHBOUR: 'it returns false'. Refute it at one input. -/
def fnExactPolynomialAlgebraWrong : ChangeSpec := { name := "fnExactPolynomialAlgebra", fn := fun _ => fun
  | [d1, d2] => { results := [.lit (.bool false)], args := [d1, d2] }
  | _ => none }
def FnExactPolynomialAlgebraWrongFalsely : Prop := fnExactPolynomialAlgebraRow.holds Try.pinned (OpenSpec.ofChange fnExactPolynomialAlgebraWrong)

/-- 'laws.FnExactNamedAlgebra': WHATEVER THE INPUT: true; the input reads as it did. -/
def fnExactNamedAlgebraSpec : ChangeSpec := { name := "fnExactNamedAlgebra", fn := fun _ => fun
  | [d1, d2] => { results := [.lit (.bool true)], args := [d1, d2] }
  | _ => none }
def fnExactNamedAlgebraRow : OpenClaim := { program := "ytcombgcjgdkbiaa", sum := "aa5ca071dd2a90e664fba2c1ff9e8240b456bc529112ce46eb253136fb113b23", func := "loop.example/g01267/laws.FnExactNamedAlgebra", spec := "fnExactNamedAlgebra", unfollowed := true, recurses := true, apart := false }
def FnExactNamedAlgebraSaid : Prop := fnExactNamedAlgebraRow.holds Try.pinned (OpenSpec.ofChange fnExactNamedAlgebraSpec)

/-- ITS FALSE NEIGHBOUR: 'it returns false'. Refute it at one input. -/
def fnExactNamedAlgebraWrong : ChangeSpec := { name := "fnExactNamedAlgebra", fn := fun _ => fun
  | [d1, d2] => { results := [.lit (.bool false)], args := [d1, d2] }
  | _ => none }
def FnExactNamedAlgebraWrongFalsely : Prop := fnExactNamedAlgebraRow.holds Try.pinned (OpenSpec.ofChange fnExactNamedAlgebraWrong)

/-- 'laws.FnExactGroupAlgebra': WHATEVER THE INPUT: true; the input reads as it did. -/
def fnExactGroupAlgebraSpec : ChangeSpec := { name := "fnExactGroupAlgebra", fn := fun _ => fun
  | [d1, d2] => { results := [.lit (.bool true)], args := [d1, d2] }
  | _ => none }
def fnExactGroupAlgebraRow : OpenClaim := { program := "ytcombgcjgdkbiaa", sum := "aa5ca071dd2a90e664fba2c1ff9e8240b456bc529112ce46eb253136fb113b23", func := "loop.example/g01267/laws.FnExactGroupAlgebra", spec := "fnExactGroupAlgebra", unfollowed := true, recurses := true, apart := false }
def FnExactGroupAlgebraSaid : Prop := fnExactGroupAlgebraRow.holds Try.pinned (OpenSpec.ofChange fnExactGroupAlgebraSpec)

/-- ITS FALSE NEIGHBOUR: 'it returns false'. Refute it at one input. -/
def fnExactGroupAlgebraWrong : ChangeSpec := { name := "fnExactGroupAlgebra", fn := fun _ => fun
  | [d1, d2] => { results := [.lit (.bool false)], args := [d1, d2] }
  | _ => none }
def FnExactGroupAlgebraWrongFalsely : Prop := fnExactGroupAlgebraRow.holds Try.pinned (OpenSpec.ofChange fnExactGroupAlgebraWrong)

/-- 'laws.FnExactCoboundaryOf': WHATEVER THE INPUT: true; the input reads as it did. -/
def fnExactCoboundaryOfSpec : ChangeSpec := { name := "fnExactCoboundaryOf", fn := fun _ => fun
  | [d1, d2, d3] => { results := [.lit (.bool true)], args := [d1, d2, d3] }
  | _ => none }
def fnExactCoboundaryOfRow : OpenClaim := { program := "ytcombgcjgdkbiaa", sum := "aa5ca071dd2a90e664fba2c1ff9e8240b456bc529112ce46eb253136fb113b23", func := "loop.example/g01267/laws.FnExactCoboundaryOf", spec := "fnExactCoboundaryOf", unfollowed := true, recurses := true, apart := false }
def FnExactCoboundaryOfSaid : Prop := fnExactCoboundaryOfRow.holds Try.pinned (OpenSpec.ofChange fnExactCoboundaryOfSpec)

/-- ITS FALSE NEIGHBOUR: 'it returns false'. Refute it at one input. -/
def fnExactCoboundaryOfWrong : ChangeSpec := { name := "fnExactCoboundaryOf", fn := fun _ => fun
  | [d1, d2, d3] => { results := [.lit (.bool false)], args := [d1, d2, d3] }
  | _ => none }
def FnExactCoboundaryOfWrongFalsely : Prop := fnExactCoboundaryOfRow.holds Try.pinned (OpenSpec.ofChange fnExactCoboundaryOfWrong)

/-- 'laws.FnExactIsCocycle': WHATEVER THE INPUT: true; the input reads as it did. -/
def fnExactIsCocycleSpec : ChangeSpec := { name := "fnExactIsCocycle", fn := fun _ => fun
  | [d1, d2, d3] => { results := [.lit (.bool true)], args := [d1, d2, d3] }
  | _ => none }
def fnExactIsCocycleRow : OpenClaim := { program := "ytcombgcjgdkbiaa", sum := "aa5ca071dd2a90e664fba2c1ff9e8240b456bc529112ce46eb253136fb113b23", func := "loop.example/g01267/laws.FnExactIsCocycle", spec := "fnExactIsCocycle", unfollowed := true, recurses := true, apart := false }
def FnExactIsCocycleSaid : Prop := fnExactIsCocycleRow.holds Try.pinned (OpenSpec.ofChange fnExactIsCocycleSpec)

/-- ITS FALSE NEIGHBOUR: 'it returns false'. Refute it at one input. -/
def fnExactIsCocycleWrong : ChangeSpec := { name := "fnExactIsCocycle", fn := fun _ => fun
  | [d1, d2, d3] => { results := [.lit (.bool false)], args := [d1, d2, d3] }
  | _ => none }
def FnExactIsCocycleWrongFalsely : Prop := fnExactIsCocycleRow.holds Try.pinned (OpenSpec.ofChange fnExactIsCocycleWrong)

/-- 'laws.FnExactTwistedAlgebra': WHATEVER THE INPUT: true; the input reads as it did. -/
def fnExactTwistedAlgebraSpec : ChangeSpec := { name := "fnExactTwistedAlgebra", fn := fun _ => fun
  | [d1, d2, d3] => { results := [.lit (.bool true)], args := [d1, d2, d3] }
  | _ => none }
def fnExactTwistedAlgebraRow : OpenClaim := { program := "ytcombgcjgdkbiaa", sum := "aa5ca071dd2a90e664fba2c1ff9e8240b456bc529112ce46eb253136fb113b23", func := "loop.example/g01267/laws.FnExactTwistedAlgebra", spec := "fnExactTwistedAlgebra", unfollowed := true, recurses := true, apart := false }
def FnExactTwistedAlgebraSaid : Prop := fnExactTwistedAlgebraRow.holds Try.pinned (OpenSpec.ofChange fnExactTwistedAlgebraSpec)

/-- ITS FALSE NEIGHBOUR: 'it returns false'. Refute it at one input. -/
def fnExactTwistedAlgebraWrong : ChangeSpec := { name := "fnExactTwistedAlgebra", fn := fun _ => fun
  | [d1, d2, d3] => { results := [.lit (.bool false)], args := [d1, d2, d3] }
  | _ => none }
def FnExactTwistedAlgebraWrongFalsely : Prop := fnExactTwistedAlgebraRow.holds Try.pinned (OpenSpec.ofChange fnExactTwistedAlgebraWrong)

/- THE SECOND FORM. 'bulk': how many values and letters a reading holds, each counted each time it is reached (what is shared counts as often as it is met; a slice's spare places count too). A statement '..UptoSaid' is the law's where the arguments, and the package variables that the reading takes, are together of bulk at most 1048576: NARROWER than '..Said'. Prove '..Said' where nothing that the law and all that it calls make is longer than what came in: it says more and counts as full. Else prove '..UptoSaid'. A law counts once. -/
mutual
def uptoBulk {H : Type} : DataW H → Nat
  | .lit (.string bytes) => bytes.length + 1
  | .lit _ => 1
  | .nil => 1
  | .ptr d => uptoBulk d + 1
  | .slice elems spare => uptoBulkAll elems + uptoBulkAll spare + 1
  | .agg parts => uptoBulkAll parts + 1
  | .iface _ d => uptoBulk d + 1
  | .map entries => uptoBulkEntries entries + 1
  | .held _ => 1
def uptoBulkAll {H : Type} : List (DataW H) → Nat
  | [] => 0
  | d :: r => uptoBulk d + uptoBulkAll r
def uptoBulkEntries {H : Type} : List (Lit × DataW H) → Nat
  | [] => 0
  | x :: r => uptoBulkEntry x + uptoBulkEntries r
def uptoBulkEntry {H : Type} : Lit × DataW H → Nat
  | (.string bytes, d) => bytes.length + uptoBulk d + 1
  | (_, d) => uptoBulk d + 1
 end
def uptoSmall : (H : Type) → List (DataW H) → Bool := fun _ ds => decide (uptoBulkAll ds ≤ 1048576)
def OpenSpec.upto (s : _root_.Go.ChangeSpec) : _root_.Go.OpenSpec := { _root_.Go.OpenSpec.ofChange s with cond := some uptoSmall }

/-- 'laws.FnExactRootsOf', WHERE WHAT IT READS IS OF BULK AT MOST 1048576: true; the input reads as it did. -/
def fnExactRootsOfUptoRow : OpenClaim := { program := "ytcombgcjgdkbiaa", sum := "aa5ca071dd2a90e664fba2c1ff9e8240b456bc529112ce46eb253136fb113b23", func := "loop.example/g01267/laws.FnExactRootsOf", spec := "fnExactRootsOf", unfollowed := true, recurses := true, apart := false, narrowed := true }
def FnExactRootsOfUptoSaid : Prop := fnExactRootsOfUptoRow.holds Try.pinned (OpenSpec.upto fnExactRootsOfSpec)

/-- 'laws.FnExactRootNumber', WHERE WHAT IT READS IS OF BULK AT MOST 1048576: true; the input reads as it did. -/
def fnExactRootNumberUptoRow : OpenClaim := { program := "ytcombgcjgdkbiaa", sum := "aa5ca071dd2a90e664fba2c1ff9e8240b456bc529112ce46eb253136fb113b23", func := "loop.example/g01267/laws.FnExactRootNumber", spec := "fnExactRootNumber", unfollowed := true, recurses := true, apart := false, narrowed := true }
def FnExactRootNumberUptoSaid : Prop := fnExactRootNumberUptoRow.holds Try.pinned (OpenSpec.upto fnExactRootNumberSpec)

/-- 'laws.FnExactCountSquares', WHERE WHAT IT READS IS OF BULK AT MOST 1048576: true; the input reads as it did. -/
def fnExactCountSquaresUptoRow : OpenClaim := { program := "ytcombgcjgdkbiaa", sum := "aa5ca071dd2a90e664fba2c1ff9e8240b456bc529112ce46eb253136fb113b23", func := "loop.example/g01267/laws.FnExactCountSquares", spec := "fnExactCountSquares", apart := false, narrowed := true }
def FnExactCountSquaresUptoSaid : Prop := fnExactCountSquaresUptoRow.holds Try.pinned (OpenSpec.upto fnExactCountSquaresSpec)

/-- 'laws.FnExactCountHomomorphisms', WHERE WHAT IT READS IS OF BULK AT MOST 1048576: true; the input reads as it did. -/
def fnExactCountHomomorphismsUptoRow : OpenClaim := { program := "ytcombgcjgdkbiaa", sum := "aa5ca071dd2a90e664fba2c1ff9e8240b456bc529112ce46eb253136fb113b23", func := "loop.example/g01267/laws.FnExactCountHomomorphisms", spec := "fnExactCountHomomorphisms", apart := false, narrowed := true }
def FnExactCountHomomorphismsUptoSaid : Prop := fnExactCountHomomorphismsUptoRow.holds Try.pinned (OpenSpec.upto fnExactCountHomomorphismsSpec)

/-- 'laws.FnExactCountSurface', WHERE WHAT IT READS IS OF BULK AT MOST 1048576: true; the input reads as it did. -/
def fnExactCountSurfaceUptoRow : OpenClaim := { program := "ytcombgcjgdkbiaa", sum := "aa5ca071dd2a90e664fba2c1ff9e8240b456bc529112ce46eb253136fb113b23", func := "loop.example/g01267/laws.FnExactCountSurface", spec := "fnExactCountSurface", apart := false, narrowed := true }
def FnExactCountSurfaceUptoSaid : Prop := fnExactCountSurfaceUptoRow.holds Try.pinned (OpenSpec.upto fnExactCountSurfaceSpec)

/-- 'laws.FnExactStairsAlgebra', WHERE WHAT IT READS IS OF BULK AT MOST 1048576: true; the input reads as it did. -/
def fnExactStairsAlgebraUptoRow : OpenClaim := { program := "ytcombgcjgdkbiaa", sum := "aa5ca071dd2a90e664fba2c1ff9e8240b456bc529112ce46eb253136fb113b23", func := "loop.example/g01267/laws.FnExactStairsAlgebra", spec := "fnExactStairsAlgebra", unfollowed := true, recurses := true, apart := false, narrowed := true }
def FnExactStairsAlgebraUptoSaid : Prop := fnExactStairsAlgebraUptoRow.holds Try.pinned (OpenSpec.upto fnExactStairsAlgebraSpec)

/-- 'laws.FnExactPolynomialAlgebra', WHERE WHAT IT READS IS OF BULK AT MOST 1048576: true; the input reads as it did. -/
def fnExactPolynomialAlgebraUptoRow : OpenClaim := { program := "ytcombgcjgdkbiaa", sum := "aa5ca071dd2a90e664fba2c1ff9e8240b456bc529112ce46eb253136fb113b23", func := "loop.example/g01267/laws.FnExactPolynomialAlgebra", spec := "fnExactPolynomialAlgebra", unfollowed := true, recurses := true, apart := false, narrowed := true }
def FnExactPolynomialAlgebraUptoSaid : Prop := fnExactPolynomialAlgebraUptoRow.holds Try.pinned (OpenSpec.upto fnExactPolynomialAlgebraSpec)

/-- 'laws.FnExactNamedAlgebra', WHERE WHAT IT READS IS OF BULK AT MOST 1048576: true; the input reads as it did. -/
def fnExactNamedAlgebraUptoRow : OpenClaim := { program := "ytcombgcjgdkbiaa", sum := "aa5ca071dd2a90e664fba2c1ff9e8240b456bc529112ce46eb253136fb113b23", func := "loop.example/g01267/laws.FnExactNamedAlgebra", spec := "fnExactNamedAlgebra", unfollowed := true, recurses := true, apart := false, narrowed := true }
def FnExactNamedAlgebraUptoSaid : Prop := fnExactNamedAlgebraUptoRow.holds Try.pinned (OpenSpec.upto fnExactNamedAlgebraSpec)

/-- 'laws.FnExactGroupAlgebra', WHERE WHAT IT READS IS OF BULK AT MOST 1048576: true; the input reads as it did. -/
def fnExactGroupAlgebraUptoRow : OpenClaim := { program := "ytcombgcjgdkbiaa", sum := "aa5ca071dd2a90e664fba2c1ff9e8240b456bc529112ce46eb253136fb113b23", func := "loop.example/g01267/laws.FnExactGroupAlgebra", spec := "fnExactGroupAlgebra", unfollowed := true, recurses := true, apart := false, narrowed := true }
def FnExactGroupAlgebraUptoSaid : Prop := fnExactGroupAlgebraUptoRow.holds Try.pinned (OpenSpec.upto fnExactGroupAlgebraSpec)

/-- 'laws.FnExactCoboundaryOf', WHERE WHAT IT READS IS OF BULK AT MOST 1048576: true; the input reads as it did. -/
def fnExactCoboundaryOfUptoRow : OpenClaim := { program := "ytcombgcjgdkbiaa", sum := "aa5ca071dd2a90e664fba2c1ff9e8240b456bc529112ce46eb253136fb113b23", func := "loop.example/g01267/laws.FnExactCoboundaryOf", spec := "fnExactCoboundaryOf", unfollowed := true, recurses := true, apart := false, narrowed := true }
def FnExactCoboundaryOfUptoSaid : Prop := fnExactCoboundaryOfUptoRow.holds Try.pinned (OpenSpec.upto fnExactCoboundaryOfSpec)

/-- 'laws.FnExactIsCocycle', WHERE WHAT IT READS IS OF BULK AT MOST 1048576: true; the input reads as it did. -/
def fnExactIsCocycleUptoRow : OpenClaim := { program := "ytcombgcjgdkbiaa", sum := "aa5ca071dd2a90e664fba2c1ff9e8240b456bc529112ce46eb253136fb113b23", func := "loop.example/g01267/laws.FnExactIsCocycle", spec := "fnExactIsCocycle", unfollowed := true, recurses := true, apart := false, narrowed := true }
def FnExactIsCocycleUptoSaid : Prop := fnExactIsCocycleUptoRow.holds Try.pinned (OpenSpec.upto fnExactIsCocycleSpec)

/-- 'laws.FnExactTwistedAlgebra', WHERE WHAT IT READS IS OF BULK AT MOST 1048576: true; the input reads as it did. -/
def fnExactTwistedAlgebraUptoRow : OpenClaim := { program := "ytcombgcjgdkbiaa", sum := "aa5ca071dd2a90e664fba2c1ff9e8240b456bc529112ce46eb253136fb113b23", func := "loop.example/g01267/laws.FnExactTwistedAlgebra", spec := "fnExactTwistedAlgebra", unfollowed := true, recurses := true, apart := false, narrowed := true }
def FnExactTwistedAlgebraUptoSaid : Prop := fnExactTwistedAlgebraUptoRow.holds Try.pinned (OpenSpec.upto fnExactTwistedAlgebraSpec)

end Rows
end Go.Proofs.Ytcombgcjgdkbiaa
