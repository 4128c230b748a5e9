/-
  No cell of these rows narrows 'for every input' (looked for: loops, veiled, ifaces, maps, wideKeys, modest, calm, conditions, laid).
  DERIVED. THE GIVEN ROWS OF THIS SEAT. 11 by the template 'for every input the law returns true; each argument reads behind the call as it read before'; 0 by the template 'total and deterministic' (their statements: YtgljkechjkllgaaTotals.lean).
  GIVEN WITH THE SEED: the statements are not yours to turn. If you find one false, say at which input.
  Laid BY PROGRAM, IN A SANDBOX (cutbox-rows.mjs): the forced cells as the released guide's own fill.sh prints them over the translation 5ad5b8b859c4707b… (all of the seat's roots in one cut). By AI agents, Wed Nov 11 2026. No macro, syntax, notation, axiom, sorry.
-/
import Derived.Test.YtgljkechjkllgaaChecked
import GoSem.Claim
import GoSem.ClaimJoined
import GoSem.ClaimMapViews
import Derived.JoinedTies
import Derived.KernelRfl
namespace Go.Proofs.Ytgljkechjkllgaa
/- THE CELL 'sum', in the pinned program and in every row, IS THE sha256 OF THE DUMP (.gsa) THAT YtgljkechjkllgaaProg.lean LOADS. Nothing in Lean hashes anything: it is a label: what it is worth is what the hold of that sum in a sandbox is worth. -/
noncomputable def Try.pinned : Pinned := { name := "ytgljkechjkllgaa", sum := "5ad5b8b859c4707bf5b415d2485c79b204ffdd514cb3e66c5b797d25db57e0ee", checked := Try.checked }
namespace Rows
def none {H : Type} : Left H := { results := [], args := [] }

/-- 'laws.FnExactConstants': WHATEVER THE INPUT: true; the input reads as it did. -/
def fnExactConstantsSpec : ChangeSpec := { name := "fnExactConstants", fn := fun _ => fun
  | [] => { results := [.lit (.bool true)], args := [] }
  | _ => none }
def fnExactConstantsRow : OpenClaim := { program := "ytgljkechjkllgaa", sum := "5ad5b8b859c4707bf5b415d2485c79b204ffdd514cb3e66c5b797d25db57e0ee", func := "loop.example/g01267/laws.FnExactConstants", spec := "fnExactConstants", apart := false }
def FnExactConstantsSaid : Prop := fnExactConstantsRow.holds Try.pinned (OpenSpec.ofChange fnExactConstantsSpec)

/-- ITS FALSE NEIGHBOUR: 'it returns false'. Refute it at one input. -/
def fnExactConstantsWrong : ChangeSpec := { name := "fnExactConstants", fn := fun _ => fun
  | [] => { results := [.lit (.bool false)], args := [] }
  | _ => none }
def FnExactConstantsWrongFalsely : Prop := fnExactConstantsRow.holds Try.pinned (OpenSpec.ofChange fnExactConstantsWrong)

/-- 'laws.FnExactAlgebraNames': WHATEVER THE INPUT: true; the input reads as it did. -/
def fnExactAlgebraNamesSpec : ChangeSpec := { name := "fnExactAlgebraNames", fn := fun _ => fun
  | [] => { results := [.lit (.bool true)], args := [] }
  | _ => none }
def fnExactAlgebraNamesRow : OpenClaim := { program := "ytgljkechjkllgaa", sum := "5ad5b8b859c4707bf5b415d2485c79b204ffdd514cb3e66c5b797d25db57e0ee", func := "loop.example/g01267/laws.FnExactAlgebraNames", spec := "fnExactAlgebraNames", apart := false }
def FnExactAlgebraNamesSaid : Prop := fnExactAlgebraNamesRow.holds Try.pinned (OpenSpec.ofChange fnExactAlgebraNamesSpec)

/-- ITS FALSE NEIGHBOUR: 'it returns false'. Refute it at one input. -/
def fnExactAlgebraNamesWrong : ChangeSpec := { name := "fnExactAlgebraNames", fn := fun _ => fun
  | [] => { results := [.lit (.bool false)], args := [] }
  | _ => none }
def FnExactAlgebraNamesWrongFalsely : Prop := fnExactAlgebraNamesRow.holds Try.pinned (OpenSpec.ofChange fnExactAlgebraNamesWrong)

/-- 'laws.FnExactNamedSurface': WHATEVER THE INPUT: true; the input reads as it did. -/
def fnExactNamedSurfaceSpec : ChangeSpec := { name := "fnExactNamedSurface", fn := fun _ => fun
  | [d] => { results := [.lit (.bool true)], args := [d] }
  | _ => none }
def fnExactNamedSurfaceRow : OpenClaim := { program := "ytgljkechjkllgaa", sum := "5ad5b8b859c4707bf5b415d2485c79b204ffdd514cb3e66c5b797d25db57e0ee", func := "loop.example/g01267/laws.FnExactNamedSurface", spec := "fnExactNamedSurface", apart := false }
def FnExactNamedSurfaceSaid : Prop := fnExactNamedSurfaceRow.holds Try.pinned (OpenSpec.ofChange fnExactNamedSurfaceSpec)

/-- ITS FALSE NEIGHBOUR: 'it returns false'. Refute it at one input. -/
def fnExactNamedSurfaceWrong : ChangeSpec := { name := "fnExactNamedSurface", fn := fun _ => fun
  | [d] => { results := [.lit (.bool false)], args := [d] }
  | _ => none }
def FnExactNamedSurfaceWrongFalsely : Prop := fnExactNamedSurfaceRow.holds Try.pinned (OpenSpec.ofChange fnExactNamedSurfaceWrong)

/-- 'laws.FnExactIsGroup': WHATEVER THE INPUT: true; the input reads as it did. -/
def fnExactIsGroupSpec : ChangeSpec := { name := "fnExactIsGroup", fn := fun _ => fun
  | [d] => { results := [.lit (.bool true)], args := [d] }
  | _ => none }
def fnExactIsGroupRow : OpenClaim := { program := "ytgljkechjkllgaa", sum := "5ad5b8b859c4707bf5b415d2485c79b204ffdd514cb3e66c5b797d25db57e0ee", func := "loop.example/g01267/laws.FnExactIsGroup", spec := "fnExactIsGroup", apart := false }
def FnExactIsGroupSaid : Prop := fnExactIsGroupRow.holds Try.pinned (OpenSpec.ofChange fnExactIsGroupSpec)

/-- ITS FALSE NEIGHBOUR: 'it returns false'. Refute it at one input. -/
def fnExactIsGroupWrong : ChangeSpec := { name := "fnExactIsGroup", fn := fun _ => fun
  | [d] => { results := [.lit (.bool false)], args := [d] }
  | _ => none }
def FnExactIsGroupWrongFalsely : Prop := fnExactIsGroupRow.holds Try.pinned (OpenSpec.ofChange fnExactIsGroupWrong)

/-- 'laws.FnExactKnownGroup': WHATEVER THE INPUT: true; the input reads as it did. -/
def fnExactKnownGroupSpec : ChangeSpec := { name := "fnExactKnownGroup", fn := fun _ => fun
  | [d] => { results := [.lit (.bool true)], args := [d] }
  | _ => none }
def fnExactKnownGroupRow : OpenClaim := { program := "ytgljkechjkllgaa", sum := "5ad5b8b859c4707bf5b415d2485c79b204ffdd514cb3e66c5b797d25db57e0ee", func := "loop.example/g01267/laws.FnExactKnownGroup", spec := "fnExactKnownGroup", unfollowed := true, recurses := true, apart := false }
def FnExactKnownGroupSaid : Prop := fnExactKnownGroupRow.holds Try.pinned (OpenSpec.ofChange fnExactKnownGroupSpec)

/-- ITS FALSE NEIGHBOUR: 'it returns false'. Refute it at one input. -/
def fnExactKnownGroupWrong : ChangeSpec := { name := "fnExactKnownGroup", fn := fun _ => fun
  | [d] => { results := [.lit (.bool false)], args := [d] }
  | _ => none }
def FnExactKnownGroupWrongFalsely : Prop := fnExactKnownGroupRow.holds Try.pinned (OpenSpec.ofChange fnExactKnownGroupWrong)

/-- 'laws.FnExactProductOfRoots': WHATEVER THE INPUT: true; the input reads as it did. -/
def fnExactProductOfRootsSpec : ChangeSpec := { name := "fnExactProductOfRoots", fn := fun _ => fun
  | [d1, d2] => { results := [.lit (.bool true)], args := [d1, d2] }
  | _ => none }
def fnExactProductOfRootsRow : OpenClaim := { program := "ytgljkechjkllgaa", sum := "5ad5b8b859c4707bf5b415d2485c79b204ffdd514cb3e66c5b797d25db57e0ee", func := "loop.example/g01267/laws.FnExactProductOfRoots", spec := "fnExactProductOfRoots", unfollowed := true, recurses := true, apart := false }
def FnExactProductOfRootsSaid : Prop := fnExactProductOfRootsRow.holds Try.pinned (OpenSpec.ofChange fnExactProductOfRootsSpec)

/-- ITS FALSE NEIGHBOUR: 'it returns false'. Refute it at one input. -/
def fnExactProductOfRootsWrong : ChangeSpec := { name := "fnExactProductOfRoots", fn := fun _ => fun
  | [d1, d2] => { results := [.lit (.bool false)], args := [d1, d2] }
  | _ => none }
def FnExactProductOfRootsWrongFalsely : Prop := fnExactProductOfRootsRow.holds Try.pinned (OpenSpec.ofChange fnExactProductOfRootsWrong)

/-- 'laws.FnExactSlopeAt': WHATEVER THE INPUT: true; the input reads as it did. -/
def fnExactSlopeAtSpec : ChangeSpec := { name := "fnExactSlopeAt", fn := fun _ => fun
  | [d1, d2, d3] => { results := [.lit (.bool true)], args := [d1, d2, d3] }
  | _ => none }
def fnExactSlopeAtRow : OpenClaim := { program := "ytgljkechjkllgaa", sum := "5ad5b8b859c4707bf5b415d2485c79b204ffdd514cb3e66c5b797d25db57e0ee", func := "loop.example/g01267/laws.FnExactSlopeAt", spec := "fnExactSlopeAt", unfollowed := true, recurses := true, apart := false }
def FnExactSlopeAtSaid : Prop := fnExactSlopeAtRow.holds Try.pinned (OpenSpec.ofChange fnExactSlopeAtSpec)

/-- ITS FALSE NEIGHBOUR: 'it returns false'. Refute it at one input. -/
def fnExactSlopeAtWrong : ChangeSpec := { name := "fnExactSlopeAt", fn := fun _ => fun
  | [d1, d2, d3] => { results := [.lit (.bool false)], args := [d1, d2, d3] }
  | _ => none }
def FnExactSlopeAtWrongFalsely : Prop := fnExactSlopeAtRow.holds Try.pinned (OpenSpec.ofChange fnExactSlopeAtWrong)

/-- 'laws.FnExactIsSurface': WHATEVER THE INPUT: true; the input reads as it did. -/
def fnExactIsSurfaceSpec : ChangeSpec := { name := "fnExactIsSurface", fn := fun _ => fun
  | [d] => { results := [.lit (.bool true)], args := [d] }
  | _ => none }
def fnExactIsSurfaceRow : OpenClaim := { program := "ytgljkechjkllgaa", sum := "5ad5b8b859c4707bf5b415d2485c79b204ffdd514cb3e66c5b797d25db57e0ee", func := "loop.example/g01267/laws.FnExactIsSurface", spec := "fnExactIsSurface", unfollowed := true, recurses := true, apart := false }
def FnExactIsSurfaceSaid : Prop := fnExactIsSurfaceRow.holds Try.pinned (OpenSpec.ofChange fnExactIsSurfaceSpec)

/-- ITS FALSE NEIGHBOUR: 'it returns false'. Refute it at one input. -/
def fnExactIsSurfaceWrong : ChangeSpec := { name := "fnExactIsSurface", fn := fun _ => fun
  | [d] => { results := [.lit (.bool false)], args := [d] }
  | _ => none }
def FnExactIsSurfaceWrongFalsely : Prop := fnExactIsSurfaceRow.holds Try.pinned (OpenSpec.ofChange fnExactIsSurfaceWrong)

/-- 'laws.FnExactCommutingPairs': WHATEVER THE INPUT: true; the input reads as it did. -/
def fnExactCommutingPairsSpec : ChangeSpec := { name := "fnExactCommutingPairs", fn := fun _ => fun
  | [d] => { results := [.lit (.bool true)], args := [d] }
  | _ => none }
def fnExactCommutingPairsRow : OpenClaim := { program := "ytgljkechjkllgaa", sum := "5ad5b8b859c4707bf5b415d2485c79b204ffdd514cb3e66c5b797d25db57e0ee", func := "loop.example/g01267/laws.FnExactCommutingPairs", spec := "fnExactCommutingPairs", apart := false }
def FnExactCommutingPairsSaid : Prop := fnExactCommutingPairsRow.holds Try.pinned (OpenSpec.ofChange fnExactCommutingPairsSpec)

/-- ITS FALSE NEIGHBOUR: 'it returns false'. Refute it at one input. -/
def fnExactCommutingPairsWrong : ChangeSpec := { name := "fnExactCommutingPairs", fn := fun _ => fun
  | [d] => { results := [.lit (.bool false)], args := [d] }
  | _ => none }
def FnExactCommutingPairsWrongFalsely : Prop := fnExactCommutingPairsRow.holds Try.pinned (OpenSpec.ofChange fnExactCommutingPairsWrong)

/-- 'laws.FnExactIsTensor': WHATEVER THE INPUT: true; the input reads as it did. -/
def fnExactIsTensorSpec : ChangeSpec := { name := "fnExactIsTensor", fn := fun _ => fun
  | [d] => { results := [.lit (.bool true)], args := [d] }
  | _ => none }
def fnExactIsTensorRow : OpenClaim := { program := "ytgljkechjkllgaa", sum := "5ad5b8b859c4707bf5b415d2485c79b204ffdd514cb3e66c5b797d25db57e0ee", func := "loop.example/g01267/laws.FnExactIsTensor", spec := "fnExactIsTensor", unfollowed := true, recurses := true, apart := false }
def FnExactIsTensorSaid : Prop := fnExactIsTensorRow.holds Try.pinned (OpenSpec.ofChange fnExactIsTensorSpec)

/-- ITS FALSE NEIGHBOUR: 'it returns false'. Refute it at one input. -/
def fnExactIsTensorWrong : ChangeSpec := { name := "fnExactIsTensor", fn := fun _ => fun
  | [d] => { results := [.lit (.bool false)], args := [d] }
  | _ => none }
def FnExactIsTensorWrongFalsely : Prop := fnExactIsTensorRow.holds Try.pinned (OpenSpec.ofChange fnExactIsTensorWrong)

/-- 'laws.FnExactCornersOf': WHATEVER THE INPUT: true; the input reads as it did. -/
def fnExactCornersOfSpec : ChangeSpec := { name := "fnExactCornersOf", fn := fun _ => fun
  | [d] => { results := [.lit (.bool true)], args := [d] }
  | _ => none }
def fnExactCornersOfRow : OpenClaim := { program := "ytgljkechjkllgaa", sum := "5ad5b8b859c4707bf5b415d2485c79b204ffdd514cb3e66c5b797d25db57e0ee", func := "loop.example/g01267/laws.FnExactCornersOf", spec := "fnExactCornersOf", apart := false }
def FnExactCornersOfSaid : Prop := fnExactCornersOfRow.holds Try.pinned (OpenSpec.ofChange fnExactCornersOfSpec)

/-- ITS FALSE NEIGHBOUR: 'it returns false'. Refute it at one input. -/
def fnExactCornersOfWrong : ChangeSpec := { name := "fnExactCornersOf", fn := fun _ => fun
  | [d] => { results := [.lit (.bool false)], args := [d] }
  | _ => none }
def FnExactCornersOfWrongFalsely : Prop := fnExactCornersOfRow.holds Try.pinned (OpenSpec.ofChange fnExactCornersOfWrong)

/- THE SECOND FORM. 'bulk': how many values and letters a reading holds, each counted each time it is reached (what is shared counts as often as it is met; a slice's spare places count too). A statement '..UptoSaid' is the law's where the arguments, and the package variables that the reading takes, are together of bulk at most 1048576: NARROWER than '..Said'. Prove '..Said' where nothing that the law and all that it calls make is longer than what came in: it says more and counts as full. Else prove '..UptoSaid'. A law counts once. -/
mutual
def uptoBulk {H : Type} : DataW H → Nat
  | .lit (.string bytes) => bytes.length + 1
  | .lit _ => 1
  | .nil => 1
  | .ptr d => uptoBulk d + 1
  | .slice elems spare => uptoBulkAll elems + uptoBulkAll spare + 1
  | .agg parts => uptoBulkAll parts + 1
  | .iface _ d => uptoBulk d + 1
  | .map entries => uptoBulkEntries entries + 1
  | .held _ => 1
def uptoBulkAll {H : Type} : List (DataW H) → Nat
  | [] => 0
  | d :: r => uptoBulk d + uptoBulkAll r
def uptoBulkEntries {H : Type} : List (Lit × DataW H) → Nat
  | [] => 0
  | x :: r => uptoBulkEntry x + uptoBulkEntries r
def uptoBulkEntry {H : Type} : Lit × DataW H → Nat
  | (.string bytes, d) => bytes.length + uptoBulk d + 1
  | (_, d) => uptoBulk d + 1
 end
def uptoSmall : (H : Type) → List (DataW H) → Bool := fun _ ds => decide (uptoBulkAll ds ≤ 1048576)
def OpenSpec.upto (s : _root_.Go.ChangeSpec) : _root_.Go.OpenSpec := { _root_.Go.OpenSpec.ofChange s with cond := some uptoSmall }

/-- 'laws.FnExactConstants', WHERE WHAT IT READS IS OF BULK AT MOST 1048576: true; the input reads as it did. -/
def fnExactConstantsUptoRow : OpenClaim := { program := "ytgljkechjkllgaa", sum := "5ad5b8b859c4707bf5b415d2485c79b204ffdd514cb3e66c5b797d25db57e0ee", func := "loop.example/g01267/laws.FnExactConstants", spec := "fnExactConstants", apart := false, narrowed := true }
def FnExactConstantsUptoSaid : Prop := fnExactConstantsUptoRow.holds Try.pinned (OpenSpec.upto fnExactConstantsSpec)

/-- 'laws.FnExactAlgebraNames', WHERE WHAT IT READS IS OF BULK AT MOST 1048576: true; the input reads as it did. -/
def fnExactAlgebraNamesUptoRow : OpenClaim := { program := "ytgljkechjkllgaa", sum := "5ad5b8b859c4707bf5b415d2485c79b204ffdd514cb3e66c5b797d25db57e0ee", func := "loop.example/g01267/laws.FnExactAlgebraNames", spec := "fnExactAlgebraNames", apart := false, narrowed := true }
def FnExactAlgebraNamesUptoSaid : Prop := fnExactAlgebraNamesUptoRow.holds Try.pinned (OpenSpec.upto fnExactAlgebraNamesSpec)

/-- 'laws.FnExactNamedSurface', WHERE WHAT IT READS IS OF BULK AT MOST 1048576: true; the input reads as it did. -/
def fnExactNamedSurfaceUptoRow : OpenClaim := { program := "ytgljkechjkllgaa", sum := "5ad5b8b859c4707bf5b415d2485c79b204ffdd514cb3e66c5b797d25db57e0ee", func := "loop.example/g01267/laws.FnExactNamedSurface", spec := "fnExactNamedSurface", apart := false, narrowed := true }
def FnExactNamedSurfaceUptoSaid : Prop := fnExactNamedSurfaceUptoRow.holds Try.pinned (OpenSpec.upto fnExactNamedSurfaceSpec)

/-- 'laws.FnExactIsGroup', WHERE WHAT IT READS IS OF BULK AT MOST 1048576: true; the input reads as it did. -/
def fnExactIsGroupUptoRow : OpenClaim := { program := "ytgljkechjkllgaa", sum := "5ad5b8b859c4707bf5b415d2485c79b204ffdd514cb3e66c5b797d25db57e0ee", func := "loop.example/g01267/laws.FnExactIsGroup", spec := "fnExactIsGroup", apart := false, narrowed := true }
def FnExactIsGroupUptoSaid : Prop := fnExactIsGroupUptoRow.holds Try.pinned (OpenSpec.upto fnExactIsGroupSpec)

/-- 'laws.FnExactKnownGroup', WHERE WHAT IT READS IS OF BULK AT MOST 1048576: true; the input reads as it did. -/
def fnExactKnownGroupUptoRow : OpenClaim := { program := "ytgljkechjkllgaa", sum := "5ad5b8b859c4707bf5b415d2485c79b204ffdd514cb3e66c5b797d25db57e0ee", func := "loop.example/g01267/laws.FnExactKnownGroup", spec := "fnExactKnownGroup", unfollowed := true, recurses := true, apart := false, narrowed := true }
def FnExactKnownGroupUptoSaid : Prop := fnExactKnownGroupUptoRow.holds Try.pinned (OpenSpec.upto fnExactKnownGroupSpec)

/-- 'laws.FnExactProductOfRoots', WHERE WHAT IT READS IS OF BULK AT MOST 1048576: true; the input reads as it did. -/
def fnExactProductOfRootsUptoRow : OpenClaim := { program := "ytgljkechjkllgaa", sum := "5ad5b8b859c4707bf5b415d2485c79b204ffdd514cb3e66c5b797d25db57e0ee", func := "loop.example/g01267/laws.FnExactProductOfRoots", spec := "fnExactProductOfRoots", unfollowed := true, recurses := true, apart := false, narrowed := true }
def FnExactProductOfRootsUptoSaid : Prop := fnExactProductOfRootsUptoRow.holds Try.pinned (OpenSpec.upto fnExactProductOfRootsSpec)

/-- 'laws.FnExactSlopeAt', WHERE WHAT IT READS IS OF BULK AT MOST 1048576: true; the input reads as it did. -/
def fnExactSlopeAtUptoRow : OpenClaim := { program := "ytgljkechjkllgaa", sum := "5ad5b8b859c4707bf5b415d2485c79b204ffdd514cb3e66c5b797d25db57e0ee", func := "loop.example/g01267/laws.FnExactSlopeAt", spec := "fnExactSlopeAt", unfollowed := true, recurses := true, apart := false, narrowed := true }
def FnExactSlopeAtUptoSaid : Prop := fnExactSlopeAtUptoRow.holds Try.pinned (OpenSpec.upto fnExactSlopeAtSpec)

/-- 'laws.FnExactIsSurface', WHERE WHAT IT READS IS OF BULK AT MOST 1048576: true; the input reads as it did. -/
def fnExactIsSurfaceUptoRow : OpenClaim := { program := "ytgljkechjkllgaa", sum := "5ad5b8b859c4707bf5b415d2485c79b204ffdd514cb3e66c5b797d25db57e0ee", func := "loop.example/g01267/laws.FnExactIsSurface", spec := "fnExactIsSurface", unfollowed := true, recurses := true, apart := false, narrowed := true }
def FnExactIsSurfaceUptoSaid : Prop := fnExactIsSurfaceUptoRow.holds Try.pinned (OpenSpec.upto fnExactIsSurfaceSpec)

/-- 'laws.FnExactCommutingPairs', WHERE WHAT IT READS IS OF BULK AT MOST 1048576: true; the input reads as it did. -/
def fnExactCommutingPairsUptoRow : OpenClaim := { program := "ytgljkechjkllgaa", sum := "5ad5b8b859c4707bf5b415d2485c79b204ffdd514cb3e66c5b797d25db57e0ee", func := "loop.example/g01267/laws.FnExactCommutingPairs", spec := "fnExactCommutingPairs", apart := false, narrowed := true }
def FnExactCommutingPairsUptoSaid : Prop := fnExactCommutingPairsUptoRow.holds Try.pinned (OpenSpec.upto fnExactCommutingPairsSpec)

/-- 'laws.FnExactIsTensor', WHERE WHAT IT READS IS OF BULK AT MOST 1048576: true; the input reads as it did. -/
def fnExactIsTensorUptoRow : OpenClaim := { program := "ytgljkechjkllgaa", sum := "5ad5b8b859c4707bf5b415d2485c79b204ffdd514cb3e66c5b797d25db57e0ee", func := "loop.example/g01267/laws.FnExactIsTensor", spec := "fnExactIsTensor", unfollowed := true, recurses := true, apart := false, narrowed := true }
def FnExactIsTensorUptoSaid : Prop := fnExactIsTensorUptoRow.holds Try.pinned (OpenSpec.upto fnExactIsTensorSpec)

/-- 'laws.FnExactCornersOf', WHERE WHAT IT READS IS OF BULK AT MOST 1048576: true; the input reads as it did. -/
def fnExactCornersOfUptoRow : OpenClaim := { program := "ytgljkechjkllgaa", sum := "5ad5b8b859c4707bf5b415d2485c79b204ffdd514cb3e66c5b797d25db57e0ee", func := "loop.example/g01267/laws.FnExactCornersOf", spec := "fnExactCornersOf", apart := false, narrowed := true }
def FnExactCornersOfUptoSaid : Prop := fnExactCornersOfUptoRow.holds Try.pinned (OpenSpec.upto fnExactCornersOfSpec)

end Rows
end Go.Proofs.Ytgljkechjkllgaa
