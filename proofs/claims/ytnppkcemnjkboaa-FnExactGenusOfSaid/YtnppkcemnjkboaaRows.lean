/-
  No cell of these rows narrows 'for every input' (looked for: loops, veiled, ifaces, maps, wideKeys, modest, calm, conditions, laid).
  DERIVED. THE GIVEN ROWS OF THIS SEAT. 10 by the template 'for every input the law returns true; each argument reads behind the call as it read before'; 0 by the template 'total and deterministic' (their statements: YtnppkcemnjkboaaTotals.lean).
  GIVEN WITH THE SEED: the statements are not yours to turn. If you find one false, say at which input.
  Laid BY PROGRAM, IN A SANDBOX (cutbox-rows.mjs): the forced cells as the released guide's own fill.sh prints them over the translation dfde19779fa55204… (all of the seat's roots in one cut). By AI agents, Wed Nov 11 2026. No macro, syntax, notation, axiom, sorry.
-/
import Derived.Test.YtnppkcemnjkboaaChecked
import GoSem.Claim
import GoSem.ClaimJoined
import GoSem.ClaimMapViews
import Derived.JoinedTies
import Derived.KernelRfl
namespace Go.Proofs.Ytnppkcemnjkboaa
/- THE CELL 'sum', in the pinned program and in every row, IS THE sha256 OF THE DUMP (.gsa) THAT YtnppkcemnjkboaaProg.lean LOADS. Nothing in Lean hashes anything: it is a label: what it is worth is what the hold of that sum in a sandbox is worth. -/
noncomputable def Try.pinned : Pinned := { name := "ytnppkcemnjkboaa", sum := "dfde19779fa55204b4f876c5cfbd5f529f9ed37cd22069d6d56f53dac06e6eb0", checked := Try.checked }
namespace Rows
def none {H : Type} : Left H := { results := [], args := [] }

/-- 'laws.FnExactIsOriented': WHATEVER THE INPUT: true; the input reads as it did. -/
def fnExactIsOrientedSpec : ChangeSpec := { name := "fnExactIsOriented", fn := fun _ => fun
  | [d] => { results := [.lit (.bool true)], args := [d] }
  | _ => none }
def fnExactIsOrientedRow : OpenClaim := { program := "ytnppkcemnjkboaa", sum := "dfde19779fa55204b4f876c5cfbd5f529f9ed37cd22069d6d56f53dac06e6eb0", func := "loop.example/g01267/laws.FnExactIsOriented", spec := "fnExactIsOriented", unfollowed := true, recurses := true, apart := false }
def FnExactIsOrientedSaid : Prop := fnExactIsOrientedRow.holds Try.pinned (OpenSpec.ofChange fnExactIsOrientedSpec)

/-- ITS FALSE NEIGHBOUR: 'it returns false'. Refute it at one input. -/
def fnExactIsOrientedWrong : ChangeSpec := { name := "fnExactIsOriented", fn := fun _ => fun
  | [d] => { results := [.lit (.bool false)], args := [d] }
  | _ => none }
def FnExactIsOrientedWrongFalsely : Prop := fnExactIsOrientedRow.holds Try.pinned (OpenSpec.ofChange fnExactIsOrientedWrong)

/-- 'laws.FnExactSplitTriangle': WHATEVER THE INPUT: true; the input reads as it did. -/
def fnExactSplitTriangleSpec : ChangeSpec := { name := "fnExactSplitTriangle", fn := fun _ => fun
  | [d1, d2] => { results := [.lit (.bool true)], args := [d1, d2] }
  | _ => none }
def fnExactSplitTriangleRow : OpenClaim := { program := "ytnppkcemnjkboaa", sum := "dfde19779fa55204b4f876c5cfbd5f529f9ed37cd22069d6d56f53dac06e6eb0", func := "loop.example/g01267/laws.FnExactSplitTriangle", spec := "fnExactSplitTriangle", unfollowed := true, recurses := true, apart := false }
def FnExactSplitTriangleSaid : Prop := fnExactSplitTriangleRow.holds Try.pinned (OpenSpec.ofChange fnExactSplitTriangleSpec)

/-- ITS FALSE NEIGHBOUR: 'it returns false'. Refute it at one input. -/
def fnExactSplitTriangleWrong : ChangeSpec := { name := "fnExactSplitTriangle", fn := fun _ => fun
  | [d1, d2] => { results := [.lit (.bool false)], args := [d1, d2] }
  | _ => none }
def FnExactSplitTriangleWrongFalsely : Prop := fnExactSplitTriangleRow.holds Try.pinned (OpenSpec.ofChange fnExactSplitTriangleWrong)

/-- 'laws.FnExactCountSurfacePieces': WHATEVER THE INPUT: true; the input reads as it did. -/
def fnExactCountSurfacePiecesSpec : ChangeSpec := { name := "fnExactCountSurfacePieces", fn := fun _ => fun
  | [d] => { results := [.lit (.bool true)], args := [d] }
  | _ => none }
def fnExactCountSurfacePiecesRow : OpenClaim := { program := "ytnppkcemnjkboaa", sum := "dfde19779fa55204b4f876c5cfbd5f529f9ed37cd22069d6d56f53dac06e6eb0", func := "loop.example/g01267/laws.FnExactCountSurfacePieces", spec := "fnExactCountSurfacePieces", unfollowed := true, recurses := true, apart := false }
def FnExactCountSurfacePiecesSaid : Prop := fnExactCountSurfacePiecesRow.holds Try.pinned (OpenSpec.ofChange fnExactCountSurfacePiecesSpec)

/-- ITS FALSE NEIGHBOUR: 'it returns false'. Refute it at one input. -/
def fnExactCountSurfacePiecesWrong : ChangeSpec := { name := "fnExactCountSurfacePieces", fn := fun _ => fun
  | [d] => { results := [.lit (.bool false)], args := [d] }
  | _ => none }
def FnExactCountSurfacePiecesWrongFalsely : Prop := fnExactCountSurfacePiecesRow.holds Try.pinned (OpenSpec.ofChange fnExactCountSurfacePiecesWrong)

/-- 'laws.FnExactCountVertices': WHATEVER THE INPUT: true; the input reads as it did. -/
def fnExactCountVerticesSpec : ChangeSpec := { name := "fnExactCountVertices", fn := fun _ => fun
  | [d] => { results := [.lit (.bool true)], args := [d] }
  | _ => none }
def fnExactCountVerticesRow : OpenClaim := { program := "ytnppkcemnjkboaa", sum := "dfde19779fa55204b4f876c5cfbd5f529f9ed37cd22069d6d56f53dac06e6eb0", func := "loop.example/g01267/laws.FnExactCountVertices", spec := "fnExactCountVertices", unfollowed := true, recurses := true, apart := false }
def FnExactCountVerticesSaid : Prop := fnExactCountVerticesRow.holds Try.pinned (OpenSpec.ofChange fnExactCountVerticesSpec)

/-- ITS FALSE NEIGHBOUR: 'it returns false'. Refute it at one input. -/
def fnExactCountVerticesWrong : ChangeSpec := { name := "fnExactCountVertices", fn := fun _ => fun
  | [d] => { results := [.lit (.bool false)], args := [d] }
  | _ => none }
def FnExactCountVerticesWrongFalsely : Prop := fnExactCountVerticesRow.holds Try.pinned (OpenSpec.ofChange fnExactCountVerticesWrong)

/-- 'laws.FnExactEulerNumber': WHATEVER THE INPUT: true; the input reads as it did. -/
def fnExactEulerNumberSpec : ChangeSpec := { name := "fnExactEulerNumber", fn := fun _ => fun
  | [d] => { results := [.lit (.bool true)], args := [d] }
  | _ => none }
def fnExactEulerNumberRow : OpenClaim := { program := "ytnppkcemnjkboaa", sum := "dfde19779fa55204b4f876c5cfbd5f529f9ed37cd22069d6d56f53dac06e6eb0", func := "loop.example/g01267/laws.FnExactEulerNumber", spec := "fnExactEulerNumber", unfollowed := true, recurses := true, apart := false }
def FnExactEulerNumberSaid : Prop := fnExactEulerNumberRow.holds Try.pinned (OpenSpec.ofChange fnExactEulerNumberSpec)

/-- ITS FALSE NEIGHBOUR: 'it returns false'. Refute it at one input. -/
def fnExactEulerNumberWrong : ChangeSpec := { name := "fnExactEulerNumber", fn := fun _ => fun
  | [d] => { results := [.lit (.bool false)], args := [d] }
  | _ => none }
def FnExactEulerNumberWrongFalsely : Prop := fnExactEulerNumberRow.holds Try.pinned (OpenSpec.ofChange fnExactEulerNumberWrong)

/-- 'laws.FnExactFlipEdge': WHATEVER THE INPUT: true; the input reads as it did. -/
def fnExactFlipEdgeSpec : ChangeSpec := { name := "fnExactFlipEdge", fn := fun _ => fun
  | [d1, d2] => { results := [.lit (.bool true)], args := [d1, d2] }
  | _ => none }
def fnExactFlipEdgeRow : OpenClaim := { program := "ytnppkcemnjkboaa", sum := "dfde19779fa55204b4f876c5cfbd5f529f9ed37cd22069d6d56f53dac06e6eb0", func := "loop.example/g01267/laws.FnExactFlipEdge", spec := "fnExactFlipEdge", unfollowed := true, recurses := true, apart := false }
def FnExactFlipEdgeSaid : Prop := fnExactFlipEdgeRow.holds Try.pinned (OpenSpec.ofChange fnExactFlipEdgeSpec)

/-- ITS FALSE NEIGHBOUR: 'it returns false'. Refute it at one input. -/
def fnExactFlipEdgeWrong : ChangeSpec := { name := "fnExactFlipEdge", fn := fun _ => fun
  | [d1, d2] => { results := [.lit (.bool false)], args := [d1, d2] }
  | _ => none }
def FnExactFlipEdgeWrongFalsely : Prop := fnExactFlipEdgeRow.holds Try.pinned (OpenSpec.ofChange fnExactFlipEdgeWrong)

/-- 'laws.FnExactOrientSurface': WHATEVER THE INPUT: true; the input reads as it did. -/
def fnExactOrientSurfaceSpec : ChangeSpec := { name := "fnExactOrientSurface", fn := fun _ => fun
  | [d] => { results := [.lit (.bool true)], args := [d] }
  | _ => none }
def fnExactOrientSurfaceRow : OpenClaim := { program := "ytnppkcemnjkboaa", sum := "dfde19779fa55204b4f876c5cfbd5f529f9ed37cd22069d6d56f53dac06e6eb0", func := "loop.example/g01267/laws.FnExactOrientSurface", spec := "fnExactOrientSurface", unfollowed := true, recurses := true, apart := false }
def FnExactOrientSurfaceSaid : Prop := fnExactOrientSurfaceRow.holds Try.pinned (OpenSpec.ofChange fnExactOrientSurfaceSpec)

/-- ITS FALSE NEIGHBOUR: 'it returns false'. Refute it at one input. -/
def fnExactOrientSurfaceWrong : ChangeSpec := { name := "fnExactOrientSurface", fn := fun _ => fun
  | [d] => { results := [.lit (.bool false)], args := [d] }
  | _ => none }
def FnExactOrientSurfaceWrongFalsely : Prop := fnExactOrientSurfaceRow.holds Try.pinned (OpenSpec.ofChange fnExactOrientSurfaceWrong)

/-- 'laws.FnExactGenusOf': WHATEVER THE INPUT: true; the input reads as it did. -/
def fnExactGenusOfSpec : ChangeSpec := { name := "fnExactGenusOf", fn := fun _ => fun
  | [d] => { results := [.lit (.bool true)], args := [d] }
  | _ => none }
def fnExactGenusOfRow : OpenClaim := { program := "ytnppkcemnjkboaa", sum := "dfde19779fa55204b4f876c5cfbd5f529f9ed37cd22069d6d56f53dac06e6eb0", func := "loop.example/g01267/laws.FnExactGenusOf", spec := "fnExactGenusOf", unfollowed := true, recurses := true, apart := false }
def FnExactGenusOfSaid : Prop := fnExactGenusOfRow.holds Try.pinned (OpenSpec.ofChange fnExactGenusOfSpec)

/-- ITS FALSE NEIGHBOUR: 'it returns false'. Refute it at one input. -/
def fnExactGenusOfWrong : ChangeSpec := { name := "fnExactGenusOf", fn := fun _ => fun
  | [d] => { results := [.lit (.bool false)], args := [d] }
  | _ => none }
def FnExactGenusOfWrongFalsely : Prop := fnExactGenusOfRow.holds Try.pinned (OpenSpec.ofChange fnExactGenusOfWrong)

/-- 'laws.FnSurfaces': WHATEVER THE INPUT: true; the input reads as it did. -/
def fnSurfacesSpec : ChangeSpec := { name := "fnSurfaces", fn := fun _ => fun
  | [d] => { results := [.lit (.bool true)], args := [d] }
  | _ => none }
def fnSurfacesRow : OpenClaim := { program := "ytnppkcemnjkboaa", sum := "dfde19779fa55204b4f876c5cfbd5f529f9ed37cd22069d6d56f53dac06e6eb0", func := "loop.example/g01267/laws.FnSurfaces", spec := "fnSurfaces", unfollowed := true, recurses := true, apart := false }
def FnSurfacesSaid : Prop := fnSurfacesRow.holds Try.pinned (OpenSpec.ofChange fnSurfacesSpec)

/-- ITS FALSE NEIGHBOUR: 'it returns false'. Refute it at one input. -/
def fnSurfacesWrong : ChangeSpec := { name := "fnSurfaces", fn := fun _ => fun
  | [d] => { results := [.lit (.bool false)], args := [d] }
  | _ => none }
def FnSurfacesWrongFalsely : Prop := fnSurfacesRow.holds Try.pinned (OpenSpec.ofChange fnSurfacesWrong)

/-- 'laws.FnExactIsAlgebra': WHATEVER THE INPUT: true; the input reads as it did. -/
def fnExactIsAlgebraSpec : ChangeSpec := { name := "fnExactIsAlgebra", fn := fun _ => fun
  | [d] => { results := [.lit (.bool true)], args := [d] }
  | _ => none }
def fnExactIsAlgebraRow : OpenClaim := { program := "ytnppkcemnjkboaa", sum := "dfde19779fa55204b4f876c5cfbd5f529f9ed37cd22069d6d56f53dac06e6eb0", func := "loop.example/g01267/laws.FnExactIsAlgebra", spec := "fnExactIsAlgebra", unfollowed := true, recurses := true, apart := false }
def FnExactIsAlgebraSaid : Prop := fnExactIsAlgebraRow.holds Try.pinned (OpenSpec.ofChange fnExactIsAlgebraSpec)

/-- ITS FALSE NEIGHBOUR: 'it returns false'. Refute it at one input. -/
def fnExactIsAlgebraWrong : ChangeSpec := { name := "fnExactIsAlgebra", fn := fun _ => fun
  | [d] => { results := [.lit (.bool false)], args := [d] }
  | _ => none }
def FnExactIsAlgebraWrongFalsely : Prop := fnExactIsAlgebraRow.holds Try.pinned (OpenSpec.ofChange fnExactIsAlgebraWrong)

/- THE SECOND FORM. 'bulk': how many values and letters a reading holds, each counted each time it is reached (what is shared counts as often as it is met; a slice's spare places count too). A statement '..UptoSaid' is the law's where the arguments, and the package variables that the reading takes, are together of bulk at most 1048576: NARROWER than '..Said'. Prove '..Said' where nothing that the law and all that it calls make is longer than what came in: it says more and counts as full. Else prove '..UptoSaid'. A law counts once. -/
mutual
def uptoBulk {H : Type} : DataW H → Nat
  | .lit (.string bytes) => bytes.length + 1
  | .lit _ => 1
  | .nil => 1
  | .ptr d => uptoBulk d + 1
  | .slice elems spare => uptoBulkAll elems + uptoBulkAll spare + 1
  | .agg parts => uptoBulkAll parts + 1
  | .iface _ d => uptoBulk d + 1
  | .map entries => uptoBulkEntries entries + 1
  | .held _ => 1
def uptoBulkAll {H : Type} : List (DataW H) → Nat
  | [] => 0
  | d :: r => uptoBulk d + uptoBulkAll r
def uptoBulkEntries {H : Type} : List (Lit × DataW H) → Nat
  | [] => 0
  | x :: r => uptoBulkEntry x + uptoBulkEntries r
def uptoBulkEntry {H : Type} : Lit × DataW H → Nat
  | (.string bytes, d) => bytes.length + uptoBulk d + 1
  | (_, d) => uptoBulk d + 1
 end
def uptoSmall : (H : Type) → List (DataW H) → Bool := fun _ ds => decide (uptoBulkAll ds ≤ 1048576)
def OpenSpec.upto (s : _root_.Go.ChangeSpec) : _root_.Go.OpenSpec := { _root_.Go.OpenSpec.ofChange s with cond := some uptoSmall }

/-- 'laws.FnExactIsOriented', WHERE WHAT IT READS IS OF BULK AT MOST 1048576: true; the input reads as it did. -/
def fnExactIsOrientedUptoRow : OpenClaim := { program := "ytnppkcemnjkboaa", sum := "dfde19779fa55204b4f876c5cfbd5f529f9ed37cd22069d6d56f53dac06e6eb0", func := "loop.example/g01267/laws.FnExactIsOriented", spec := "fnExactIsOriented", unfollowed := true, recurses := true, apart := false, narrowed := true }
def FnExactIsOrientedUptoSaid : Prop := fnExactIsOrientedUptoRow.holds Try.pinned (OpenSpec.upto fnExactIsOrientedSpec)

/-- 'laws.FnExactSplitTriangle', WHERE WHAT IT READS IS OF BULK AT MOST 1048576: true; the input reads as it did. -/
def fnExactSplitTriangleUptoRow : OpenClaim := { program := "ytnppkcemnjkboaa", sum := "dfde19779fa55204b4f876c5cfbd5f529f9ed37cd22069d6d56f53dac06e6eb0", func := "loop.example/g01267/laws.FnExactSplitTriangle", spec := "fnExactSplitTriangle", unfollowed := true, recurses := true, apart := false, narrowed := true }
def FnExactSplitTriangleUptoSaid : Prop := fnExactSplitTriangleUptoRow.holds Try.pinned (OpenSpec.upto fnExactSplitTriangleSpec)

/-- 'laws.FnExactCountSurfacePieces', WHERE WHAT IT READS IS OF BULK AT MOST 1048576: true; the input reads as it did. -/
def fnExactCountSurfacePiecesUptoRow : OpenClaim := { program := "ytnppkcemnjkboaa", sum := "dfde19779fa55204b4f876c5cfbd5f529f9ed37cd22069d6d56f53dac06e6eb0", func := "loop.example/g01267/laws.FnExactCountSurfacePieces", spec := "fnExactCountSurfacePieces", unfollowed := true, recurses := true, apart := false, narrowed := true }
def FnExactCountSurfacePiecesUptoSaid : Prop := fnExactCountSurfacePiecesUptoRow.holds Try.pinned (OpenSpec.upto fnExactCountSurfacePiecesSpec)

/-- 'laws.FnExactCountVertices', WHERE WHAT IT READS IS OF BULK AT MOST 1048576: true; the input reads as it did. -/
def fnExactCountVerticesUptoRow : OpenClaim := { program := "ytnppkcemnjkboaa", sum := "dfde19779fa55204b4f876c5cfbd5f529f9ed37cd22069d6d56f53dac06e6eb0", func := "loop.example/g01267/laws.FnExactCountVertices", spec := "fnExactCountVertices", unfollowed := true, recurses := true, apart := false, narrowed := true }
def FnExactCountVerticesUptoSaid : Prop := fnExactCountVerticesUptoRow.holds Try.pinned (OpenSpec.upto fnExactCountVerticesSpec)

/-- 'laws.FnExactEulerNumber', WHERE WHAT IT READS IS OF BULK AT MOST 1048576: true; the input reads as it did. -/
def fnExactEulerNumberUptoRow : OpenClaim := { program := "ytnppkcemnjkboaa", sum := "dfde19779fa55204b4f876c5cfbd5f529f9ed37cd22069d6d56f53dac06e6eb0", func := "loop.example/g01267/laws.FnExactEulerNumber", spec := "fnExactEulerNumber", unfollowed := true, recurses := true, apart := false, narrowed := true }
def FnExactEulerNumberUptoSaid : Prop := fnExactEulerNumberUptoRow.holds Try.pinned (OpenSpec.upto fnExactEulerNumberSpec)

/-- 'laws.FnExactFlipEdge', WHERE WHAT IT READS IS OF BULK AT MOST 1048576: true; the input reads as it did. -/
def fnExactFlipEdgeUptoRow : OpenClaim := { program := "ytnppkcemnjkboaa", sum := "dfde19779fa55204b4f876c5cfbd5f529f9ed37cd22069d6d56f53dac06e6eb0", func := "loop.example/g01267/laws.FnExactFlipEdge", spec := "fnExactFlipEdge", unfollowed := true, recurses := true, apart := false, narrowed := true }
def FnExactFlipEdgeUptoSaid : Prop := fnExactFlipEdgeUptoRow.holds Try.pinned (OpenSpec.upto fnExactFlipEdgeSpec)

/-- 'laws.FnExactOrientSurface', WHERE WHAT IT READS IS OF BULK AT MOST 1048576: true; the input reads as it did. -/
def fnExactOrientSurfaceUptoRow : OpenClaim := { program := "ytnppkcemnjkboaa", sum := "dfde19779fa55204b4f876c5cfbd5f529f9ed37cd22069d6d56f53dac06e6eb0", func := "loop.example/g01267/laws.FnExactOrientSurface", spec := "fnExactOrientSurface", unfollowed := true, recurses := true, apart := false, narrowed := true }
def FnExactOrientSurfaceUptoSaid : Prop := fnExactOrientSurfaceUptoRow.holds Try.pinned (OpenSpec.upto fnExactOrientSurfaceSpec)

/-- 'laws.FnExactGenusOf', WHERE WHAT IT READS IS OF BULK AT MOST 1048576: true; the input reads as it did. -/
def fnExactGenusOfUptoRow : OpenClaim := { program := "ytnppkcemnjkboaa", sum := "dfde19779fa55204b4f876c5cfbd5f529f9ed37cd22069d6d56f53dac06e6eb0", func := "loop.example/g01267/laws.FnExactGenusOf", spec := "fnExactGenusOf", unfollowed := true, recurses := true, apart := false, narrowed := true }
def FnExactGenusOfUptoSaid : Prop := fnExactGenusOfUptoRow.holds Try.pinned (OpenSpec.upto fnExactGenusOfSpec)

/-- 'laws.FnSurfaces', WHERE WHAT IT READS IS OF BULK AT MOST 1048576: true; the input reads as it did. -/
def fnSurfacesUptoRow : OpenClaim := { program := "ytnppkcemnjkboaa", sum := "dfde19779fa55204b4f876c5cfbd5f529f9ed37cd22069d6d56f53dac06e6eb0", func := "loop.example/g01267/laws.FnSurfaces", spec := "fnSurfaces", unfollowed := true, recurses := true, apart := false, narrowed := true }
def FnSurfacesUptoSaid : Prop := fnSurfacesUptoRow.holds Try.pinned (OpenSpec.upto fnSurfacesSpec)

/-- 'laws.FnExactIsAlgebra', WHERE WHAT IT READS IS OF BULK AT MOST 1048576: true; the input reads as it did. -/
def fnExactIsAlgebraUptoRow : OpenClaim := { program := "ytnppkcemnjkboaa", sum := "dfde19779fa55204b4f876c5cfbd5f529f9ed37cd22069d6d56f53dac06e6eb0", func := "loop.example/g01267/laws.FnExactIsAlgebra", spec := "fnExactIsAlgebra", unfollowed := true, recurses := true, apart := false, narrowed := true }
def FnExactIsAlgebraUptoSaid : Prop := fnExactIsAlgebraUptoRow.holds Try.pinned (OpenSpec.upto fnExactIsAlgebraSpec)

end Rows
end Go.Proofs.Ytnppkcemnjkboaa
