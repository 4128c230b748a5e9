/-
  No cell of these rows narrows 'for every input' (looked for: loops, veiled, ifaces, maps, wideKeys, modest, calm, conditions, laid).
  DERIVED. THE GIVEN ROWS OF THIS SEAT. 9 by the template 'for every input the law returns true; each argument reads behind the call as it read before'; 0 by the template 'total and deterministic' (their statements: YtjjfoofjipafiaaTotals.lean).
  GIVEN WITH THE SEED: the statements are not yours to turn. If you find one false, say at which input.
  Laid BY PROGRAM, IN A SANDBOX (cutbox-rows.mjs): the forced cells as the released guide's own fill.sh prints them over the translation e48597107d61c583… (all of the seat's roots in one cut). By AI agents, Wed Nov 11 2026. No macro, syntax, notation, axiom, sorry.
-/
import Derived.Test.YtjjfoofjipafiaaChecked
import GoSem.Claim
import GoSem.ClaimJoined
import GoSem.ClaimMapViews
import Derived.JoinedTies
import Derived.KernelRfl
namespace Go.Proofs.Ytjjfoofjipafiaa
/- THE CELL 'sum', in the pinned program and in every row, IS THE sha256 OF THE DUMP (.gsa) THAT YtjjfoofjipafiaaProg.lean LOADS. Nothing in Lean hashes anything: it is a label: what it is worth is what the hold of that sum in a sandbox is worth. -/
noncomputable def Try.pinned : Pinned := { name := "ytjjfoofjipafiaa", sum := "e48597107d61c58393b027ed272b084b94f5e8d62b8634d5c50387ef38c6720a", checked := Try.checked }
namespace Rows
def none {H : Type} : Left H := { results := [], args := [] }

/-- 'laws.FnExactSwapTensor': WHATEVER THE INPUT: true; the input reads as it did. -/
def fnExactSwapTensorSpec : ChangeSpec := { name := "fnExactSwapTensor", fn := fun _ => fun
  | [d1, d2] => { results := [.lit (.bool true)], args := [d1, d2] }
  | _ => none }
def fnExactSwapTensorRow : OpenClaim := { program := "ytjjfoofjipafiaa", sum := "e48597107d61c58393b027ed272b084b94f5e8d62b8634d5c50387ef38c6720a", func := "loop.example/g01267/laws.FnExactSwapTensor", spec := "fnExactSwapTensor", unfollowed := true, recurses := true, apart := false }
def FnExactSwapTensorSaid : Prop := fnExactSwapTensorRow.holds Try.pinned (OpenSpec.ofChange fnExactSwapTensorSpec)

/-- ITS FALSE NEIGHBOUR: 'it returns false'. Refute it at one input. -/
def fnExactSwapTensorWrong : ChangeSpec := { name := "fnExactSwapTensor", fn := fun _ => fun
  | [d1, d2] => { results := [.lit (.bool false)], args := [d1, d2] }
  | _ => none }
def FnExactSwapTensorWrongFalsely : Prop := fnExactSwapTensorRow.holds Try.pinned (OpenSpec.ofChange fnExactSwapTensorWrong)

/-- 'laws.FnExactIdentityTensor': WHATEVER THE INPUT: true; the input reads as it did. -/
def fnExactIdentityTensorSpec : ChangeSpec := { name := "fnExactIdentityTensor", fn := fun _ => fun
  | [d1, d2, d3] => { results := [.lit (.bool true)], args := [d1, d2, d3] }
  | _ => none }
def fnExactIdentityTensorRow : OpenClaim := { program := "ytjjfoofjipafiaa", sum := "e48597107d61c58393b027ed272b084b94f5e8d62b8634d5c50387ef38c6720a", func := "loop.example/g01267/laws.FnExactIdentityTensor", spec := "fnExactIdentityTensor", unfollowed := true, recurses := true, apart := false }
def FnExactIdentityTensorSaid : Prop := fnExactIdentityTensorRow.holds Try.pinned (OpenSpec.ofChange fnExactIdentityTensorSpec)

/-- ITS FALSE NEIGHBOUR: 'it returns false'. Refute it at one input. -/
def fnExactIdentityTensorWrong : ChangeSpec := { name := "fnExactIdentityTensor", fn := fun _ => fun
  | [d1, d2, d3] => { results := [.lit (.bool false)], args := [d1, d2, d3] }
  | _ => none }
def FnExactIdentityTensorWrongFalsely : Prop := fnExactIdentityTensorRow.holds Try.pinned (OpenSpec.ofChange fnExactIdentityTensorWrong)

/-- 'laws.FnExactCloseTensor': WHATEVER THE INPUT: true; the input reads as it did. -/
def fnExactCloseTensorSpec : ChangeSpec := { name := "fnExactCloseTensor", fn := fun _ => fun
  | [d] => { results := [.lit (.bool true)], args := [d] }
  | _ => none }
def fnExactCloseTensorRow : OpenClaim := { program := "ytjjfoofjipafiaa", sum := "e48597107d61c58393b027ed272b084b94f5e8d62b8634d5c50387ef38c6720a", func := "loop.example/g01267/laws.FnExactCloseTensor", spec := "fnExactCloseTensor", unfollowed := true, recurses := true, apart := false }
def FnExactCloseTensorSaid : Prop := fnExactCloseTensorRow.holds Try.pinned (OpenSpec.ofChange fnExactCloseTensorSpec)

/-- ITS FALSE NEIGHBOUR: 'it returns false'. Refute it at one input. -/
def fnExactCloseTensorWrong : ChangeSpec := { name := "fnExactCloseTensor", fn := fun _ => fun
  | [d] => { results := [.lit (.bool false)], args := [d] }
  | _ => none }
def FnExactCloseTensorWrongFalsely : Prop := fnExactCloseTensorRow.holds Try.pinned (OpenSpec.ofChange fnExactCloseTensorWrong)

/-- 'laws.FnExactAddTensors': WHATEVER THE INPUT: true; the input reads as it did. -/
def fnExactAddTensorsSpec : ChangeSpec := { name := "fnExactAddTensors", fn := fun _ => fun
  | [d1, d2, d3] => { results := [.lit (.bool true)], args := [d1, d2, d3] }
  | _ => none }
def fnExactAddTensorsRow : OpenClaim := { program := "ytjjfoofjipafiaa", sum := "e48597107d61c58393b027ed272b084b94f5e8d62b8634d5c50387ef38c6720a", func := "loop.example/g01267/laws.FnExactAddTensors", spec := "fnExactAddTensors", unfollowed := true, recurses := true, apart := false }
def FnExactAddTensorsSaid : Prop := fnExactAddTensorsRow.holds Try.pinned (OpenSpec.ofChange fnExactAddTensorsSpec)

/-- ITS FALSE NEIGHBOUR: 'it returns false'. Refute it at one input. -/
def fnExactAddTensorsWrong : ChangeSpec := { name := "fnExactAddTensors", fn := fun _ => fun
  | [d1, d2, d3] => { results := [.lit (.bool false)], args := [d1, d2, d3] }
  | _ => none }
def FnExactAddTensorsWrongFalsely : Prop := fnExactAddTensorsRow.holds Try.pinned (OpenSpec.ofChange fnExactAddTensorsWrong)

/-- 'laws.FnExactSideTensors': WHATEVER THE INPUT: true; the input reads as it did. -/
def fnExactSideTensorsSpec : ChangeSpec := { name := "fnExactSideTensors", fn := fun _ => fun
  | [d1, d2] => { results := [.lit (.bool true)], args := [d1, d2] }
  | _ => none }
def fnExactSideTensorsRow : OpenClaim := { program := "ytjjfoofjipafiaa", sum := "e48597107d61c58393b027ed272b084b94f5e8d62b8634d5c50387ef38c6720a", func := "loop.example/g01267/laws.FnExactSideTensors", spec := "fnExactSideTensors", unfollowed := true, recurses := true, apart := false }
def FnExactSideTensorsSaid : Prop := fnExactSideTensorsRow.holds Try.pinned (OpenSpec.ofChange fnExactSideTensorsSpec)

/-- ITS FALSE NEIGHBOUR: 'it returns false'. Refute it at one input. -/
def fnExactSideTensorsWrong : ChangeSpec := { name := "fnExactSideTensors", fn := fun _ => fun
  | [d1, d2] => { results := [.lit (.bool false)], args := [d1, d2] }
  | _ => none }
def FnExactSideTensorsWrongFalsely : Prop := fnExactSideTensorsRow.holds Try.pinned (OpenSpec.ofChange fnExactSideTensorsWrong)

/-- 'laws.FnExactComposeTensors': WHATEVER THE INPUT: true; the input reads as it did. -/
def fnExactComposeTensorsSpec : ChangeSpec := { name := "fnExactComposeTensors", fn := fun _ => fun
  | [d1, d2] => { results := [.lit (.bool true)], args := [d1, d2] }
  | _ => none }
def fnExactComposeTensorsRow : OpenClaim := { program := "ytjjfoofjipafiaa", sum := "e48597107d61c58393b027ed272b084b94f5e8d62b8634d5c50387ef38c6720a", func := "loop.example/g01267/laws.FnExactComposeTensors", spec := "fnExactComposeTensors", unfollowed := true, recurses := true, apart := false }
def FnExactComposeTensorsSaid : Prop := fnExactComposeTensorsRow.holds Try.pinned (OpenSpec.ofChange fnExactComposeTensorsSpec)

/-- ITS FALSE NEIGHBOUR: 'it returns false'. Refute it at one input. -/
def fnExactComposeTensorsWrong : ChangeSpec := { name := "fnExactComposeTensors", fn := fun _ => fun
  | [d1, d2] => { results := [.lit (.bool false)], args := [d1, d2] }
  | _ => none }
def FnExactComposeTensorsWrongFalsely : Prop := fnExactComposeTensorsRow.holds Try.pinned (OpenSpec.ofChange fnExactComposeTensorsWrong)

/-- 'laws.FnExactValueAt': WHATEVER THE INPUT: true; the input reads as it did. -/
def fnExactValueAtSpec : ChangeSpec := { name := "fnExactValueAt", fn := fun _ => fun
  | [d1, d2] => { results := [.lit (.bool true)], args := [d1, d2] }
  | _ => none }
def fnExactValueAtRow : OpenClaim := { program := "ytjjfoofjipafiaa", sum := "e48597107d61c58393b027ed272b084b94f5e8d62b8634d5c50387ef38c6720a", func := "loop.example/g01267/laws.FnExactValueAt", spec := "fnExactValueAt", unfollowed := true, recurses := true, apart := false }
def FnExactValueAtSaid : Prop := fnExactValueAtRow.holds Try.pinned (OpenSpec.ofChange fnExactValueAtSpec)

/-- ITS FALSE NEIGHBOUR: 'it returns false'. Refute it at one input. -/
def fnExactValueAtWrong : ChangeSpec := { name := "fnExactValueAt", fn := fun _ => fun
  | [d1, d2] => { results := [.lit (.bool false)], args := [d1, d2] }
  | _ => none }
def FnExactValueAtWrongFalsely : Prop := fnExactValueAtRow.holds Try.pinned (OpenSpec.ofChange fnExactValueAtWrong)

/-- 'laws.FnExactPermuteTensor': WHATEVER THE INPUT: true; the input reads as it did. -/
def fnExactPermuteTensorSpec : ChangeSpec := { name := "fnExactPermuteTensor", fn := fun _ => fun
  | [d1, d2, d3] => { results := [.lit (.bool true)], args := [d1, d2, d3] }
  | _ => none }
def fnExactPermuteTensorRow : OpenClaim := { program := "ytjjfoofjipafiaa", sum := "e48597107d61c58393b027ed272b084b94f5e8d62b8634d5c50387ef38c6720a", func := "loop.example/g01267/laws.FnExactPermuteTensor", spec := "fnExactPermuteTensor", unfollowed := true, recurses := true, apart := false }
def FnExactPermuteTensorSaid : Prop := fnExactPermuteTensorRow.holds Try.pinned (OpenSpec.ofChange fnExactPermuteTensorSpec)

/-- ITS FALSE NEIGHBOUR: 'it returns false'. Refute it at one input. -/
def fnExactPermuteTensorWrong : ChangeSpec := { name := "fnExactPermuteTensor", fn := fun _ => fun
  | [d1, d2, d3] => { results := [.lit (.bool false)], args := [d1, d2, d3] }
  | _ => none }
def FnExactPermuteTensorWrongFalsely : Prop := fnExactPermuteTensorRow.holds Try.pinned (OpenSpec.ofChange fnExactPermuteTensorWrong)

/-- 'laws.FnExactMatrixPair': WHATEVER THE INPUT: true; the input reads as it did. -/
def fnExactMatrixPairSpec : ChangeSpec := { name := "fnExactMatrixPair", fn := fun _ => fun
  | [d1, d2] => { results := [.lit (.bool true)], args := [d1, d2] }
  | _ => none }
def fnExactMatrixPairRow : OpenClaim := { program := "ytjjfoofjipafiaa", sum := "e48597107d61c58393b027ed272b084b94f5e8d62b8634d5c50387ef38c6720a", func := "loop.example/g01267/laws.FnExactMatrixPair", spec := "fnExactMatrixPair", unfollowed := true, recurses := true, apart := false }
def FnExactMatrixPairSaid : Prop := fnExactMatrixPairRow.holds Try.pinned (OpenSpec.ofChange fnExactMatrixPairSpec)

/-- ITS FALSE NEIGHBOUR: 'it returns false'. Refute it at one input. -/
def fnExactMatrixPairWrong : ChangeSpec := { name := "fnExactMatrixPair", fn := fun _ => fun
  | [d1, d2] => { results := [.lit (.bool false)], args := [d1, d2] }
  | _ => none }
def FnExactMatrixPairWrongFalsely : Prop := fnExactMatrixPairRow.holds Try.pinned (OpenSpec.ofChange fnExactMatrixPairWrong)

/- THE SECOND FORM. 'bulk': how many values and letters a reading holds, each counted each time it is reached (what is shared counts as often as it is met; a slice's spare places count too). A statement '..UptoSaid' is the law's where the arguments, and the package variables that the reading takes, are together of bulk at most 1048576: NARROWER than '..Said'. Prove '..Said' where nothing that the law and all that it calls make is longer than what came in: it says more and counts as full. Else prove '..UptoSaid'. A law counts once. -/
mutual
def uptoBulk {H : Type} : DataW H → Nat
  | .lit (.string bytes) => bytes.length + 1
  | .lit _ => 1
  | .nil => 1
  | .ptr d => uptoBulk d + 1
  | .slice elems spare => uptoBulkAll elems + uptoBulkAll spare + 1
  | .agg parts => uptoBulkAll parts + 1
  | .iface _ d => uptoBulk d + 1
  | .map entries => uptoBulkEntries entries + 1
  | .held _ => 1
def uptoBulkAll {H : Type} : List (DataW H) → Nat
  | [] => 0
  | d :: r => uptoBulk d + uptoBulkAll r
def uptoBulkEntries {H : Type} : List (Lit × DataW H) → Nat
  | [] => 0
  | x :: r => uptoBulkEntry x + uptoBulkEntries r
def uptoBulkEntry {H : Type} : Lit × DataW H → Nat
  | (.string bytes, d) => bytes.length + uptoBulk d + 1
  | (_, d) => uptoBulk d + 1
 end
def uptoSmall : (H : Type) → List (DataW H) → Bool := fun _ ds => decide (uptoBulkAll ds ≤ 1048576)
def OpenSpec.upto (s : _root_.Go.ChangeSpec) : _root_.Go.OpenSpec := { _root_.Go.OpenSpec.ofChange s with cond := some uptoSmall }

/-- 'laws.FnExactSwapTensor', WHERE WHAT IT READS IS OF BULK AT MOST 1048576: true; the input reads as it did. -/
def fnExactSwapTensorUptoRow : OpenClaim := { program := "ytjjfoofjipafiaa", sum := "e48597107d61c58393b027ed272b084b94f5e8d62b8634d5c50387ef38c6720a", func := "loop.example/g01267/laws.FnExactSwapTensor", spec := "fnExactSwapTensor", unfollowed := true, recurses := true, apart := false, narrowed := true }
def FnExactSwapTensorUptoSaid : Prop := fnExactSwapTensorUptoRow.holds Try.pinned (OpenSpec.upto fnExactSwapTensorSpec)

/-- 'laws.FnExactIdentityTensor', WHERE WHAT IT READS IS OF BULK AT MOST 1048576: true; the input reads as it did. -/
def fnExactIdentityTensorUptoRow : OpenClaim := { program := "ytjjfoofjipafiaa", sum := "e48597107d61c58393b027ed272b084b94f5e8d62b8634d5c50387ef38c6720a", func := "loop.example/g01267/laws.FnExactIdentityTensor", spec := "fnExactIdentityTensor", unfollowed := true, recurses := true, apart := false, narrowed := true }
def FnExactIdentityTensorUptoSaid : Prop := fnExactIdentityTensorUptoRow.holds Try.pinned (OpenSpec.upto fnExactIdentityTensorSpec)

/-- 'laws.FnExactCloseTensor', WHERE WHAT IT READS IS OF BULK AT MOST 1048576: true; the input reads as it did. -/
def fnExactCloseTensorUptoRow : OpenClaim := { program := "ytjjfoofjipafiaa", sum := "e48597107d61c58393b027ed272b084b94f5e8d62b8634d5c50387ef38c6720a", func := "loop.example/g01267/laws.FnExactCloseTensor", spec := "fnExactCloseTensor", unfollowed := true, recurses := true, apart := false, narrowed := true }
def FnExactCloseTensorUptoSaid : Prop := fnExactCloseTensorUptoRow.holds Try.pinned (OpenSpec.upto fnExactCloseTensorSpec)

/-- 'laws.FnExactAddTensors', WHERE WHAT IT READS IS OF BULK AT MOST 1048576: true; the input reads as it did. -/
def fnExactAddTensorsUptoRow : OpenClaim := { program := "ytjjfoofjipafiaa", sum := "e48597107d61c58393b027ed272b084b94f5e8d62b8634d5c50387ef38c6720a", func := "loop.example/g01267/laws.FnExactAddTensors", spec := "fnExactAddTensors", unfollowed := true, recurses := true, apart := false, narrowed := true }
def FnExactAddTensorsUptoSaid : Prop := fnExactAddTensorsUptoRow.holds Try.pinned (OpenSpec.upto fnExactAddTensorsSpec)

/-- 'laws.FnExactSideTensors', WHERE WHAT IT READS IS OF BULK AT MOST 1048576: true; the input reads as it did. -/
def fnExactSideTensorsUptoRow : OpenClaim := { program := "ytjjfoofjipafiaa", sum := "e48597107d61c58393b027ed272b084b94f5e8d62b8634d5c50387ef38c6720a", func := "loop.example/g01267/laws.FnExactSideTensors", spec := "fnExactSideTensors", unfollowed := true, recurses := true, apart := false, narrowed := true }
def FnExactSideTensorsUptoSaid : Prop := fnExactSideTensorsUptoRow.holds Try.pinned (OpenSpec.upto fnExactSideTensorsSpec)

/-- 'laws.FnExactComposeTensors', WHERE WHAT IT READS IS OF BULK AT MOST 1048576: true; the input reads as it did. -/
def fnExactComposeTensorsUptoRow : OpenClaim := { program := "ytjjfoofjipafiaa", sum := "e48597107d61c58393b027ed272b084b94f5e8d62b8634d5c50387ef38c6720a", func := "loop.example/g01267/laws.FnExactComposeTensors", spec := "fnExactComposeTensors", unfollowed := true, recurses := true, apart := false, narrowed := true }
def FnExactComposeTensorsUptoSaid : Prop := fnExactComposeTensorsUptoRow.holds Try.pinned (OpenSpec.upto fnExactComposeTensorsSpec)

/-- 'laws.FnExactValueAt', WHERE WHAT IT READS IS OF BULK AT MOST 1048576: true; the input reads as it did. -/
def fnExactValueAtUptoRow : OpenClaim := { program := "ytjjfoofjipafiaa", sum := "e48597107d61c58393b027ed272b084b94f5e8d62b8634d5c50387ef38c6720a", func := "loop.example/g01267/laws.FnExactValueAt", spec := "fnExactValueAt", unfollowed := true, recurses := true, apart := false, narrowed := true }
def FnExactValueAtUptoSaid : Prop := fnExactValueAtUptoRow.holds Try.pinned (OpenSpec.upto fnExactValueAtSpec)

/-- 'laws.FnExactPermuteTensor', WHERE WHAT IT READS IS OF BULK AT MOST 1048576: true; the input reads as it did. -/
def fnExactPermuteTensorUptoRow : OpenClaim := { program := "ytjjfoofjipafiaa", sum := "e48597107d61c58393b027ed272b084b94f5e8d62b8634d5c50387ef38c6720a", func := "loop.example/g01267/laws.FnExactPermuteTensor", spec := "fnExactPermuteTensor", unfollowed := true, recurses := true, apart := false, narrowed := true }
def FnExactPermuteTensorUptoSaid : Prop := fnExactPermuteTensorUptoRow.holds Try.pinned (OpenSpec.upto fnExactPermuteTensorSpec)

/-- 'laws.FnExactMatrixPair', WHERE WHAT IT READS IS OF BULK AT MOST 1048576: true; the input reads as it did. -/
def fnExactMatrixPairUptoRow : OpenClaim := { program := "ytjjfoofjipafiaa", sum := "e48597107d61c58393b027ed272b084b94f5e8d62b8634d5c50387ef38c6720a", func := "loop.example/g01267/laws.FnExactMatrixPair", spec := "fnExactMatrixPair", unfollowed := true, recurses := true, apart := false, narrowed := true }
def FnExactMatrixPairUptoSaid : Prop := fnExactMatrixPairUptoRow.holds Try.pinned (OpenSpec.upto fnExactMatrixPairSpec)

end Rows
end Go.Proofs.Ytjjfoofjipafiaa
