/-
  No cell of these rows narrows 'for every input' (looked for: loops, veiled, ifaces, maps, wideKeys, modest, calm, conditions, laid).
  DERIVED. THE GIVEN ROWS OF THIS SEAT. 6 by the template 'for every input the law returns true; each argument reads behind the call as it read before'; 0 by the template 'total and deterministic' (their statements: YtpjaemdoebgpiaaTotals.lean).
  GIVEN WITH THE SEED: the statements are not yours to turn. If you find one false, say at which input.
  Laid BY PROGRAM, IN A SANDBOX (cutbox-rows.mjs): the forced cells as the released guide's own fill.sh prints them over the translation 7c5024d9b27b1414… (all of the seat's roots in one cut). By AI agents, Wed Nov 11 2026. No macro, syntax, notation, axiom, sorry.
-/
import Derived.Test.YtpjaemdoebgpiaaChecked
import GoSem.Claim
import GoSem.ClaimJoined
import GoSem.ClaimMapViews
import Derived.JoinedTies
import Derived.KernelRfl
namespace Go.Proofs.Ytpjaemdoebgpiaa
/- THE CELL 'sum', in the pinned program and in every row, IS THE sha256 OF THE DUMP (.gsa) THAT YtpjaemdoebgpiaaProg.lean LOADS. Nothing in Lean hashes anything: it is a label: what it is worth is what the hold of that sum in a sandbox is worth. -/
noncomputable def Try.pinned : Pinned := { name := "ytpjaemdoebgpiaa", sum := "7c5024d9b27b1414377eb6a7272091cfd60554f9b39f877a88c78e363dff8b9f", checked := Try.checked }
namespace Rows
def none {H : Type} : Left H := { results := [], args := [] }

/-- 'laws.FnExactFrameSum': WHATEVER THE INPUT: true; the input reads as it did. -/
def fnExactFrameSumSpec : ChangeSpec := { name := "fnExactFrameSum", fn := fun _ => fun
  | [d] => { results := [.lit (.bool true)], args := [d] }
  | _ => none }
def fnExactFrameSumRow : OpenClaim := { program := "ytpjaemdoebgpiaa", sum := "7c5024d9b27b1414377eb6a7272091cfd60554f9b39f877a88c78e363dff8b9f", func := "loop.example/g00333/laws.FnExactFrameSum", spec := "fnExactFrameSum", apart := false }
def FnExactFrameSumSaid : Prop := fnExactFrameSumRow.holds Try.pinned (OpenSpec.ofChange fnExactFrameSumSpec)

/-- ITS FALSE NEIGHBOUR: 'it returns false'. Refute it at one input. -/
def fnExactFrameSumWrong : ChangeSpec := { name := "fnExactFrameSum", fn := fun _ => fun
  | [d] => { results := [.lit (.bool false)], args := [d] }
  | _ => none }
def FnExactFrameSumWrongFalsely : Prop := fnExactFrameSumRow.holds Try.pinned (OpenSpec.ofChange fnExactFrameSumWrong)

/-- 'laws.FnExactFrameOf': WHATEVER THE INPUT: true; the input reads as it did. -/
def fnExactFrameOfSpec : ChangeSpec := { name := "fnExactFrameOf", fn := fun _ => fun
  | [d] => { results := [.lit (.bool true)], args := [d] }
  | _ => none }
def fnExactFrameOfRow : OpenClaim := { program := "ytpjaemdoebgpiaa", sum := "7c5024d9b27b1414377eb6a7272091cfd60554f9b39f877a88c78e363dff8b9f", func := "loop.example/g00333/laws.FnExactFrameOf", spec := "fnExactFrameOf", apart := false }
def FnExactFrameOfSaid : Prop := fnExactFrameOfRow.holds Try.pinned (OpenSpec.ofChange fnExactFrameOfSpec)

/-- ITS FALSE NEIGHBOUR: 'it returns false'. Refute it at one input. -/
def fnExactFrameOfWrong : ChangeSpec := { name := "fnExactFrameOf", fn := fun _ => fun
  | [d] => { results := [.lit (.bool false)], args := [d] }
  | _ => none }
def FnExactFrameOfWrongFalsely : Prop := fnExactFrameOfRow.holds Try.pinned (OpenSpec.ofChange fnExactFrameOfWrong)

/-- 'laws.FnExactNewReader': WHATEVER THE INPUT: true; the input reads as it did. -/
def fnExactNewReaderSpec : ChangeSpec := { name := "fnExactNewReader", fn := fun _ => fun
  | [] => { results := [.lit (.bool true)], args := [] }
  | _ => none }
def fnExactNewReaderRow : OpenClaim := { program := "ytpjaemdoebgpiaa", sum := "7c5024d9b27b1414377eb6a7272091cfd60554f9b39f877a88c78e363dff8b9f", func := "loop.example/g00333/laws.FnExactNewReader", spec := "fnExactNewReader", apart := false }
def FnExactNewReaderSaid : Prop := fnExactNewReaderRow.holds Try.pinned (OpenSpec.ofChange fnExactNewReaderSpec)

/-- ITS FALSE NEIGHBOUR: 'it returns false'. Refute it at one input. -/
def fnExactNewReaderWrong : ChangeSpec := { name := "fnExactNewReader", fn := fun _ => fun
  | [] => { results := [.lit (.bool false)], args := [] }
  | _ => none }
def FnExactNewReaderWrongFalsely : Prop := fnExactNewReaderRow.holds Try.pinned (OpenSpec.ofChange fnExactNewReaderWrong)

/-- 'laws.FnExactNewQueue': WHATEVER THE INPUT: true; the input reads as it did. -/
def fnExactNewQueueSpec : ChangeSpec := { name := "fnExactNewQueue", fn := fun _ => fun
  | [d1, d2] => { results := [.lit (.bool true)], args := [d1, d2] }
  | _ => none }
def fnExactNewQueueRow : OpenClaim := { program := "ytpjaemdoebgpiaa", sum := "7c5024d9b27b1414377eb6a7272091cfd60554f9b39f877a88c78e363dff8b9f", func := "loop.example/g00333/laws.FnExactNewQueue", spec := "fnExactNewQueue", apart := false }
def FnExactNewQueueSaid : Prop := fnExactNewQueueRow.holds Try.pinned (OpenSpec.ofChange fnExactNewQueueSpec)

/-- ITS FALSE NEIGHBOUR: 'it returns false'. Refute it at one input. -/
def fnExactNewQueueWrong : ChangeSpec := { name := "fnExactNewQueue", fn := fun _ => fun
  | [d1, d2] => { results := [.lit (.bool false)], args := [d1, d2] }
  | _ => none }
def FnExactNewQueueWrongFalsely : Prop := fnExactNewQueueRow.holds Try.pinned (OpenSpec.ofChange fnExactNewQueueWrong)

/-- 'laws.FnExactUnframeAll': WHATEVER THE INPUT: true; the input reads as it did. -/
def fnExactUnframeAllSpec : ChangeSpec := { name := "fnExactUnframeAll", fn := fun _ => fun
  | [d] => { results := [.lit (.bool true)], args := [d] }
  | _ => none }
def fnExactUnframeAllRow : OpenClaim := { program := "ytpjaemdoebgpiaa", sum := "7c5024d9b27b1414377eb6a7272091cfd60554f9b39f877a88c78e363dff8b9f", func := "loop.example/g00333/laws.FnExactUnframeAll", spec := "fnExactUnframeAll", apart := false }
def FnExactUnframeAllSaid : Prop := fnExactUnframeAllRow.holds Try.pinned (OpenSpec.ofChange fnExactUnframeAllSpec)

/-- ITS FALSE NEIGHBOUR: 'it returns false'. Refute it at one input. -/
def fnExactUnframeAllWrong : ChangeSpec := { name := "fnExactUnframeAll", fn := fun _ => fun
  | [d] => { results := [.lit (.bool false)], args := [d] }
  | _ => none }
def FnExactUnframeAllWrongFalsely : Prop := fnExactUnframeAllRow.holds Try.pinned (OpenSpec.ofChange fnExactUnframeAllWrong)

/-- 'laws.FnExactGoodQueue': WHATEVER THE INPUT: true; the input reads as it did. -/
def fnExactGoodQueueSpec : ChangeSpec := { name := "fnExactGoodQueue", fn := fun _ => fun
  | [d] => { results := [.lit (.bool true)], args := [d] }
  | _ => none }
def fnExactGoodQueueRow : OpenClaim := { program := "ytpjaemdoebgpiaa", sum := "7c5024d9b27b1414377eb6a7272091cfd60554f9b39f877a88c78e363dff8b9f", func := "loop.example/g00333/laws.FnExactGoodQueue", spec := "fnExactGoodQueue", apart := false }
def FnExactGoodQueueSaid : Prop := fnExactGoodQueueRow.holds Try.pinned (OpenSpec.ofChange fnExactGoodQueueSpec)

/-- ITS FALSE NEIGHBOUR: 'it returns false'. Refute it at one input. -/
def fnExactGoodQueueWrong : ChangeSpec := { name := "fnExactGoodQueue", fn := fun _ => fun
  | [d] => { results := [.lit (.bool false)], args := [d] }
  | _ => none }
def FnExactGoodQueueWrongFalsely : Prop := fnExactGoodQueueRow.holds Try.pinned (OpenSpec.ofChange fnExactGoodQueueWrong)

/- THE SECOND FORM. 'bulk': how many values and letters a reading holds, each counted each time it is reached (what is shared counts as often as it is met; a slice's spare places count too). A statement '..UptoSaid' is the law's where the arguments, and the package variables that the reading takes, are together of bulk at most 1048576: NARROWER than '..Said'. Prove '..Said' where nothing that the law and all that it calls make is longer than what came in: it says more and counts as full. Else prove '..UptoSaid'. A law counts once. -/
mutual
def uptoBulk {H : Type} : DataW H → Nat
  | .lit (.string bytes) => bytes.length + 1
  | .lit _ => 1
  | .nil => 1
  | .ptr d => uptoBulk d + 1
  | .slice elems spare => uptoBulkAll elems + uptoBulkAll spare + 1
  | .agg parts => uptoBulkAll parts + 1
  | .iface _ d => uptoBulk d + 1
  | .map entries => uptoBulkEntries entries + 1
  | .held _ => 1
def uptoBulkAll {H : Type} : List (DataW H) → Nat
  | [] => 0
  | d :: r => uptoBulk d + uptoBulkAll r
def uptoBulkEntries {H : Type} : List (Lit × DataW H) → Nat
  | [] => 0
  | x :: r => uptoBulkEntry x + uptoBulkEntries r
def uptoBulkEntry {H : Type} : Lit × DataW H → Nat
  | (.string bytes, d) => bytes.length + uptoBulk d + 1
  | (_, d) => uptoBulk d + 1
 end
def uptoSmall : (H : Type) → List (DataW H) → Bool := fun _ ds => decide (uptoBulkAll ds ≤ 1048576)
def OpenSpec.upto (s : _root_.Go.ChangeSpec) : _root_.Go.OpenSpec := { _root_.Go.OpenSpec.ofChange s with cond := some uptoSmall }

/-- 'laws.FnExactFrameSum', WHERE WHAT IT READS IS OF BULK AT MOST 1048576: true; the input reads as it did. -/
def fnExactFrameSumUptoRow : OpenClaim := { program := "ytpjaemdoebgpiaa", sum := "7c5024d9b27b1414377eb6a7272091cfd60554f9b39f877a88c78e363dff8b9f", func := "loop.example/g00333/laws.FnExactFrameSum", spec := "fnExactFrameSum", apart := false, narrowed := true }
def FnExactFrameSumUptoSaid : Prop := fnExactFrameSumUptoRow.holds Try.pinned (OpenSpec.upto fnExactFrameSumSpec)

/-- 'laws.FnExactFrameOf', WHERE WHAT IT READS IS OF BULK AT MOST 1048576: true; the input reads as it did. -/
def fnExactFrameOfUptoRow : OpenClaim := { program := "ytpjaemdoebgpiaa", sum := "7c5024d9b27b1414377eb6a7272091cfd60554f9b39f877a88c78e363dff8b9f", func := "loop.example/g00333/laws.FnExactFrameOf", spec := "fnExactFrameOf", apart := false, narrowed := true }
def FnExactFrameOfUptoSaid : Prop := fnExactFrameOfUptoRow.holds Try.pinned (OpenSpec.upto fnExactFrameOfSpec)

/-- 'laws.FnExactNewReader', WHERE WHAT IT READS IS OF BULK AT MOST 1048576: true; the input reads as it did. -/
def fnExactNewReaderUptoRow : OpenClaim := { program := "ytpjaemdoebgpiaa", sum := "7c5024d9b27b1414377eb6a7272091cfd60554f9b39f877a88c78e363dff8b9f", func := "loop.example/g00333/laws.FnExactNewReader", spec := "fnExactNewReader", apart := false, narrowed := true }
def FnExactNewReaderUptoSaid : Prop := fnExactNewReaderUptoRow.holds Try.pinned (OpenSpec.upto fnExactNewReaderSpec)

/-- 'laws.FnExactNewQueue', WHERE WHAT IT READS IS OF BULK AT MOST 1048576: true; the input reads as it did. -/
def fnExactNewQueueUptoRow : OpenClaim := { program := "ytpjaemdoebgpiaa", sum := "7c5024d9b27b1414377eb6a7272091cfd60554f9b39f877a88c78e363dff8b9f", func := "loop.example/g00333/laws.FnExactNewQueue", spec := "fnExactNewQueue", apart := false, narrowed := true }
def FnExactNewQueueUptoSaid : Prop := fnExactNewQueueUptoRow.holds Try.pinned (OpenSpec.upto fnExactNewQueueSpec)

/-- 'laws.FnExactUnframeAll', WHERE WHAT IT READS IS OF BULK AT MOST 1048576: true; the input reads as it did. -/
def fnExactUnframeAllUptoRow : OpenClaim := { program := "ytpjaemdoebgpiaa", sum := "7c5024d9b27b1414377eb6a7272091cfd60554f9b39f877a88c78e363dff8b9f", func := "loop.example/g00333/laws.FnExactUnframeAll", spec := "fnExactUnframeAll", apart := false, narrowed := true }
def FnExactUnframeAllUptoSaid : Prop := fnExactUnframeAllUptoRow.holds Try.pinned (OpenSpec.upto fnExactUnframeAllSpec)

/-- 'laws.FnExactGoodQueue', WHERE WHAT IT READS IS OF BULK AT MOST 1048576: true; the input reads as it did. -/
def fnExactGoodQueueUptoRow : OpenClaim := { program := "ytpjaemdoebgpiaa", sum := "7c5024d9b27b1414377eb6a7272091cfd60554f9b39f877a88c78e363dff8b9f", func := "loop.example/g00333/laws.FnExactGoodQueue", spec := "fnExactGoodQueue", apart := false, narrowed := true }
def FnExactGoodQueueUptoSaid : Prop := fnExactGoodQueueUptoRow.holds Try.pinned (OpenSpec.upto fnExactGoodQueueSpec)

end Rows
end Go.Proofs.Ytpjaemdoebgpiaa
