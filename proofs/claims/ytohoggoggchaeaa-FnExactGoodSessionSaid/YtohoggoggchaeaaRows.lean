/-
  No cell of these rows narrows 'for every input' (looked for: loops, veiled, ifaces, maps, wideKeys, modest, calm, conditions, laid).
  DERIVED. THE GIVEN ROWS OF THIS SEAT. 6 by the template 'for every input the law returns true; each argument reads behind the call as it read before'; 0 by the template 'total and deterministic' (their statements: YtohoggoggchaeaaTotals.lean).
  GIVEN WITH THE SEED: the statements are not yours to turn. If you find one false, say at which input.
  Laid BY PROGRAM, IN A SANDBOX (cutbox-rows.mjs): the forced cells as the released guide's own fill.sh prints them over the translation ee897008654e6623… (all of the seat's roots in one cut). By AI agents, Wed Nov 11 2026. No macro, syntax, notation, axiom, sorry.
-/
import Derived.Test.YtohoggoggchaeaaChecked
import GoSem.Claim
import GoSem.ClaimJoined
import GoSem.ClaimMapViews
import Derived.JoinedTies
import Derived.KernelRfl
namespace Go.Proofs.Ytohoggoggchaeaa
/- THE CELL 'sum', in the pinned program and in every row, IS THE sha256 OF THE DUMP (.gsa) THAT YtohoggoggchaeaaProg.lean LOADS. Nothing in Lean hashes anything: it is a label: what it is worth is what the hold of that sum in a sandbox is worth. -/
noncomputable def Try.pinned : Pinned := { name := "ytohoggoggchaeaa", sum := "ee897008654e66230cc0fabae8068354a4f6e12758885f13ebc6c73092de8981", checked := Try.checked }
namespace Rows
def none {H : Type} : Left H := { results := [], args := [] }

/-- 'laws.FnExactGapsIn': WHATEVER THE INPUT: true; the input reads as it did. -/
def fnExactGapsInSpec : ChangeSpec := { name := "fnExactGapsIn", fn := fun _ => fun
  | [d] => { results := [.lit (.bool true)], args := [d] }
  | _ => none }
def fnExactGapsInRow : OpenClaim := { program := "ytohoggoggchaeaa", sum := "ee897008654e66230cc0fabae8068354a4f6e12758885f13ebc6c73092de8981", func := "loop.example/g00333/laws.FnExactGapsIn", spec := "fnExactGapsIn", apart := false }
def FnExactGapsInSaid : Prop := fnExactGapsInRow.holds Try.pinned (OpenSpec.ofChange fnExactGapsInSpec)

/-- ITS FALSE NEIGHBOUR: 'it returns false'. Refute it at one input. -/
def fnExactGapsInWrong : ChangeSpec := { name := "fnExactGapsIn", fn := fun _ => fun
  | [d] => { results := [.lit (.bool false)], args := [d] }
  | _ => none }
def FnExactGapsInWrongFalsely : Prop := fnExactGapsInRow.holds Try.pinned (OpenSpec.ofChange fnExactGapsInWrong)

/-- 'laws.FnExactGoodReader': WHATEVER THE INPUT: true; the input reads as it did. -/
def fnExactGoodReaderSpec : ChangeSpec := { name := "fnExactGoodReader", fn := fun _ => fun
  | [d] => { results := [.lit (.bool true)], args := [d] }
  | _ => none }
def fnExactGoodReaderRow : OpenClaim := { program := "ytohoggoggchaeaa", sum := "ee897008654e66230cc0fabae8068354a4f6e12758885f13ebc6c73092de8981", func := "loop.example/g00333/laws.FnExactGoodReader", spec := "fnExactGoodReader", unfollowed := true, recurses := true, apart := false }
def FnExactGoodReaderSaid : Prop := fnExactGoodReaderRow.holds Try.pinned (OpenSpec.ofChange fnExactGoodReaderSpec)

/-- ITS FALSE NEIGHBOUR: 'it returns false'. Refute it at one input. -/
def fnExactGoodReaderWrong : ChangeSpec := { name := "fnExactGoodReader", fn := fun _ => fun
  | [d] => { results := [.lit (.bool false)], args := [d] }
  | _ => none }
def FnExactGoodReaderWrongFalsely : Prop := fnExactGoodReaderRow.holds Try.pinned (OpenSpec.ofChange fnExactGoodReaderWrong)

/-- 'laws.FnExactWhereIs': WHATEVER THE INPUT: true; the input reads as it did. -/
def fnExactWhereIsSpec : ChangeSpec := { name := "fnExactWhereIs", fn := fun _ => fun
  | [d1, d2] => { results := [.lit (.bool true)], args := [d1, d2] }
  | _ => none }
def fnExactWhereIsRow : OpenClaim := { program := "ytohoggoggchaeaa", sum := "ee897008654e66230cc0fabae8068354a4f6e12758885f13ebc6c73092de8981", func := "loop.example/g00333/laws.FnExactWhereIs", spec := "fnExactWhereIs", apart := false }
def FnExactWhereIsSaid : Prop := fnExactWhereIsRow.holds Try.pinned (OpenSpec.ofChange fnExactWhereIsSpec)

/-- ITS FALSE NEIGHBOUR: 'it returns false'. Refute it at one input. -/
def fnExactWhereIsWrong : ChangeSpec := { name := "fnExactWhereIs", fn := fun _ => fun
  | [d1, d2] => { results := [.lit (.bool false)], args := [d1, d2] }
  | _ => none }
def FnExactWhereIsWrongFalsely : Prop := fnExactWhereIsRow.holds Try.pinned (OpenSpec.ofChange fnExactWhereIsWrong)

/-- 'laws.FnExactNewSession': WHATEVER THE INPUT: true; the input reads as it did. -/
def fnExactNewSessionSpec : ChangeSpec := { name := "fnExactNewSession", fn := fun _ => fun
  | [d] => { results := [.lit (.bool true)], args := [d] }
  | _ => none }
def fnExactNewSessionRow : OpenClaim := { program := "ytohoggoggchaeaa", sum := "ee897008654e66230cc0fabae8068354a4f6e12758885f13ebc6c73092de8981", func := "loop.example/g00333/laws.FnExactNewSession", spec := "fnExactNewSession", apart := false }
def FnExactNewSessionSaid : Prop := fnExactNewSessionRow.holds Try.pinned (OpenSpec.ofChange fnExactNewSessionSpec)

/-- ITS FALSE NEIGHBOUR: 'it returns false'. Refute it at one input. -/
def fnExactNewSessionWrong : ChangeSpec := { name := "fnExactNewSession", fn := fun _ => fun
  | [d] => { results := [.lit (.bool false)], args := [d] }
  | _ => none }
def FnExactNewSessionWrongFalsely : Prop := fnExactNewSessionRow.holds Try.pinned (OpenSpec.ofChange fnExactNewSessionWrong)

/-- 'laws.FnExactTakeFrame': WHATEVER THE INPUT: true; the input reads as it did. -/
def fnExactTakeFrameSpec : ChangeSpec := { name := "fnExactTakeFrame", fn := fun _ => fun
  | [d] => { results := [.lit (.bool true)], args := [d] }
  | _ => none }
def fnExactTakeFrameRow : OpenClaim := { program := "ytohoggoggchaeaa", sum := "ee897008654e66230cc0fabae8068354a4f6e12758885f13ebc6c73092de8981", func := "loop.example/g00333/laws.FnExactTakeFrame", spec := "fnExactTakeFrame", unfollowed := true, recurses := true, apart := false }
def FnExactTakeFrameSaid : Prop := fnExactTakeFrameRow.holds Try.pinned (OpenSpec.ofChange fnExactTakeFrameSpec)

/-- ITS FALSE NEIGHBOUR: 'it returns false'. Refute it at one input. -/
def fnExactTakeFrameWrong : ChangeSpec := { name := "fnExactTakeFrame", fn := fun _ => fun
  | [d] => { results := [.lit (.bool false)], args := [d] }
  | _ => none }
def FnExactTakeFrameWrongFalsely : Prop := fnExactTakeFrameRow.holds Try.pinned (OpenSpec.ofChange fnExactTakeFrameWrong)

/-- 'laws.FnExactGoodSession': WHATEVER THE INPUT: true; the input reads as it did. -/
def fnExactGoodSessionSpec : ChangeSpec := { name := "fnExactGoodSession", fn := fun _ => fun
  | [d] => { results := [.lit (.bool true)], args := [d] }
  | _ => none }
def fnExactGoodSessionRow : OpenClaim := { program := "ytohoggoggchaeaa", sum := "ee897008654e66230cc0fabae8068354a4f6e12758885f13ebc6c73092de8981", func := "loop.example/g00333/laws.FnExactGoodSession", spec := "fnExactGoodSession", unfollowed := true, recurses := true, apart := false }
def FnExactGoodSessionSaid : Prop := fnExactGoodSessionRow.holds Try.pinned (OpenSpec.ofChange fnExactGoodSessionSpec)

/-- ITS FALSE NEIGHBOUR: 'it returns false'. Refute it at one input. -/
def fnExactGoodSessionWrong : ChangeSpec := { name := "fnExactGoodSession", fn := fun _ => fun
  | [d] => { results := [.lit (.bool false)], args := [d] }
  | _ => none }
def FnExactGoodSessionWrongFalsely : Prop := fnExactGoodSessionRow.holds Try.pinned (OpenSpec.ofChange fnExactGoodSessionWrong)

/- THE SECOND FORM. 'bulk': how many values and letters a reading holds, each counted each time it is reached (what is shared counts as often as it is met; a slice's spare places count too). A statement '..UptoSaid' is the law's where the arguments, and the package variables that the reading takes, are together of bulk at most 1048576: NARROWER than '..Said'. Prove '..Said' where nothing that the law and all that it calls make is longer than what came in: it says more and counts as full. Else prove '..UptoSaid'. A law counts once. -/
mutual
def uptoBulk {H : Type} : DataW H → Nat
  | .lit (.string bytes) => bytes.length + 1
  | .lit _ => 1
  | .nil => 1
  | .ptr d => uptoBulk d + 1
  | .slice elems spare => uptoBulkAll elems + uptoBulkAll spare + 1
  | .agg parts => uptoBulkAll parts + 1
  | .iface _ d => uptoBulk d + 1
  | .map entries => uptoBulkEntries entries + 1
  | .held _ => 1
def uptoBulkAll {H : Type} : List (DataW H) → Nat
  | [] => 0
  | d :: r => uptoBulk d + uptoBulkAll r
def uptoBulkEntries {H : Type} : List (Lit × DataW H) → Nat
  | [] => 0
  | x :: r => uptoBulkEntry x + uptoBulkEntries r
def uptoBulkEntry {H : Type} : Lit × DataW H → Nat
  | (.string bytes, d) => bytes.length + uptoBulk d + 1
  | (_, d) => uptoBulk d + 1
 end
def uptoSmall : (H : Type) → List (DataW H) → Bool := fun _ ds => decide (uptoBulkAll ds ≤ 1048576)
def OpenSpec.upto (s : _root_.Go.ChangeSpec) : _root_.Go.OpenSpec := { _root_.Go.OpenSpec.ofChange s with cond := some uptoSmall }

/-- 'laws.FnExactGapsIn', WHERE WHAT IT READS IS OF BULK AT MOST 1048576: true; the input reads as it did. -/
def fnExactGapsInUptoRow : OpenClaim := { program := "ytohoggoggchaeaa", sum := "ee897008654e66230cc0fabae8068354a4f6e12758885f13ebc6c73092de8981", func := "loop.example/g00333/laws.FnExactGapsIn", spec := "fnExactGapsIn", apart := false, narrowed := true }
def FnExactGapsInUptoSaid : Prop := fnExactGapsInUptoRow.holds Try.pinned (OpenSpec.upto fnExactGapsInSpec)

/-- 'laws.FnExactGoodReader', WHERE WHAT IT READS IS OF BULK AT MOST 1048576: true; the input reads as it did. -/
def fnExactGoodReaderUptoRow : OpenClaim := { program := "ytohoggoggchaeaa", sum := "ee897008654e66230cc0fabae8068354a4f6e12758885f13ebc6c73092de8981", func := "loop.example/g00333/laws.FnExactGoodReader", spec := "fnExactGoodReader", unfollowed := true, recurses := true, apart := false, narrowed := true }
def FnExactGoodReaderUptoSaid : Prop := fnExactGoodReaderUptoRow.holds Try.pinned (OpenSpec.upto fnExactGoodReaderSpec)

/-- 'laws.FnExactWhereIs', WHERE WHAT IT READS IS OF BULK AT MOST 1048576: true; the input reads as it did. -/
def fnExactWhereIsUptoRow : OpenClaim := { program := "ytohoggoggchaeaa", sum := "ee897008654e66230cc0fabae8068354a4f6e12758885f13ebc6c73092de8981", func := "loop.example/g00333/laws.FnExactWhereIs", spec := "fnExactWhereIs", apart := false, narrowed := true }
def FnExactWhereIsUptoSaid : Prop := fnExactWhereIsUptoRow.holds Try.pinned (OpenSpec.upto fnExactWhereIsSpec)

/-- 'laws.FnExactNewSession', WHERE WHAT IT READS IS OF BULK AT MOST 1048576: true; the input reads as it did. -/
def fnExactNewSessionUptoRow : OpenClaim := { program := "ytohoggoggchaeaa", sum := "ee897008654e66230cc0fabae8068354a4f6e12758885f13ebc6c73092de8981", func := "loop.example/g00333/laws.FnExactNewSession", spec := "fnExactNewSession", apart := false, narrowed := true }
def FnExactNewSessionUptoSaid : Prop := fnExactNewSessionUptoRow.holds Try.pinned (OpenSpec.upto fnExactNewSessionSpec)

/-- 'laws.FnExactTakeFrame', WHERE WHAT IT READS IS OF BULK AT MOST 1048576: true; the input reads as it did. -/
def fnExactTakeFrameUptoRow : OpenClaim := { program := "ytohoggoggchaeaa", sum := "ee897008654e66230cc0fabae8068354a4f6e12758885f13ebc6c73092de8981", func := "loop.example/g00333/laws.FnExactTakeFrame", spec := "fnExactTakeFrame", unfollowed := true, recurses := true, apart := false, narrowed := true }
def FnExactTakeFrameUptoSaid : Prop := fnExactTakeFrameUptoRow.holds Try.pinned (OpenSpec.upto fnExactTakeFrameSpec)

/-- 'laws.FnExactGoodSession', WHERE WHAT IT READS IS OF BULK AT MOST 1048576: true; the input reads as it did. -/
def fnExactGoodSessionUptoRow : OpenClaim := { program := "ytohoggoggchaeaa", sum := "ee897008654e66230cc0fabae8068354a4f6e12758885f13ebc6c73092de8981", func := "loop.example/g00333/laws.FnExactGoodSession", spec := "fnExactGoodSession", unfollowed := true, recurses := true, apart := false, narrowed := true }
def FnExactGoodSessionUptoSaid : Prop := fnExactGoodSessionUptoRow.holds Try.pinned (OpenSpec.upto fnExactGoodSessionSpec)

end Rows
end Go.Proofs.Ytohoggoggchaeaa
