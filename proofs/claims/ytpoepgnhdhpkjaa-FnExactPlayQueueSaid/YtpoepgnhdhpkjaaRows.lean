/-
  No cell of these rows narrows 'for every input' (looked for: loops, veiled, ifaces, maps, wideKeys, modest, calm, conditions, laid).
  DERIVED. THE GIVEN ROWS OF THIS SEAT. 6 by the template 'for every input the law returns true; each argument reads behind the call as it read before'; 0 by the template 'total and deterministic' (their statements: YtpoepgnhdhpkjaaTotals.lean).
  GIVEN WITH THE SEED: the statements are not yours to turn. If you find one false, say at which input.
  Laid BY PROGRAM, IN A SANDBOX (cutbox-rows.mjs): the forced cells as the released guide's own fill.sh prints them over the translation 8fb6446a987c4e5e… (all of the seat's roots in one cut). By AI agents, Wed Nov 11 2026. No macro, syntax, notation, axiom, sorry.
-/
import Derived.Test.YtpoepgnhdhpkjaaChecked
import GoSem.Claim
import GoSem.ClaimJoined
import GoSem.ClaimMapViews
import Derived.JoinedTies
import Derived.KernelRfl
namespace Go.Proofs.Ytpoepgnhdhpkjaa
/- THE CELL 'sum', in the pinned program and in every row, IS THE sha256 OF THE DUMP (.gsa) THAT YtpoepgnhdhpkjaaProg.lean LOADS. Nothing in Lean hashes anything: it is a label: what it is worth is what the hold of that sum in a sandbox is worth. -/
noncomputable def Try.pinned : Pinned := { name := "ytpoepgnhdhpkjaa", sum := "8fb6446a987c4e5ed89c43ee3e149e2e55f2b21b499d7fe5e7bdbbabe899fb53", checked := Try.checked }
namespace Rows
def none {H : Type} : Left H := { results := [], args := [] }

/-- 'laws.FnExactPendingIn': WHATEVER THE INPUT: true; the input reads as it did. -/
def fnExactPendingInSpec : ChangeSpec := { name := "fnExactPendingIn", fn := fun _ => fun
  | [d] => { results := [.lit (.bool true)], args := [d] }
  | _ => none }
def fnExactPendingInRow : OpenClaim := { program := "ytpoepgnhdhpkjaa", sum := "8fb6446a987c4e5ed89c43ee3e149e2e55f2b21b499d7fe5e7bdbbabe899fb53", func := "loop.example/g00333/laws.FnExactPendingIn", spec := "fnExactPendingIn", unfollowed := true, recurses := true, apart := false }
def FnExactPendingInSaid : Prop := fnExactPendingInRow.holds Try.pinned (OpenSpec.ofChange fnExactPendingInSpec)

/-- ITS FALSE NEIGHBOUR: 'it returns false'. Refute it at one input. -/
def fnExactPendingInWrong : ChangeSpec := { name := "fnExactPendingIn", fn := fun _ => fun
  | [d] => { results := [.lit (.bool false)], args := [d] }
  | _ => none }
def FnExactPendingInWrongFalsely : Prop := fnExactPendingInRow.holds Try.pinned (OpenSpec.ofChange fnExactPendingInWrong)

/-- 'laws.FnExactHand': WHATEVER THE INPUT: true; the input reads as it did. -/
def fnExactHandSpec : ChangeSpec := { name := "fnExactHand", fn := fun _ => fun
  | [d] => { results := [.lit (.bool true)], args := [d] }
  | _ => none }
def fnExactHandRow : OpenClaim := { program := "ytpoepgnhdhpkjaa", sum := "8fb6446a987c4e5ed89c43ee3e149e2e55f2b21b499d7fe5e7bdbbabe899fb53", func := "loop.example/g00333/laws.FnExactHand", spec := "fnExactHand", inPlace := ["slices.overlaps[int]"], unfollowed := true, recurses := true, apart := false }
def FnExactHandSaid : Prop := fnExactHandRow.holds Try.pinned (OpenSpec.ofChange fnExactHandSpec)

/-- ITS FALSE NEIGHBOUR: 'it returns false'. Refute it at one input. -/
def fnExactHandWrong : ChangeSpec := { name := "fnExactHand", fn := fun _ => fun
  | [d] => { results := [.lit (.bool false)], args := [d] }
  | _ => none }
def FnExactHandWrongFalsely : Prop := fnExactHandRow.holds Try.pinned (OpenSpec.ofChange fnExactHandWrong)

/-- 'laws.FnExactOffer': WHATEVER THE INPUT: true; the input reads as it did. -/
def fnExactOfferSpec : ChangeSpec := { name := "fnExactOffer", fn := fun _ => fun
  | [d] => { results := [.lit (.bool true)], args := [d] }
  | _ => none }
def fnExactOfferRow : OpenClaim := { program := "ytpoepgnhdhpkjaa", sum := "8fb6446a987c4e5ed89c43ee3e149e2e55f2b21b499d7fe5e7bdbbabe899fb53", func := "loop.example/g00333/laws.FnExactOffer", spec := "fnExactOffer", inPlace := ["slices.overlaps[int]"], unfollowed := true, recurses := true, apart := false }
def FnExactOfferSaid : Prop := fnExactOfferRow.holds Try.pinned (OpenSpec.ofChange fnExactOfferSpec)

/-- ITS FALSE NEIGHBOUR: 'it returns false'. Refute it at one input. -/
def fnExactOfferWrong : ChangeSpec := { name := "fnExactOffer", fn := fun _ => fun
  | [d] => { results := [.lit (.bool false)], args := [d] }
  | _ => none }
def FnExactOfferWrongFalsely : Prop := fnExactOfferRow.holds Try.pinned (OpenSpec.ofChange fnExactOfferWrong)

/-- 'laws.FnExactPlayQueue': WHATEVER THE INPUT: true; the input reads as it did. -/
def fnExactPlayQueueSpec : ChangeSpec := { name := "fnExactPlayQueue", fn := fun _ => fun
  | [d1, d2, d3] => { results := [.lit (.bool true)], args := [d1, d2, d3] }
  | _ => none }
def fnExactPlayQueueRow : OpenClaim := { program := "ytpoepgnhdhpkjaa", sum := "8fb6446a987c4e5ed89c43ee3e149e2e55f2b21b499d7fe5e7bdbbabe899fb53", func := "loop.example/g00333/laws.FnExactPlayQueue", spec := "fnExactPlayQueue", inPlace := ["slices.overlaps[int]"], unfollowed := true, recurses := true, apart := false }
def FnExactPlayQueueSaid : Prop := fnExactPlayQueueRow.holds Try.pinned (OpenSpec.ofChange fnExactPlayQueueSpec)

/-- ITS FALSE NEIGHBOUR: 'it returns false'. Refute it at one input. -/
def fnExactPlayQueueWrong : ChangeSpec := { name := "fnExactPlayQueue", fn := fun _ => fun
  | [d1, d2, d3] => { results := [.lit (.bool false)], args := [d1, d2, d3] }
  | _ => none }
def FnExactPlayQueueWrongFalsely : Prop := fnExactPlayQueueRow.holds Try.pinned (OpenSpec.ofChange fnExactPlayQueueWrong)

/-- 'laws.FnExactPlaySession': WHATEVER THE INPUT: true; the input reads as it did. -/
def fnExactPlaySessionSpec : ChangeSpec := { name := "fnExactPlaySession", fn := fun _ => fun
  | [d1, d2] => { results := [.lit (.bool true)], args := [d1, d2] }
  | _ => none }
def fnExactPlaySessionRow : OpenClaim := { program := "ytpoepgnhdhpkjaa", sum := "8fb6446a987c4e5ed89c43ee3e149e2e55f2b21b499d7fe5e7bdbbabe899fb53", func := "loop.example/g00333/laws.FnExactPlaySession", spec := "fnExactPlaySession", apart := false }
def FnExactPlaySessionSaid : Prop := fnExactPlaySessionRow.holds Try.pinned (OpenSpec.ofChange fnExactPlaySessionSpec)

/-- ITS FALSE NEIGHBOUR: 'it returns false'. Refute it at one input. -/
def fnExactPlaySessionWrong : ChangeSpec := { name := "fnExactPlaySession", fn := fun _ => fun
  | [d1, d2] => { results := [.lit (.bool false)], args := [d1, d2] }
  | _ => none }
def FnExactPlaySessionWrongFalsely : Prop := fnExactPlaySessionRow.holds Try.pinned (OpenSpec.ofChange fnExactPlaySessionWrong)

/-- 'laws.FnExactStepSession': WHATEVER THE INPUT: true; the input reads as it did. -/
def fnExactStepSessionSpec : ChangeSpec := { name := "fnExactStepSession", fn := fun _ => fun
  | [d1, d2] => { results := [.lit (.bool true)], args := [d1, d2] }
  | _ => none }
def fnExactStepSessionRow : OpenClaim := { program := "ytpoepgnhdhpkjaa", sum := "8fb6446a987c4e5ed89c43ee3e149e2e55f2b21b499d7fe5e7bdbbabe899fb53", func := "loop.example/g00333/laws.FnExactStepSession", spec := "fnExactStepSession", unfollowed := true, recurses := true, apart := false }
def FnExactStepSessionSaid : Prop := fnExactStepSessionRow.holds Try.pinned (OpenSpec.ofChange fnExactStepSessionSpec)

/-- ITS FALSE NEIGHBOUR: 'it returns false'. Refute it at one input. -/
def fnExactStepSessionWrong : ChangeSpec := { name := "fnExactStepSession", fn := fun _ => fun
  | [d1, d2] => { results := [.lit (.bool false)], args := [d1, d2] }
  | _ => none }
def FnExactStepSessionWrongFalsely : Prop := fnExactStepSessionRow.holds Try.pinned (OpenSpec.ofChange fnExactStepSessionWrong)

/- THE SECOND FORM. 'bulk': how many values and letters a reading holds, each counted each time it is reached (what is shared counts as often as it is met; a slice's spare places count too). A statement '..UptoSaid' is the law's where the arguments, and the package variables that the reading takes, are together of bulk at most 1048576: NARROWER than '..Said'. Prove '..Said' where nothing that the law and all that it calls make is longer than what came in: it says more and counts as full. Else prove '..UptoSaid'. A law counts once. -/
mutual
def uptoBulk {H : Type} : DataW H → Nat
  | .lit (.string bytes) => bytes.length + 1
  | .lit _ => 1
  | .nil => 1
  | .ptr d => uptoBulk d + 1
  | .slice elems spare => uptoBulkAll elems + uptoBulkAll spare + 1
  | .agg parts => uptoBulkAll parts + 1
  | .iface _ d => uptoBulk d + 1
  | .map entries => uptoBulkEntries entries + 1
  | .held _ => 1
def uptoBulkAll {H : Type} : List (DataW H) → Nat
  | [] => 0
  | d :: r => uptoBulk d + uptoBulkAll r
def uptoBulkEntries {H : Type} : List (Lit × DataW H) → Nat
  | [] => 0
  | x :: r => uptoBulkEntry x + uptoBulkEntries r
def uptoBulkEntry {H : Type} : Lit × DataW H → Nat
  | (.string bytes, d) => bytes.length + uptoBulk d + 1
  | (_, d) => uptoBulk d + 1
 end
def uptoSmall : (H : Type) → List (DataW H) → Bool := fun _ ds => decide (uptoBulkAll ds ≤ 1048576)
def OpenSpec.upto (s : _root_.Go.ChangeSpec) : _root_.Go.OpenSpec := { _root_.Go.OpenSpec.ofChange s with cond := some uptoSmall }

/-- 'laws.FnExactPendingIn', WHERE WHAT IT READS IS OF BULK AT MOST 1048576: true; the input reads as it did. -/
def fnExactPendingInUptoRow : OpenClaim := { program := "ytpoepgnhdhpkjaa", sum := "8fb6446a987c4e5ed89c43ee3e149e2e55f2b21b499d7fe5e7bdbbabe899fb53", func := "loop.example/g00333/laws.FnExactPendingIn", spec := "fnExactPendingIn", unfollowed := true, recurses := true, apart := false, narrowed := true }
def FnExactPendingInUptoSaid : Prop := fnExactPendingInUptoRow.holds Try.pinned (OpenSpec.upto fnExactPendingInSpec)

/-- 'laws.FnExactHand', WHERE WHAT IT READS IS OF BULK AT MOST 1048576: true; the input reads as it did. -/
def fnExactHandUptoRow : OpenClaim := { program := "ytpoepgnhdhpkjaa", sum := "8fb6446a987c4e5ed89c43ee3e149e2e55f2b21b499d7fe5e7bdbbabe899fb53", func := "loop.example/g00333/laws.FnExactHand", spec := "fnExactHand", inPlace := ["slices.overlaps[int]"], unfollowed := true, recurses := true, apart := false, narrowed := true }
def FnExactHandUptoSaid : Prop := fnExactHandUptoRow.holds Try.pinned (OpenSpec.upto fnExactHandSpec)

/-- 'laws.FnExactOffer', WHERE WHAT IT READS IS OF BULK AT MOST 1048576: true; the input reads as it did. -/
def fnExactOfferUptoRow : OpenClaim := { program := "ytpoepgnhdhpkjaa", sum := "8fb6446a987c4e5ed89c43ee3e149e2e55f2b21b499d7fe5e7bdbbabe899fb53", func := "loop.example/g00333/laws.FnExactOffer", spec := "fnExactOffer", inPlace := ["slices.overlaps[int]"], unfollowed := true, recurses := true, apart := false, narrowed := true }
def FnExactOfferUptoSaid : Prop := fnExactOfferUptoRow.holds Try.pinned (OpenSpec.upto fnExactOfferSpec)

/-- 'laws.FnExactPlayQueue', WHERE WHAT IT READS IS OF BULK AT MOST 1048576: true; the input reads as it did. -/
def fnExactPlayQueueUptoRow : OpenClaim := { program := "ytpoepgnhdhpkjaa", sum := "8fb6446a987c4e5ed89c43ee3e149e2e55f2b21b499d7fe5e7bdbbabe899fb53", func := "loop.example/g00333/laws.FnExactPlayQueue", spec := "fnExactPlayQueue", inPlace := ["slices.overlaps[int]"], unfollowed := true, recurses := true, apart := false, narrowed := true }
def FnExactPlayQueueUptoSaid : Prop := fnExactPlayQueueUptoRow.holds Try.pinned (OpenSpec.upto fnExactPlayQueueSpec)

/-- 'laws.FnExactPlaySession', WHERE WHAT IT READS IS OF BULK AT MOST 1048576: true; the input reads as it did. -/
def fnExactPlaySessionUptoRow : OpenClaim := { program := "ytpoepgnhdhpkjaa", sum := "8fb6446a987c4e5ed89c43ee3e149e2e55f2b21b499d7fe5e7bdbbabe899fb53", func := "loop.example/g00333/laws.FnExactPlaySession", spec := "fnExactPlaySession", apart := false, narrowed := true }
def FnExactPlaySessionUptoSaid : Prop := fnExactPlaySessionUptoRow.holds Try.pinned (OpenSpec.upto fnExactPlaySessionSpec)

/-- 'laws.FnExactStepSession', WHERE WHAT IT READS IS OF BULK AT MOST 1048576: true; the input reads as it did. -/
def fnExactStepSessionUptoRow : OpenClaim := { program := "ytpoepgnhdhpkjaa", sum := "8fb6446a987c4e5ed89c43ee3e149e2e55f2b21b499d7fe5e7bdbbabe899fb53", func := "loop.example/g00333/laws.FnExactStepSession", spec := "fnExactStepSession", unfollowed := true, recurses := true, apart := false, narrowed := true }
def FnExactStepSessionUptoSaid : Prop := fnExactStepSessionUptoRow.holds Try.pinned (OpenSpec.upto fnExactStepSessionSpec)

end Rows
end Go.Proofs.Ytpoepgnhdhpkjaa
