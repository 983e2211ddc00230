/-
  No cell of these rows narrows 'for every input' (looked for: loops, veiled, ifaces, maps, wideKeys, modest, calm, conditions, laid).
  DERIVED. THE GIVEN ROWS OF THIS SEAT. 6 by the template 'for every input the law returns true; each argument reads behind the call as it read before'; 0 by the template 'total and deterministic' (their statements: YtjghbihlgfjebaaTotals.lean).
  GIVEN WITH THE SEED: the statements are not yours to turn. If you find one false, say at which input.
  Laid BY PROGRAM, IN A SANDBOX (cutbox-rows.mjs): the forced cells as the released guide's own fill.sh prints them over the translation 0e4f9c3e70aa2188… (all of the seat's roots in one cut). By AI agents, Wed Nov 11 2026. No macro, syntax, notation, axiom, sorry.
-/
import Derived.Test.YtjghbihlgfjebaaChecked
import GoSem.Claim
import GoSem.ClaimJoined
import GoSem.ClaimMapViews
import Derived.JoinedTies
import Derived.KernelRfl
namespace Go.Proofs.Ytjghbihlgfjebaa
/- THE CELL 'sum', in the pinned program and in every row, IS THE sha256 OF THE DUMP (.gsa) THAT YtjghbihlgfjebaaProg.lean LOADS. Nothing in Lean hashes anything: it is a label: what it is worth is what the hold of that sum in a sandbox is worth. -/
noncomputable def Try.pinned : Pinned := { name := "ytjghbihlgfjebaa", sum := "0e4f9c3e70aa21883245f05bfae3ed6e8d66b8aa2addc97dfdb70a59b2fd78c4", checked := Try.checked }
namespace Rows
def none {H : Type} : Left H := { results := [], args := [] }

/-- 'laws.FnExactCalmSession': WHATEVER THE INPUT: true; the input reads as it did. -/
def fnExactCalmSessionSpec : ChangeSpec := { name := "fnExactCalmSession", fn := fun _ => fun
  | [d] => { results := [.lit (.bool true)], args := [d] }
  | _ => none }
def fnExactCalmSessionRow : OpenClaim := { program := "ytjghbihlgfjebaa", sum := "0e4f9c3e70aa21883245f05bfae3ed6e8d66b8aa2addc97dfdb70a59b2fd78c4", func := "loop.example/g00333/laws.FnExactCalmSession", spec := "fnExactCalmSession", unfollowed := true, recurses := true, apart := false }
def FnExactCalmSessionSaid : Prop := fnExactCalmSessionRow.holds Try.pinned (OpenSpec.ofChange fnExactCalmSessionSpec)

/-- ITS FALSE NEIGHBOUR: 'it returns false'. Refute it at one input. -/
def fnExactCalmSessionWrong : ChangeSpec := { name := "fnExactCalmSession", fn := fun _ => fun
  | [d] => { results := [.lit (.bool false)], args := [d] }
  | _ => none }
def FnExactCalmSessionWrongFalsely : Prop := fnExactCalmSessionRow.holds Try.pinned (OpenSpec.ofChange fnExactCalmSessionWrong)

/-- 'laws.FnStream': WHATEVER THE INPUT: true; the input reads as it did. -/
def fnStreamSpec : ChangeSpec := { name := "fnStream", fn := fun _ => fun
  | [d1, d2] => { results := [.lit (.bool true)], args := [d1, d2] }
  | _ => none }
def fnStreamRow : OpenClaim := { program := "ytjghbihlgfjebaa", sum := "0e4f9c3e70aa21883245f05bfae3ed6e8d66b8aa2addc97dfdb70a59b2fd78c4", func := "loop.example/g00333/laws.FnStream", spec := "fnStream", unfollowed := true, recurses := true, apart := false }
def FnStreamSaid : Prop := fnStreamRow.holds Try.pinned (OpenSpec.ofChange fnStreamSpec)

/-- ITS FALSE NEIGHBOUR: 'it returns false'. Refute it at one input. -/
def fnStreamWrong : ChangeSpec := { name := "fnStream", fn := fun _ => fun
  | [d1, d2] => { results := [.lit (.bool false)], args := [d1, d2] }
  | _ => none }
def FnStreamWrongFalsely : Prop := fnStreamRow.holds Try.pinned (OpenSpec.ofChange fnStreamWrong)

/-- 'laws.FnSession': WHATEVER THE INPUT: true; the input reads as it did. -/
def fnSessionSpec : ChangeSpec := { name := "fnSession", fn := fun _ => fun
  | [d] => { results := [.lit (.bool true)], args := [d] }
  | _ => none }
def fnSessionRow : OpenClaim := { program := "ytjghbihlgfjebaa", sum := "0e4f9c3e70aa21883245f05bfae3ed6e8d66b8aa2addc97dfdb70a59b2fd78c4", func := "loop.example/g00333/laws.FnSession", spec := "fnSession", unfollowed := true, recurses := true, apart := false }
def FnSessionSaid : Prop := fnSessionRow.holds Try.pinned (OpenSpec.ofChange fnSessionSpec)

/-- ITS FALSE NEIGHBOUR: 'it returns false'. Refute it at one input. -/
def fnSessionWrong : ChangeSpec := { name := "fnSession", fn := fun _ => fun
  | [d] => { results := [.lit (.bool false)], args := [d] }
  | _ => none }
def FnSessionWrongFalsely : Prop := fnSessionRow.holds Try.pinned (OpenSpec.ofChange fnSessionWrong)

/-- 'laws.FnQueue': WHATEVER THE INPUT: true; the input reads as it did. -/
def fnQueueSpec : ChangeSpec := { name := "fnQueue", fn := fun _ => fun
  | [d] => { results := [.lit (.bool true)], args := [d] }
  | _ => none }
def fnQueueRow : OpenClaim := { program := "ytjghbihlgfjebaa", sum := "0e4f9c3e70aa21883245f05bfae3ed6e8d66b8aa2addc97dfdb70a59b2fd78c4", func := "loop.example/g00333/laws.FnQueue", spec := "fnQueue", inPlace := ["slices.overlaps[int]"], unfollowed := true, recurses := true, apart := false }
def FnQueueSaid : Prop := fnQueueRow.holds Try.pinned (OpenSpec.ofChange fnQueueSpec)

/-- ITS FALSE NEIGHBOUR: 'it returns false'. Refute it at one input. -/
def fnQueueWrong : ChangeSpec := { name := "fnQueue", fn := fun _ => fun
  | [d] => { results := [.lit (.bool false)], args := [d] }
  | _ => none }
def FnQueueWrongFalsely : Prop := fnQueueRow.holds Try.pinned (OpenSpec.ofChange fnQueueWrong)

/-- 'laws.FnSteps': WHATEVER THE INPUT: true; the input reads as it did. -/
def fnStepsSpec : ChangeSpec := { name := "fnSteps", fn := fun _ => fun
  | [d1, d2] => { results := [.lit (.bool true)], args := [d1, d2] }
  | _ => none }
def fnStepsRow : OpenClaim := { program := "ytjghbihlgfjebaa", sum := "0e4f9c3e70aa21883245f05bfae3ed6e8d66b8aa2addc97dfdb70a59b2fd78c4", func := "loop.example/g00333/laws.FnSteps", spec := "fnSteps", unfollowed := true, recurses := true, apart := false }
def FnStepsSaid : Prop := fnStepsRow.holds Try.pinned (OpenSpec.ofChange fnStepsSpec)

/-- ITS FALSE NEIGHBOUR: 'it returns false'. Refute it at one input. -/
def fnStepsWrong : ChangeSpec := { name := "fnSteps", fn := fun _ => fun
  | [d1, d2] => { results := [.lit (.bool false)], args := [d1, d2] }
  | _ => none }
def FnStepsWrongFalsely : Prop := fnStepsRow.holds Try.pinned (OpenSpec.ofChange fnStepsWrong)

/-- 'laws.FnOffers': WHATEVER THE INPUT: true; the input reads as it did. -/
def fnOffersSpec : ChangeSpec := { name := "fnOffers", fn := fun _ => fun
  | [d1, d2] => { results := [.lit (.bool true)], args := [d1, d2] }
  | _ => none }
def fnOffersRow : OpenClaim := { program := "ytjghbihlgfjebaa", sum := "0e4f9c3e70aa21883245f05bfae3ed6e8d66b8aa2addc97dfdb70a59b2fd78c4", func := "loop.example/g00333/laws.FnOffers", spec := "fnOffers", inPlace := ["slices.overlaps[int]"], unfollowed := true, recurses := true, apart := false }
def FnOffersSaid : Prop := fnOffersRow.holds Try.pinned (OpenSpec.ofChange fnOffersSpec)

/-- ITS FALSE NEIGHBOUR: 'it returns false'. Refute it at one input. -/
def fnOffersWrong : ChangeSpec := { name := "fnOffers", fn := fun _ => fun
  | [d1, d2] => { results := [.lit (.bool false)], args := [d1, d2] }
  | _ => none }
def FnOffersWrongFalsely : Prop := fnOffersRow.holds Try.pinned (OpenSpec.ofChange fnOffersWrong)

/- THE SECOND FORM. 'bulk': how many values and letters a reading holds, each counted each time it is reached (what is shared counts as often as it is met; a slice's spare places count too). A statement '..UptoSaid' is the law's where the arguments, and the package variables that the reading takes, are together of bulk at most 1048576: NARROWER than '..Said'. Prove '..Said' where nothing that the law and all that it calls make is longer than what came in: it says more and counts as full. Else prove '..UptoSaid'. A law counts once. -/
mutual
def uptoBulk {H : Type} : DataW H → Nat
  | .lit (.string bytes) => bytes.length + 1
  | .lit _ => 1
  | .nil => 1
  | .ptr d => uptoBulk d + 1
  | .slice elems spare => uptoBulkAll elems + uptoBulkAll spare + 1
  | .agg parts => uptoBulkAll parts + 1
  | .iface _ d => uptoBulk d + 1
  | .map entries => uptoBulkEntries entries + 1
  | .held _ => 1
def uptoBulkAll {H : Type} : List (DataW H) → Nat
  | [] => 0
  | d :: r => uptoBulk d + uptoBulkAll r
def uptoBulkEntries {H : Type} : List (Lit × DataW H) → Nat
  | [] => 0
  | x :: r => uptoBulkEntry x + uptoBulkEntries r
def uptoBulkEntry {H : Type} : Lit × DataW H → Nat
  | (.string bytes, d) => bytes.length + uptoBulk d + 1
  | (_, d) => uptoBulk d + 1
 end
def uptoSmall : (H : Type) → List (DataW H) → Bool := fun _ ds => decide (uptoBulkAll ds ≤ 1048576)
def OpenSpec.upto (s : _root_.Go.ChangeSpec) : _root_.Go.OpenSpec := { _root_.Go.OpenSpec.ofChange s with cond := some uptoSmall }

/-- 'laws.FnExactCalmSession', WHERE WHAT IT READS IS OF BULK AT MOST 1048576: true; the input reads as it did. -/
def fnExactCalmSessionUptoRow : OpenClaim := { program := "ytjghbihlgfjebaa", sum := "0e4f9c3e70aa21883245f05bfae3ed6e8d66b8aa2addc97dfdb70a59b2fd78c4", func := "loop.example/g00333/laws.FnExactCalmSession", spec := "fnExactCalmSession", unfollowed := true, recurses := true, apart := false, narrowed := true }
def FnExactCalmSessionUptoSaid : Prop := fnExactCalmSessionUptoRow.holds Try.pinned (OpenSpec.upto fnExactCalmSessionSpec)

/-- 'laws.FnStream', WHERE WHAT IT READS IS OF BULK AT MOST 1048576: true; the input reads as it did. -/
def fnStreamUptoRow : OpenClaim := { program := "ytjghbihlgfjebaa", sum := "0e4f9c3e70aa21883245f05bfae3ed6e8d66b8aa2addc97dfdb70a59b2fd78c4", func := "loop.example/g00333/laws.FnStream", spec := "fnStream", unfollowed := true, recurses := true, apart := false, narrowed := true }
def FnStreamUptoSaid : Prop := fnStreamUptoRow.holds Try.pinned (OpenSpec.upto fnStreamSpec)

/-- 'laws.FnSession', WHERE WHAT IT READS IS OF BULK AT MOST 1048576: true; the input reads as it did. -/
def fnSessionUptoRow : OpenClaim := { program := "ytjghbihlgfjebaa", sum := "0e4f9c3e70aa21883245f05bfae3ed6e8d66b8aa2addc97dfdb70a59b2fd78c4", func := "loop.example/g00333/laws.FnSession", spec := "fnSession", unfollowed := true, recurses := true, apart := false, narrowed := true }
def FnSessionUptoSaid : Prop := fnSessionUptoRow.holds Try.pinned (OpenSpec.upto fnSessionSpec)

/-- 'laws.FnQueue', WHERE WHAT IT READS IS OF BULK AT MOST 1048576: true; the input reads as it did. -/
def fnQueueUptoRow : OpenClaim := { program := "ytjghbihlgfjebaa", sum := "0e4f9c3e70aa21883245f05bfae3ed6e8d66b8aa2addc97dfdb70a59b2fd78c4", func := "loop.example/g00333/laws.FnQueue", spec := "fnQueue", inPlace := ["slices.overlaps[int]"], unfollowed := true, recurses := true, apart := false, narrowed := true }
def FnQueueUptoSaid : Prop := fnQueueUptoRow.holds Try.pinned (OpenSpec.upto fnQueueSpec)

/-- 'laws.FnSteps', WHERE WHAT IT READS IS OF BULK AT MOST 1048576: true; the input reads as it did. -/
def fnStepsUptoRow : OpenClaim := { program := "ytjghbihlgfjebaa", sum := "0e4f9c3e70aa21883245f05bfae3ed6e8d66b8aa2addc97dfdb70a59b2fd78c4", func := "loop.example/g00333/laws.FnSteps", spec := "fnSteps", unfollowed := true, recurses := true, apart := false, narrowed := true }
def FnStepsUptoSaid : Prop := fnStepsUptoRow.holds Try.pinned (OpenSpec.upto fnStepsSpec)

/-- 'laws.FnOffers', WHERE WHAT IT READS IS OF BULK AT MOST 1048576: true; the input reads as it did. -/
def fnOffersUptoRow : OpenClaim := { program := "ytjghbihlgfjebaa", sum := "0e4f9c3e70aa21883245f05bfae3ed6e8d66b8aa2addc97dfdb70a59b2fd78c4", func := "loop.example/g00333/laws.FnOffers", spec := "fnOffers", inPlace := ["slices.overlaps[int]"], unfollowed := true, recurses := true, apart := false, narrowed := true }
def FnOffersUptoSaid : Prop := fnOffersUptoRow.holds Try.pinned (OpenSpec.upto fnOffersSpec)

end Rows
end Go.Proofs.Ytjghbihlgfjebaa
