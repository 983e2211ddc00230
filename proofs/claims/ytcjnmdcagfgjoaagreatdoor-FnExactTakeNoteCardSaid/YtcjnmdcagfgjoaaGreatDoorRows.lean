/-
  NARROWER THAN 'FOR EVERY INPUT', by the rows' own cells (each row's printed sentence says how): FnExactGoodBroker: laid · FnExactWouldGet: laid · FnExactNewBroker: laid · FnExactFanOf: laid · FnExactTakeNote: laid · FnExactPublish: laid.
  DERIVED. THE GIVEN ROWS OF THIS SEAT. 6 by the template 'for every input the law returns true; each argument reads behind the call as it read before'; 0 by the template 'total and deterministic' (their statements: YtcjnmdcagfgjoaaGreatDoorTotals.lean).
  GIVEN WITH THE SEED: the statements are not yours to turn. If you find one false, say at which input.
  Laid BY PROGRAM, IN A SANDBOX (cutbox-rows.mjs): the forced cells as the released guide's own fill.sh prints them over the translation fe154957b8c10bcb… (all of the seat's roots in one cut). By AI agents, Wed Nov 11 2026. No macro, syntax, notation, axiom, sorry.
-/
import Derived.Test.YtcjnmdcagfgjoaaGreatDoorChecked
import GoSem.PinnedTables
import GoSem.Claim
import GoSem.ClaimJoined
import GoSem.ClaimMapViews
import Derived.JoinedTies
import Derived.KernelRfl
namespace Go.Proofs.YtcjnmdcagfgjoaaGreatDoor
/- THE CELL 'sum', in the pinned program and in every row, IS THE sha256 OF THE DUMP (.gsa) THAT YtcjnmdcagfgjoaaGreatDoorProg.lean LOADS. Nothing in Lean hashes anything: it is a label: what it is worth is what the hold of that sum in a sandbox is worth. -/
noncomputable def Tryz.pinned : Pinned := { name := "ytcjnmdcagfgjoaagreatdoor", sum := "fe154957b8c10bcb902f8443710c4340a0a389f2fb63f5ba5bbeed2f3e41ff3f", checked := Tryz.checked }
namespace Rows
def none {H : Type} : Left H := { results := [], args := [] }

/- WHAT THE LISTED PACKAGE-LEVEL VARIABLES READ AS WHEN THE CALL BEGINS. Each datum BY PROGRAM (the guide's laid-datum.mjs) off the statement by which the dump's own 'gosem.cut.vars' lays the variable. In a bare row this is a premise. The card (YtcjnmdcagfgjoaaGreatDoorCards.lean) ties it to the program's text. -/
def laid_unicode_utf8_acceptRanges {H : Type} : DataW H := .agg [.agg [.lit (.int .u8 128), .lit (.int .u8 191)], .agg [.lit (.int .u8 160), .lit (.int .u8 191)], .agg [.lit (.int .u8 128), .lit (.int .u8 159)], .agg [.lit (.int .u8 144), .lit (.int .u8 191)], .agg [.lit (.int .u8 128), .lit (.int .u8 143)], .agg [.lit (.int .u8 0), .lit (.int .u8 0)], .agg [.lit (.int .u8 0), .lit (.int .u8 0)], .agg [.lit (.int .u8 0), .lit (.int .u8 0)], .agg [.lit (.int .u8 0), .lit (.int .u8 0)], .agg [.lit (.int .u8 0), .lit (.int .u8 0)], .agg [.lit (.int .u8 0), .lit (.int .u8 0)], .agg [.lit (.int .u8 0), .lit (.int .u8 0)], .agg [.lit (.int .u8 0), .lit (.int .u8 0)], .agg [.lit (.int .u8 0), .lit (.int .u8 0)], .agg [.lit (.int .u8 0), .lit (.int .u8 0)], .agg [.lit (.int .u8 0), .lit (.int .u8 0)]]
/-- One of Go's own tables, pinned by name: the form's constant. -/
def laid_unicode_utf8_first : DataW Unit := Go.Pinned.utf8First

/-- 'laws.FnExactGoodBroker': WHATEVER THE INPUT: true; the input reads as it did. -/
def fnExactGoodBrokerSpec : ChangeSpec := { name := "fnExactGoodBroker", fn := fun _ => fun
  | [d] => { results := [.lit (.bool true)], args := [d] }
  | _ => none }
def fnExactGoodBrokerRow : OpenClaim := { program := "ytcjnmdcagfgjoaagreatdoor", sum := "fe154957b8c10bcb902f8443710c4340a0a389f2fb63f5ba5bbeed2f3e41ff3f", func := "loop.example/g00333/laws.FnExactGoodBroker", spec := "fnExactGoodBroker", inPlace := ["internal/bytealg.CountString", "internal/bytealg.IndexByteString", "internal/bytealg.IndexString"], unfollowed := true, recurses := true, named := ["unicode/utf8.first", "unicode/utf8.acceptRanges", "internal/bytealg.MaxLen"], apart := false, laid := [("unicode/utf8.acceptRanges", laid_unicode_utf8_acceptRanges), ("unicode/utf8.first", laid_unicode_utf8_first)] }
def FnExactGoodBrokerSaid : Prop := fnExactGoodBrokerRow.holds Tryz.pinned (OpenSpec.ofChange fnExactGoodBrokerSpec)

/-- ITS FALSE NEIGHBOUR: 'it returns false'. Refute it at one input. -/
def fnExactGoodBrokerWrong : ChangeSpec := { name := "fnExactGoodBroker", fn := fun _ => fun
  | [d] => { results := [.lit (.bool false)], args := [d] }
  | _ => none }
def FnExactGoodBrokerWrongFalsely : Prop := fnExactGoodBrokerRow.holds Tryz.pinned (OpenSpec.ofChange fnExactGoodBrokerWrong)

/-- 'laws.FnExactWouldGet': WHATEVER THE INPUT: true; the input reads as it did. -/
def fnExactWouldGetSpec : ChangeSpec := { name := "fnExactWouldGet", fn := fun _ => fun
  | [d1, d2, d3] => { results := [.lit (.bool true)], args := [d1, d2, d3] }
  | _ => none }
def fnExactWouldGetRow : OpenClaim := { program := "ytcjnmdcagfgjoaagreatdoor", sum := "fe154957b8c10bcb902f8443710c4340a0a389f2fb63f5ba5bbeed2f3e41ff3f", func := "loop.example/g00333/laws.FnExactWouldGet", spec := "fnExactWouldGet", inPlace := ["internal/bytealg.CountString", "internal/bytealg.IndexByteString", "internal/bytealg.IndexString"], unfollowed := true, recurses := true, named := ["unicode/utf8.first", "unicode/utf8.acceptRanges", "internal/bytealg.MaxLen"], apart := false, laid := [("unicode/utf8.acceptRanges", laid_unicode_utf8_acceptRanges), ("unicode/utf8.first", laid_unicode_utf8_first)] }
def FnExactWouldGetSaid : Prop := fnExactWouldGetRow.holds Tryz.pinned (OpenSpec.ofChange fnExactWouldGetSpec)

/-- ITS FALSE NEIGHBOUR: 'it returns false'. Refute it at one input. -/
def fnExactWouldGetWrong : ChangeSpec := { name := "fnExactWouldGet", fn := fun _ => fun
  | [d1, d2, d3] => { results := [.lit (.bool false)], args := [d1, d2, d3] }
  | _ => none }
def FnExactWouldGetWrongFalsely : Prop := fnExactWouldGetRow.holds Tryz.pinned (OpenSpec.ofChange fnExactWouldGetWrong)

/-- 'laws.FnExactNewBroker': WHATEVER THE INPUT: true; the input reads as it did. -/
def fnExactNewBrokerSpec : ChangeSpec := { name := "fnExactNewBroker", fn := fun _ => fun
  | [d] => { results := [.lit (.bool true)], args := [d] }
  | _ => none }
def fnExactNewBrokerRow : OpenClaim := { program := "ytcjnmdcagfgjoaagreatdoor", sum := "fe154957b8c10bcb902f8443710c4340a0a389f2fb63f5ba5bbeed2f3e41ff3f", func := "loop.example/g00333/laws.FnExactNewBroker", spec := "fnExactNewBroker", inPlace := ["internal/bytealg.CountString", "internal/bytealg.IndexByteString", "internal/bytealg.IndexString"], unfollowed := true, recurses := true, named := ["unicode/utf8.first", "unicode/utf8.acceptRanges", "internal/bytealg.MaxLen"], apart := false, laid := [("unicode/utf8.acceptRanges", laid_unicode_utf8_acceptRanges), ("unicode/utf8.first", laid_unicode_utf8_first)] }
def FnExactNewBrokerSaid : Prop := fnExactNewBrokerRow.holds Tryz.pinned (OpenSpec.ofChange fnExactNewBrokerSpec)

/-- ITS FALSE NEIGHBOUR: 'it returns false'. Refute it at one input. -/
def fnExactNewBrokerWrong : ChangeSpec := { name := "fnExactNewBroker", fn := fun _ => fun
  | [d] => { results := [.lit (.bool false)], args := [d] }
  | _ => none }
def FnExactNewBrokerWrongFalsely : Prop := fnExactNewBrokerRow.holds Tryz.pinned (OpenSpec.ofChange fnExactNewBrokerWrong)

/-- 'laws.FnExactFanOf': WHATEVER THE INPUT: true; the input reads as it did. -/
def fnExactFanOfSpec : ChangeSpec := { name := "fnExactFanOf", fn := fun _ => fun
  | [d1, d2] => { results := [.lit (.bool true)], args := [d1, d2] }
  | _ => none }
def fnExactFanOfRow : OpenClaim := { program := "ytcjnmdcagfgjoaagreatdoor", sum := "fe154957b8c10bcb902f8443710c4340a0a389f2fb63f5ba5bbeed2f3e41ff3f", func := "loop.example/g00333/laws.FnExactFanOf", spec := "fnExactFanOf", inPlace := ["internal/bytealg.CountString", "internal/bytealg.IndexByteString", "internal/bytealg.IndexString"], unfollowed := true, recurses := true, named := ["unicode/utf8.first", "unicode/utf8.acceptRanges", "internal/bytealg.MaxLen"], apart := false, laid := [("unicode/utf8.acceptRanges", laid_unicode_utf8_acceptRanges), ("unicode/utf8.first", laid_unicode_utf8_first)] }
def FnExactFanOfSaid : Prop := fnExactFanOfRow.holds Tryz.pinned (OpenSpec.ofChange fnExactFanOfSpec)

/-- ITS FALSE NEIGHBOUR: 'it returns false'. Refute it at one input. -/
def fnExactFanOfWrong : ChangeSpec := { name := "fnExactFanOf", fn := fun _ => fun
  | [d1, d2] => { results := [.lit (.bool false)], args := [d1, d2] }
  | _ => none }
def FnExactFanOfWrongFalsely : Prop := fnExactFanOfRow.holds Tryz.pinned (OpenSpec.ofChange fnExactFanOfWrong)

/-- 'laws.FnExactTakeNote': WHATEVER THE INPUT: true; the input reads as it did. -/
def fnExactTakeNoteSpec : ChangeSpec := { name := "fnExactTakeNote", fn := fun _ => fun
  | [d1, d2] => { results := [.lit (.bool true)], args := [d1, d2] }
  | _ => none }
def fnExactTakeNoteRow : OpenClaim := { program := "ytcjnmdcagfgjoaagreatdoor", sum := "fe154957b8c10bcb902f8443710c4340a0a389f2fb63f5ba5bbeed2f3e41ff3f", func := "loop.example/g00333/laws.FnExactTakeNote", spec := "fnExactTakeNote", inPlace := ["internal/bytealg.CountString", "internal/bytealg.IndexByteString", "internal/bytealg.IndexString"], unfollowed := true, recurses := true, named := ["unicode/utf8.first", "unicode/utf8.acceptRanges", "internal/bytealg.MaxLen"], apart := false, laid := [("unicode/utf8.acceptRanges", laid_unicode_utf8_acceptRanges), ("unicode/utf8.first", laid_unicode_utf8_first)] }
def FnExactTakeNoteSaid : Prop := fnExactTakeNoteRow.holds Tryz.pinned (OpenSpec.ofChange fnExactTakeNoteSpec)

/-- ITS FALSE NEIGHBOUR: 'it returns false'. Refute it at one input. -/
def fnExactTakeNoteWrong : ChangeSpec := { name := "fnExactTakeNote", fn := fun _ => fun
  | [d1, d2] => { results := [.lit (.bool false)], args := [d1, d2] }
  | _ => none }
def FnExactTakeNoteWrongFalsely : Prop := fnExactTakeNoteRow.holds Tryz.pinned (OpenSpec.ofChange fnExactTakeNoteWrong)

/-- 'laws.FnExactPublish': WHATEVER THE INPUT: true; the input reads as it did. -/
def fnExactPublishSpec : ChangeSpec := { name := "fnExactPublish", fn := fun _ => fun
  | [d1, d2] => { results := [.lit (.bool true)], args := [d1, d2] }
  | _ => none }
def fnExactPublishRow : OpenClaim := { program := "ytcjnmdcagfgjoaagreatdoor", sum := "fe154957b8c10bcb902f8443710c4340a0a389f2fb63f5ba5bbeed2f3e41ff3f", func := "loop.example/g00333/laws.FnExactPublish", spec := "fnExactPublish", inPlace := ["internal/bytealg.CountString", "internal/bytealg.IndexByteString", "internal/bytealg.IndexString"], unfollowed := true, recurses := true, named := ["unicode/utf8.first", "unicode/utf8.acceptRanges", "internal/bytealg.MaxLen"], apart := false, laid := [("unicode/utf8.acceptRanges", laid_unicode_utf8_acceptRanges), ("unicode/utf8.first", laid_unicode_utf8_first)] }
def FnExactPublishSaid : Prop := fnExactPublishRow.holds Tryz.pinned (OpenSpec.ofChange fnExactPublishSpec)

/-- ITS FALSE NEIGHBOUR: 'it returns false'. Refute it at one input. -/
def fnExactPublishWrong : ChangeSpec := { name := "fnExactPublish", fn := fun _ => fun
  | [d1, d2] => { results := [.lit (.bool false)], args := [d1, d2] }
  | _ => none }
def FnExactPublishWrongFalsely : Prop := fnExactPublishRow.holds Tryz.pinned (OpenSpec.ofChange fnExactPublishWrong)

/- THE SECOND FORM. 'bulk': how many values and letters a reading holds, each counted each time it is reached (what is shared counts as often as it is met; a slice's spare places count too). A statement '..UptoSaid' is the law's where the arguments, and the package variables that the reading takes, are together of bulk at most 1048576: NARROWER than '..Said'. Prove '..Said' where nothing that the law and all that it calls make is longer than what came in: it says more and counts as full. Else prove '..UptoSaid'. A law counts once. -/
mutual
def uptoBulk {H : Type} : DataW H → Nat
  | .lit (.string bytes) => bytes.length + 1
  | .lit _ => 1
  | .nil => 1
  | .ptr d => uptoBulk d + 1
  | .slice elems spare => uptoBulkAll elems + uptoBulkAll spare + 1
  | .agg parts => uptoBulkAll parts + 1
  | .iface _ d => uptoBulk d + 1
  | .map entries => uptoBulkEntries entries + 1
  | .held _ => 1
def uptoBulkAll {H : Type} : List (DataW H) → Nat
  | [] => 0
  | d :: r => uptoBulk d + uptoBulkAll r
def uptoBulkEntries {H : Type} : List (Lit × DataW H) → Nat
  | [] => 0
  | x :: r => uptoBulkEntry x + uptoBulkEntries r
def uptoBulkEntry {H : Type} : Lit × DataW H → Nat
  | (.string bytes, d) => bytes.length + uptoBulk d + 1
  | (_, d) => uptoBulk d + 1
 end
def uptoSmall : (H : Type) → List (DataW H) → Bool := fun _ ds => decide (uptoBulkAll ds ≤ 1048576)
def OpenSpec.upto (s : _root_.Go.ChangeSpec) : _root_.Go.OpenSpec := { _root_.Go.OpenSpec.ofChange s with cond := some uptoSmall }

/-- 'laws.FnExactGoodBroker', WHERE WHAT IT READS IS OF BULK AT MOST 1048576: true; the input reads as it did. -/
def fnExactGoodBrokerUptoRow : OpenClaim := { program := "ytcjnmdcagfgjoaagreatdoor", sum := "fe154957b8c10bcb902f8443710c4340a0a389f2fb63f5ba5bbeed2f3e41ff3f", func := "loop.example/g00333/laws.FnExactGoodBroker", spec := "fnExactGoodBroker", inPlace := ["internal/bytealg.CountString", "internal/bytealg.IndexByteString", "internal/bytealg.IndexString"], unfollowed := true, recurses := true, named := ["unicode/utf8.first", "unicode/utf8.acceptRanges", "internal/bytealg.MaxLen"], apart := false, laid := [("unicode/utf8.acceptRanges", laid_unicode_utf8_acceptRanges), ("unicode/utf8.first", laid_unicode_utf8_first)], narrowed := true }
def FnExactGoodBrokerUptoSaid : Prop := fnExactGoodBrokerUptoRow.holds Tryz.pinned (OpenSpec.upto fnExactGoodBrokerSpec)

/-- 'laws.FnExactWouldGet', WHERE WHAT IT READS IS OF BULK AT MOST 1048576: true; the input reads as it did. -/
def fnExactWouldGetUptoRow : OpenClaim := { program := "ytcjnmdcagfgjoaagreatdoor", sum := "fe154957b8c10bcb902f8443710c4340a0a389f2fb63f5ba5bbeed2f3e41ff3f", func := "loop.example/g00333/laws.FnExactWouldGet", spec := "fnExactWouldGet", inPlace := ["internal/bytealg.CountString", "internal/bytealg.IndexByteString", "internal/bytealg.IndexString"], unfollowed := true, recurses := true, named := ["unicode/utf8.first", "unicode/utf8.acceptRanges", "internal/bytealg.MaxLen"], apart := false, laid := [("unicode/utf8.acceptRanges", laid_unicode_utf8_acceptRanges), ("unicode/utf8.first", laid_unicode_utf8_first)], narrowed := true }
def FnExactWouldGetUptoSaid : Prop := fnExactWouldGetUptoRow.holds Tryz.pinned (OpenSpec.upto fnExactWouldGetSpec)

/-- 'laws.FnExactNewBroker', WHERE WHAT IT READS IS OF BULK AT MOST 1048576: true; the input reads as it did. -/
def fnExactNewBrokerUptoRow : OpenClaim := { program := "ytcjnmdcagfgjoaagreatdoor", sum := "fe154957b8c10bcb902f8443710c4340a0a389f2fb63f5ba5bbeed2f3e41ff3f", func := "loop.example/g00333/laws.FnExactNewBroker", spec := "fnExactNewBroker", inPlace := ["internal/bytealg.CountString", "internal/bytealg.IndexByteString", "internal/bytealg.IndexString"], unfollowed := true, recurses := true, named := ["unicode/utf8.first", "unicode/utf8.acceptRanges", "internal/bytealg.MaxLen"], apart := false, laid := [("unicode/utf8.acceptRanges", laid_unicode_utf8_acceptRanges), ("unicode/utf8.first", laid_unicode_utf8_first)], narrowed := true }
def FnExactNewBrokerUptoSaid : Prop := fnExactNewBrokerUptoRow.holds Tryz.pinned (OpenSpec.upto fnExactNewBrokerSpec)

/-- 'laws.FnExactFanOf', WHERE WHAT IT READS IS OF BULK AT MOST 1048576: true; the input reads as it did. -/
def fnExactFanOfUptoRow : OpenClaim := { program := "ytcjnmdcagfgjoaagreatdoor", sum := "fe154957b8c10bcb902f8443710c4340a0a389f2fb63f5ba5bbeed2f3e41ff3f", func := "loop.example/g00333/laws.FnExactFanOf", spec := "fnExactFanOf", inPlace := ["internal/bytealg.CountString", "internal/bytealg.IndexByteString", "internal/bytealg.IndexString"], unfollowed := true, recurses := true, named := ["unicode/utf8.first", "unicode/utf8.acceptRanges", "internal/bytealg.MaxLen"], apart := false, laid := [("unicode/utf8.acceptRanges", laid_unicode_utf8_acceptRanges), ("unicode/utf8.first", laid_unicode_utf8_first)], narrowed := true }
def FnExactFanOfUptoSaid : Prop := fnExactFanOfUptoRow.holds Tryz.pinned (OpenSpec.upto fnExactFanOfSpec)

/-- 'laws.FnExactTakeNote', WHERE WHAT IT READS IS OF BULK AT MOST 1048576: true; the input reads as it did. -/
def fnExactTakeNoteUptoRow : OpenClaim := { program := "ytcjnmdcagfgjoaagreatdoor", sum := "fe154957b8c10bcb902f8443710c4340a0a389f2fb63f5ba5bbeed2f3e41ff3f", func := "loop.example/g00333/laws.FnExactTakeNote", spec := "fnExactTakeNote", inPlace := ["internal/bytealg.CountString", "internal/bytealg.IndexByteString", "internal/bytealg.IndexString"], unfollowed := true, recurses := true, named := ["unicode/utf8.first", "unicode/utf8.acceptRanges", "internal/bytealg.MaxLen"], apart := false, laid := [("unicode/utf8.acceptRanges", laid_unicode_utf8_acceptRanges), ("unicode/utf8.first", laid_unicode_utf8_first)], narrowed := true }
def FnExactTakeNoteUptoSaid : Prop := fnExactTakeNoteUptoRow.holds Tryz.pinned (OpenSpec.upto fnExactTakeNoteSpec)

/-- 'laws.FnExactPublish', WHERE WHAT IT READS IS OF BULK AT MOST 1048576: true; the input reads as it did. -/
def fnExactPublishUptoRow : OpenClaim := { program := "ytcjnmdcagfgjoaagreatdoor", sum := "fe154957b8c10bcb902f8443710c4340a0a389f2fb63f5ba5bbeed2f3e41ff3f", func := "loop.example/g00333/laws.FnExactPublish", spec := "fnExactPublish", inPlace := ["internal/bytealg.CountString", "internal/bytealg.IndexByteString", "internal/bytealg.IndexString"], unfollowed := true, recurses := true, named := ["unicode/utf8.first", "unicode/utf8.acceptRanges", "internal/bytealg.MaxLen"], apart := false, laid := [("unicode/utf8.acceptRanges", laid_unicode_utf8_acceptRanges), ("unicode/utf8.first", laid_unicode_utf8_first)], narrowed := true }
def FnExactPublishUptoSaid : Prop := fnExactPublishUptoRow.holds Tryz.pinned (OpenSpec.upto fnExactPublishSpec)

end Rows
end Go.Proofs.YtcjnmdcagfgjoaaGreatDoor
