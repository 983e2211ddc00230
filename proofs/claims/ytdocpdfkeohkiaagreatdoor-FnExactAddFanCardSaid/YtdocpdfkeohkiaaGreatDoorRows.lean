/-
  NARROWER THAN 'FOR EVERY INPUT', by the rows' own cells (each row's printed sentence says how): FnExactAddFan: laid · FnExactWouldGet: laid · FnExactPublish: laid · FnExactPlayPosts: laid.
  DERIVED. THE GIVEN ROWS OF THIS SEAT. 4 by the template 'for every input the law returns true; each argument reads behind the call as it read before'; 0 by the template 'total and deterministic' (their statements: YtdocpdfkeohkiaaGreatDoorTotals.lean).
  GIVEN WITH THE SEED: the statements are not yours to turn. If you find one false, say at which input.
  Laid BY PROGRAM, IN A SANDBOX (cutbox-rows.mjs): the forced cells as the released guide's own fill.sh prints them over the translation 0e617f6e5ae8658e… (all of the seat's roots in one cut). By AI agents, Wed Nov 11 2026. No macro, syntax, notation, axiom, sorry.
-/
import Derived.Test.YtdocpdfkeohkiaaGreatDoorChecked
import GoSem.PinnedTables
import GoSem.Claim
import GoSem.ClaimJoined
import GoSem.ClaimMapViews
import Derived.JoinedTies
import Derived.KernelRfl
namespace Go.Proofs.YtdocpdfkeohkiaaGreatDoor
/- THE CELL 'sum', in the pinned program and in every row, IS THE sha256 OF THE DUMP (.gsa) THAT YtdocpdfkeohkiaaGreatDoorProg.lean LOADS. Nothing in Lean hashes anything: it is a label: what it is worth is what the hold of that sum in a sandbox is worth. -/
noncomputable def Tryz.pinned : Pinned := { name := "ytdocpdfkeohkiaagreatdoor", sum := "0e617f6e5ae8658eb1026bc2939b2a6cc8df552508a5fb3a3aea6613f2060f17", checked := Tryz.checked }
namespace Rows
def none {H : Type} : Left H := { results := [], args := [] }

/- WHAT THE LISTED PACKAGE-LEVEL VARIABLES READ AS WHEN THE CALL BEGINS. Each datum BY PROGRAM (the guide's laid-datum.mjs) off the statement by which the dump's own 'gosem.cut.vars' lays the variable. In a bare row this is a premise. The card (YtdocpdfkeohkiaaGreatDoorCards.lean) ties it to the program's text. -/
def laid_unicode_utf8_acceptRanges {H : Type} : DataW H := .agg [.agg [.lit (.int .u8 128), .lit (.int .u8 191)], .agg [.lit (.int .u8 160), .lit (.int .u8 191)], .agg [.lit (.int .u8 128), .lit (.int .u8 159)], .agg [.lit (.int .u8 144), .lit (.int .u8 191)], .agg [.lit (.int .u8 128), .lit (.int .u8 143)], .agg [.lit (.int .u8 0), .lit (.int .u8 0)], .agg [.lit (.int .u8 0), .lit (.int .u8 0)], .agg [.lit (.int .u8 0), .lit (.int .u8 0)], .agg [.lit (.int .u8 0), .lit (.int .u8 0)], .agg [.lit (.int .u8 0), .lit (.int .u8 0)], .agg [.lit (.int .u8 0), .lit (.int .u8 0)], .agg [.lit (.int .u8 0), .lit (.int .u8 0)], .agg [.lit (.int .u8 0), .lit (.int .u8 0)], .agg [.lit (.int .u8 0), .lit (.int .u8 0)], .agg [.lit (.int .u8 0), .lit (.int .u8 0)], .agg [.lit (.int .u8 0), .lit (.int .u8 0)]]
/-- One of Go's own tables, pinned by name: the form's constant. -/
def laid_unicode_utf8_first : DataW Unit := Go.Pinned.utf8First

/-- 'laws.FnExactAddFan': WHATEVER THE INPUT: true; the input reads as it did. -/
def fnExactAddFanSpec : ChangeSpec := { name := "fnExactAddFan", fn := fun _ => fun
  | [d1, d2] => { results := [.lit (.bool true)], args := [d1, d2] }
  | _ => none }
def fnExactAddFanRow : OpenClaim := { program := "ytdocpdfkeohkiaagreatdoor", sum := "0e617f6e5ae8658eb1026bc2939b2a6cc8df552508a5fb3a3aea6613f2060f17", func := "loop.example/g00333/laws.FnExactAddFan", spec := "fnExactAddFan", inPlace := ["internal/bytealg.CountString", "internal/bytealg.IndexByteString", "internal/bytealg.IndexString"], unfollowed := true, recurses := true, named := ["unicode/utf8.first", "unicode/utf8.acceptRanges", "internal/bytealg.MaxLen"], apart := false, laid := [("unicode/utf8.acceptRanges", laid_unicode_utf8_acceptRanges), ("unicode/utf8.first", laid_unicode_utf8_first)] }
def FnExactAddFanSaid : Prop := fnExactAddFanRow.holds Tryz.pinned (OpenSpec.ofChange fnExactAddFanSpec)

/-- ITS FALSE NEIGHBOUR: 'it returns false'. Refute it at one input. -/
def fnExactAddFanWrong : ChangeSpec := { name := "fnExactAddFan", fn := fun _ => fun
  | [d1, d2] => { results := [.lit (.bool false)], args := [d1, d2] }
  | _ => none }
def FnExactAddFanWrongFalsely : Prop := fnExactAddFanRow.holds Tryz.pinned (OpenSpec.ofChange fnExactAddFanWrong)

/-- 'laws.FnExactWouldGet': WHATEVER THE INPUT: true; the input reads as it did. -/
def fnExactWouldGetSpec : ChangeSpec := { name := "fnExactWouldGet", fn := fun _ => fun
  | [d1, d2, d3] => { results := [.lit (.bool true)], args := [d1, d2, d3] }
  | _ => none }
def fnExactWouldGetRow : OpenClaim := { program := "ytdocpdfkeohkiaagreatdoor", sum := "0e617f6e5ae8658eb1026bc2939b2a6cc8df552508a5fb3a3aea6613f2060f17", func := "loop.example/g00333/laws.FnExactWouldGet", spec := "fnExactWouldGet", inPlace := ["internal/bytealg.CountString", "internal/bytealg.IndexByteString", "internal/bytealg.IndexString"], unfollowed := true, recurses := true, named := ["unicode/utf8.first", "unicode/utf8.acceptRanges", "internal/bytealg.MaxLen"], apart := false, laid := [("unicode/utf8.acceptRanges", laid_unicode_utf8_acceptRanges), ("unicode/utf8.first", laid_unicode_utf8_first)] }
def FnExactWouldGetSaid : Prop := fnExactWouldGetRow.holds Tryz.pinned (OpenSpec.ofChange fnExactWouldGetSpec)

/-- ITS FALSE NEIGHBOUR: 'it returns false'. Refute it at one input. -/
def fnExactWouldGetWrong : ChangeSpec := { name := "fnExactWouldGet", fn := fun _ => fun
  | [d1, d2, d3] => { results := [.lit (.bool false)], args := [d1, d2, d3] }
  | _ => none }
def FnExactWouldGetWrongFalsely : Prop := fnExactWouldGetRow.holds Tryz.pinned (OpenSpec.ofChange fnExactWouldGetWrong)

/-- 'laws.FnExactPublish': WHATEVER THE INPUT: true; the input reads as it did. -/
def fnExactPublishSpec : ChangeSpec := { name := "fnExactPublish", fn := fun _ => fun
  | [d1, d2] => { results := [.lit (.bool true)], args := [d1, d2] }
  | _ => none }
def fnExactPublishRow : OpenClaim := { program := "ytdocpdfkeohkiaagreatdoor", sum := "0e617f6e5ae8658eb1026bc2939b2a6cc8df552508a5fb3a3aea6613f2060f17", func := "loop.example/g00333/laws.FnExactPublish", spec := "fnExactPublish", inPlace := ["internal/bytealg.CountString", "internal/bytealg.IndexByteString", "internal/bytealg.IndexString"], unfollowed := true, recurses := true, named := ["unicode/utf8.first", "unicode/utf8.acceptRanges", "internal/bytealg.MaxLen"], apart := false, laid := [("unicode/utf8.acceptRanges", laid_unicode_utf8_acceptRanges), ("unicode/utf8.first", laid_unicode_utf8_first)] }
def FnExactPublishSaid : Prop := fnExactPublishRow.holds Tryz.pinned (OpenSpec.ofChange fnExactPublishSpec)

/-- ITS FALSE NEIGHBOUR: 'it returns false'. Refute it at one input. -/
def fnExactPublishWrong : ChangeSpec := { name := "fnExactPublish", fn := fun _ => fun
  | [d1, d2] => { results := [.lit (.bool false)], args := [d1, d2] }
  | _ => none }
def FnExactPublishWrongFalsely : Prop := fnExactPublishRow.holds Tryz.pinned (OpenSpec.ofChange fnExactPublishWrong)

/-- 'laws.FnExactPlayPosts': WHATEVER THE INPUT: true; the input reads as it did. -/
def fnExactPlayPostsSpec : ChangeSpec := { name := "fnExactPlayPosts", fn := fun _ => fun
  | [d1, d2] => { results := [.lit (.bool true)], args := [d1, d2] }
  | _ => none }
def fnExactPlayPostsRow : OpenClaim := { program := "ytdocpdfkeohkiaagreatdoor", sum := "0e617f6e5ae8658eb1026bc2939b2a6cc8df552508a5fb3a3aea6613f2060f17", func := "loop.example/g00333/laws.FnExactPlayPosts", spec := "fnExactPlayPosts", inPlace := ["internal/bytealg.CountString", "internal/bytealg.IndexByteString", "internal/bytealg.IndexString"], unfollowed := true, recurses := true, named := ["unicode/utf8.first", "unicode/utf8.acceptRanges", "internal/bytealg.MaxLen"], apart := false, laid := [("unicode/utf8.acceptRanges", laid_unicode_utf8_acceptRanges), ("unicode/utf8.first", laid_unicode_utf8_first)] }
def FnExactPlayPostsSaid : Prop := fnExactPlayPostsRow.holds Tryz.pinned (OpenSpec.ofChange fnExactPlayPostsSpec)

/-- ITS FALSE NEIGHBOUR: 'it returns false'. Refute it at one input. -/
def fnExactPlayPostsWrong : ChangeSpec := { name := "fnExactPlayPosts", fn := fun _ => fun
  | [d1, d2] => { results := [.lit (.bool false)], args := [d1, d2] }
  | _ => none }
def FnExactPlayPostsWrongFalsely : Prop := fnExactPlayPostsRow.holds Tryz.pinned (OpenSpec.ofChange fnExactPlayPostsWrong)

/- THE SECOND FORM. 'bulk': how many values and letters a reading holds, each counted each time it is reached (what is shared counts as often as it is met; a slice's spare places count too). A statement '..UptoSaid' is the law's where the arguments, and the package variables that the reading takes, are together of bulk at most 1048576: NARROWER than '..Said'. Prove '..Said' where nothing that the law and all that it calls make is longer than what came in: it says more and counts as full. Else prove '..UptoSaid'. A law counts once. -/
mutual
def uptoBulk {H : Type} : DataW H → Nat
  | .lit (.string bytes) => bytes.length + 1
  | .lit _ => 1
  | .nil => 1
  | .ptr d => uptoBulk d + 1
  | .slice elems spare => uptoBulkAll elems + uptoBulkAll spare + 1
  | .agg parts => uptoBulkAll parts + 1
  | .iface _ d => uptoBulk d + 1
  | .map entries => uptoBulkEntries entries + 1
  | .held _ => 1
def uptoBulkAll {H : Type} : List (DataW H) → Nat
  | [] => 0
  | d :: r => uptoBulk d + uptoBulkAll r
def uptoBulkEntries {H : Type} : List (Lit × DataW H) → Nat
  | [] => 0
  | x :: r => uptoBulkEntry x + uptoBulkEntries r
def uptoBulkEntry {H : Type} : Lit × DataW H → Nat
  | (.string bytes, d) => bytes.length + uptoBulk d + 1
  | (_, d) => uptoBulk d + 1
 end
def uptoSmall : (H : Type) → List (DataW H) → Bool := fun _ ds => decide (uptoBulkAll ds ≤ 1048576)
def OpenSpec.upto (s : _root_.Go.ChangeSpec) : _root_.Go.OpenSpec := { _root_.Go.OpenSpec.ofChange s with cond := some uptoSmall }

/-- 'laws.FnExactAddFan', WHERE WHAT IT READS IS OF BULK AT MOST 1048576: true; the input reads as it did. -/
def fnExactAddFanUptoRow : OpenClaim := { program := "ytdocpdfkeohkiaagreatdoor", sum := "0e617f6e5ae8658eb1026bc2939b2a6cc8df552508a5fb3a3aea6613f2060f17", func := "loop.example/g00333/laws.FnExactAddFan", spec := "fnExactAddFan", inPlace := ["internal/bytealg.CountString", "internal/bytealg.IndexByteString", "internal/bytealg.IndexString"], unfollowed := true, recurses := true, named := ["unicode/utf8.first", "unicode/utf8.acceptRanges", "internal/bytealg.MaxLen"], apart := false, laid := [("unicode/utf8.acceptRanges", laid_unicode_utf8_acceptRanges), ("unicode/utf8.first", laid_unicode_utf8_first)], narrowed := true }
def FnExactAddFanUptoSaid : Prop := fnExactAddFanUptoRow.holds Tryz.pinned (OpenSpec.upto fnExactAddFanSpec)

/-- 'laws.FnExactWouldGet', WHERE WHAT IT READS IS OF BULK AT MOST 1048576: true; the input reads as it did. -/
def fnExactWouldGetUptoRow : OpenClaim := { program := "ytdocpdfkeohkiaagreatdoor", sum := "0e617f6e5ae8658eb1026bc2939b2a6cc8df552508a5fb3a3aea6613f2060f17", func := "loop.example/g00333/laws.FnExactWouldGet", spec := "fnExactWouldGet", inPlace := ["internal/bytealg.CountString", "internal/bytealg.IndexByteString", "internal/bytealg.IndexString"], unfollowed := true, recurses := true, named := ["unicode/utf8.first", "unicode/utf8.acceptRanges", "internal/bytealg.MaxLen"], apart := false, laid := [("unicode/utf8.acceptRanges", laid_unicode_utf8_acceptRanges), ("unicode/utf8.first", laid_unicode_utf8_first)], narrowed := true }
def FnExactWouldGetUptoSaid : Prop := fnExactWouldGetUptoRow.holds Tryz.pinned (OpenSpec.upto fnExactWouldGetSpec)

/-- 'laws.FnExactPublish', WHERE WHAT IT READS IS OF BULK AT MOST 1048576: true; the input reads as it did. -/
def fnExactPublishUptoRow : OpenClaim := { program := "ytdocpdfkeohkiaagreatdoor", sum := "0e617f6e5ae8658eb1026bc2939b2a6cc8df552508a5fb3a3aea6613f2060f17", func := "loop.example/g00333/laws.FnExactPublish", spec := "fnExactPublish", inPlace := ["internal/bytealg.CountString", "internal/bytealg.IndexByteString", "internal/bytealg.IndexString"], unfollowed := true, recurses := true, named := ["unicode/utf8.first", "unicode/utf8.acceptRanges", "internal/bytealg.MaxLen"], apart := false, laid := [("unicode/utf8.acceptRanges", laid_unicode_utf8_acceptRanges), ("unicode/utf8.first", laid_unicode_utf8_first)], narrowed := true }
def FnExactPublishUptoSaid : Prop := fnExactPublishUptoRow.holds Tryz.pinned (OpenSpec.upto fnExactPublishSpec)

/-- 'laws.FnExactPlayPosts', WHERE WHAT IT READS IS OF BULK AT MOST 1048576: true; the input reads as it did. -/
def fnExactPlayPostsUptoRow : OpenClaim := { program := "ytdocpdfkeohkiaagreatdoor", sum := "0e617f6e5ae8658eb1026bc2939b2a6cc8df552508a5fb3a3aea6613f2060f17", func := "loop.example/g00333/laws.FnExactPlayPosts", spec := "fnExactPlayPosts", inPlace := ["internal/bytealg.CountString", "internal/bytealg.IndexByteString", "internal/bytealg.IndexString"], unfollowed := true, recurses := true, named := ["unicode/utf8.first", "unicode/utf8.acceptRanges", "internal/bytealg.MaxLen"], apart := false, laid := [("unicode/utf8.acceptRanges", laid_unicode_utf8_acceptRanges), ("unicode/utf8.first", laid_unicode_utf8_first)], narrowed := true }
def FnExactPlayPostsUptoSaid : Prop := fnExactPlayPostsUptoRow.holds Tryz.pinned (OpenSpec.upto fnExactPlayPostsSpec)

end Rows
end Go.Proofs.YtdocpdfkeohkiaaGreatDoor
