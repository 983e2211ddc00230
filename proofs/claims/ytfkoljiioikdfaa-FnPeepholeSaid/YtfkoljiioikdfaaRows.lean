/-
  No cell of these rows narrows 'for every input' (looked for: loops, veiled, ifaces, maps, wideKeys, modest, calm, conditions, laid).
  DERIVED. THE GIVEN ROWS OF THIS SEAT. 4 by the template 'for every input the law returns true; each argument reads behind the call as it read before'; 0 by the template 'total and deterministic' (their statements: YtfkoljiioikdfaaTotals.lean).
  GIVEN WITH THE SEED: the statements are not yours to turn. If you find one false, say at which input.
  Laid BY PROGRAM, IN A SANDBOX (cutbox-rows.mjs): the forced cells as the released guide's own fill.sh prints them over the translation 4cdc452e8eb393b9… (all of the seat's roots in one cut). By AI agents, Wed Nov 11 2026. No macro, syntax, notation, axiom, sorry.
-/
import Derived.Test.YtfkoljiioikdfaaChecked
import GoSem.Claim
import GoSem.ClaimJoined
import GoSem.ClaimMapViews
import Derived.JoinedTies
import Derived.KernelRfl
namespace Go.Proofs.Ytfkoljiioikdfaa
/- THE CELL 'sum', in the pinned program and in every row, IS THE sha256 OF THE DUMP (.gsa) THAT YtfkoljiioikdfaaProg.lean LOADS. Nothing in Lean hashes anything: it is a label: what it is worth is what the hold of that sum in a sandbox is worth. -/
noncomputable def Try.pinned : Pinned := { name := "ytfkoljiioikdfaa", sum := "4cdc452e8eb393b9e9b4b0e89e886e7dd15edab6165ea6e743b816cfad5e1fda", checked := Try.checked }
namespace Rows
def none {H : Type} : Left H := { results := [], args := [] }

/-- 'laws.FnDefaults': WHATEVER THE INPUT: true; the input reads as it did. -/
def fnDefaultsSpec : ChangeSpec := { name := "fnDefaults", fn := fun _ => fun
  | [d1, d2] => { results := [.lit (.bool true)], args := [d1, d2] }
  | _ => none }
def fnDefaultsRow : OpenClaim := { program := "ytfkoljiioikdfaa", sum := "4cdc452e8eb393b9e9b4b0e89e886e7dd15edab6165ea6e743b816cfad5e1fda", func := "loop.example/g00333/laws.FnDefaults", spec := "fnDefaults", unfollowed := true, recurses := true, plainKeys := false, apart := false }
def FnDefaultsSaid : Prop := fnDefaultsRow.holds Try.pinned (OpenSpec.ofChange fnDefaultsSpec)

/-- ITS FALSE NEIGHBOUR: 'it returns false'. Refute it at one input. -/
def fnDefaultsWrong : ChangeSpec := { name := "fnDefaults", fn := fun _ => fun
  | [d1, d2] => { results := [.lit (.bool false)], args := [d1, d2] }
  | _ => none }
def FnDefaultsWrongFalsely : Prop := fnDefaultsRow.holds Try.pinned (OpenSpec.ofChange fnDefaultsWrong)

/-- 'laws.FnLeast': WHATEVER THE INPUT: true; the input reads as it did. -/
def fnLeastSpec : ChangeSpec := { name := "fnLeast", fn := fun _ => fun
  | [d1, d2] => { results := [.lit (.bool true)], args := [d1, d2] }
  | _ => none }
def fnLeastRow : OpenClaim := { program := "ytfkoljiioikdfaa", sum := "4cdc452e8eb393b9e9b4b0e89e886e7dd15edab6165ea6e743b816cfad5e1fda", func := "loop.example/g00333/laws.FnLeast", spec := "fnLeast", unfollowed := true, recurses := true, plainKeys := false, apart := false }
def FnLeastSaid : Prop := fnLeastRow.holds Try.pinned (OpenSpec.ofChange fnLeastSpec)

/-- ITS FALSE NEIGHBOUR: 'it returns false'. Refute it at one input. -/
def fnLeastWrong : ChangeSpec := { name := "fnLeast", fn := fun _ => fun
  | [d1, d2] => { results := [.lit (.bool false)], args := [d1, d2] }
  | _ => none }
def FnLeastWrongFalsely : Prop := fnLeastRow.holds Try.pinned (OpenSpec.ofChange fnLeastWrong)

/-- 'laws.FnPeephole': WHATEVER THE INPUT: true; the input reads as it did. -/
def fnPeepholeSpec : ChangeSpec := { name := "fnPeephole", fn := fun _ => fun
  | [d] => { results := [.lit (.bool true)], args := [d] }
  | _ => none }
def fnPeepholeRow : OpenClaim := { program := "ytfkoljiioikdfaa", sum := "4cdc452e8eb393b9e9b4b0e89e886e7dd15edab6165ea6e743b816cfad5e1fda", func := "loop.example/g00333/laws.FnPeephole", spec := "fnPeephole", unfollowed := true, recurses := true, plainKeys := false, apart := false }
def FnPeepholeSaid : Prop := fnPeepholeRow.holds Try.pinned (OpenSpec.ofChange fnPeepholeSpec)

/-- ITS FALSE NEIGHBOUR: 'it returns false'. Refute it at one input. -/
def fnPeepholeWrong : ChangeSpec := { name := "fnPeephole", fn := fun _ => fun
  | [d] => { results := [.lit (.bool false)], args := [d] }
  | _ => none }
def FnPeepholeWrongFalsely : Prop := fnPeepholeRow.holds Try.pinned (OpenSpec.ofChange fnPeepholeWrong)

/-- 'laws.FnLanguages': WHATEVER THE INPUT: true; the input reads as it did. -/
def fnLanguagesSpec : ChangeSpec := { name := "fnLanguages", fn := fun _ => fun
  | [d1, d2] => { results := [.lit (.bool true)], args := [d1, d2] }
  | _ => none }
def fnLanguagesRow : OpenClaim := { program := "ytfkoljiioikdfaa", sum := "4cdc452e8eb393b9e9b4b0e89e886e7dd15edab6165ea6e743b816cfad5e1fda", func := "loop.example/g00333/laws.FnLanguages", spec := "fnLanguages", unfollowed := true, recurses := true, plainKeys := false, apart := false }
def FnLanguagesSaid : Prop := fnLanguagesRow.holds Try.pinned (OpenSpec.ofChange fnLanguagesSpec)

/-- ITS FALSE NEIGHBOUR: 'it returns false'. Refute it at one input. -/
def fnLanguagesWrong : ChangeSpec := { name := "fnLanguages", fn := fun _ => fun
  | [d1, d2] => { results := [.lit (.bool false)], args := [d1, d2] }
  | _ => none }
def FnLanguagesWrongFalsely : Prop := fnLanguagesRow.holds Try.pinned (OpenSpec.ofChange fnLanguagesWrong)

/- THE SECOND FORM. 'bulk': how many values and letters a reading holds, each counted each time it is reached (what is shared counts as often as it is met; a slice's spare places count too). A statement '..UptoSaid' is the law's where the arguments, and the package variables that the reading takes, are together of bulk at most 1048576: NARROWER than '..Said'. Prove '..Said' where nothing that the law and all that it calls make is longer than what came in: it says more and counts as full. Else prove '..UptoSaid'. A law counts once. -/
mutual
def uptoBulk {H : Type} : DataW H → Nat
  | .lit (.string bytes) => bytes.length + 1
  | .lit _ => 1
  | .nil => 1
  | .ptr d => uptoBulk d + 1
  | .slice elems spare => uptoBulkAll elems + uptoBulkAll spare + 1
  | .agg parts => uptoBulkAll parts + 1
  | .iface _ d => uptoBulk d + 1
  | .map entries => uptoBulkEntries entries + 1
  | .held _ => 1
def uptoBulkAll {H : Type} : List (DataW H) → Nat
  | [] => 0
  | d :: r => uptoBulk d + uptoBulkAll r
def uptoBulkEntries {H : Type} : List (Lit × DataW H) → Nat
  | [] => 0
  | x :: r => uptoBulkEntry x + uptoBulkEntries r
def uptoBulkEntry {H : Type} : Lit × DataW H → Nat
  | (.string bytes, d) => bytes.length + uptoBulk d + 1
  | (_, d) => uptoBulk d + 1
 end
def uptoSmall : (H : Type) → List (DataW H) → Bool := fun _ ds => decide (uptoBulkAll ds ≤ 1048576)
def OpenSpec.upto (s : _root_.Go.ChangeSpec) : _root_.Go.OpenSpec := { _root_.Go.OpenSpec.ofChange s with cond := some uptoSmall }

/-- 'laws.FnDefaults', WHERE WHAT IT READS IS OF BULK AT MOST 1048576: true; the input reads as it did. -/
def fnDefaultsUptoRow : OpenClaim := { program := "ytfkoljiioikdfaa", sum := "4cdc452e8eb393b9e9b4b0e89e886e7dd15edab6165ea6e743b816cfad5e1fda", func := "loop.example/g00333/laws.FnDefaults", spec := "fnDefaults", unfollowed := true, recurses := true, plainKeys := false, apart := false, narrowed := true }
def FnDefaultsUptoSaid : Prop := fnDefaultsUptoRow.holds Try.pinned (OpenSpec.upto fnDefaultsSpec)

/-- 'laws.FnLeast', WHERE WHAT IT READS IS OF BULK AT MOST 1048576: true; the input reads as it did. -/
def fnLeastUptoRow : OpenClaim := { program := "ytfkoljiioikdfaa", sum := "4cdc452e8eb393b9e9b4b0e89e886e7dd15edab6165ea6e743b816cfad5e1fda", func := "loop.example/g00333/laws.FnLeast", spec := "fnLeast", unfollowed := true, recurses := true, plainKeys := false, apart := false, narrowed := true }
def FnLeastUptoSaid : Prop := fnLeastUptoRow.holds Try.pinned (OpenSpec.upto fnLeastSpec)

/-- 'laws.FnPeephole', WHERE WHAT IT READS IS OF BULK AT MOST 1048576: true; the input reads as it did. -/
def fnPeepholeUptoRow : OpenClaim := { program := "ytfkoljiioikdfaa", sum := "4cdc452e8eb393b9e9b4b0e89e886e7dd15edab6165ea6e743b816cfad5e1fda", func := "loop.example/g00333/laws.FnPeephole", spec := "fnPeephole", unfollowed := true, recurses := true, plainKeys := false, apart := false, narrowed := true }
def FnPeepholeUptoSaid : Prop := fnPeepholeUptoRow.holds Try.pinned (OpenSpec.upto fnPeepholeSpec)

/-- 'laws.FnLanguages', WHERE WHAT IT READS IS OF BULK AT MOST 1048576: true; the input reads as it did. -/
def fnLanguagesUptoRow : OpenClaim := { program := "ytfkoljiioikdfaa", sum := "4cdc452e8eb393b9e9b4b0e89e886e7dd15edab6165ea6e743b816cfad5e1fda", func := "loop.example/g00333/laws.FnLanguages", spec := "fnLanguages", unfollowed := true, recurses := true, plainKeys := false, apart := false, narrowed := true }
def FnLanguagesUptoSaid : Prop := fnLanguagesUptoRow.holds Try.pinned (OpenSpec.upto fnLanguagesSpec)

end Rows
end Go.Proofs.Ytfkoljiioikdfaa
