/-
  DERIVED. GIVEN WITH THE SEED: THE CARDS: each row of YtfkoljiioikdfaaDoorRows.lean that lists a variable, with what it lists TIED to the program's text (the seventh form; the later family's looks); each row that meets fmt, with fmt's text TOLD by the authors' own Lean function (tested against real Go, not proved from fmt's source: count such statements apart). THE CARD IS WHAT COUNTS. Prove the row's statement (the work); the ties are given (YtfkoljiioikdfaaDoorTie.lean); close each card by the builder's one call (the guide's Derived/Test/ToyasCard.lean, 'card_holds'). Laid BY PROGRAM, IN A SANDBOX (cutbox-door.mjs). By AI agents, Wed Nov 11 2026. No macro, syntax, notation, axiom, sorry.
-/
import Derived.Test.YtfkoljiioikdfaaDoorRows
import GoSem.ClaimSeven
namespace Go.Proofs.YtfkoljiioikdfaaDoor
namespace Rows

/-- THE TIED CARD OF 'laws.FnTopics'. -/
def fnTopicsCard : Claim7 := { stood := { row := fnTopicsRow, standIns := [], harness := (true, "ed34daa91bd5639ffb1a96e3d720b370bf5bd25b90087051b7ed6bc763ecc677"), looks := false }, kinds := [], alts := [], laidByText := true, laidKinds := [.data, .pinned], laidTests := true, laidLooks := .later }
def FnTopicsCardSaid : Prop := Claim7.holds Tryd.pinned (.plain (OpenSpec.ofChange fnTopicsSpec)) fnTopicsCard

/-- THE TIED CARD OF 'laws.FnTrie'. -/
def fnTrieCard : Claim7 := { stood := { row := fnTrieRow, standIns := [], harness := (true, "ed34daa91bd5639ffb1a96e3d720b370bf5bd25b90087051b7ed6bc763ecc677"), looks := false }, kinds := [], alts := [], laidByText := true, laidKinds := [.data, .pinned], laidTests := true, laidLooks := .later }
def FnTrieCardSaid : Prop := Claim7.holds Tryd.pinned (.plain (OpenSpec.ofChange fnTrieSpec)) fnTrieCard

/-- THE SECOND FORM's CARD OF 'laws.FnTopics'. -/
def fnTopicsUptoCard : Claim7 := { stood := { row := fnTopicsUptoRow, standIns := [], harness := (true, "ed34daa91bd5639ffb1a96e3d720b370bf5bd25b90087051b7ed6bc763ecc677"), looks := false }, kinds := [], alts := [], laidByText := true, laidKinds := [.data, .pinned], laidTests := true, laidLooks := .later }
def FnTopicsUptoCardSaid : Prop := Claim7.holds Tryd.pinned (.plain (OpenSpec.upto fnTopicsSpec)) fnTopicsUptoCard

/-- THE SECOND FORM's CARD OF 'laws.FnTrie'. -/
def fnTrieUptoCard : Claim7 := { stood := { row := fnTrieUptoRow, standIns := [], harness := (true, "ed34daa91bd5639ffb1a96e3d720b370bf5bd25b90087051b7ed6bc763ecc677"), looks := false }, kinds := [], alts := [], laidByText := true, laidKinds := [.data, .pinned], laidTests := true, laidLooks := .later }
def FnTrieUptoCardSaid : Prop := Claim7.holds Tryd.pinned (.plain (OpenSpec.upto fnTrieSpec)) fnTrieUptoCard
end Rows
end Go.Proofs.YtfkoljiioikdfaaDoor
