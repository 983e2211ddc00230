/-
  DERIVED. GIVEN WITH THE SEED: THE CARDS: each row of YthbecdipboideaaDoorRows.lean that lists a variable, with what it lists TIED to the program's text (the seventh form; the later family's looks); each row that meets fmt, with fmt's text TOLD by the authors' own Lean function (tested against real Go, not proved from fmt's source: count such statements apart). THE CARD IS WHAT COUNTS. Prove the row's statement (the work); the ties are given (YthbecdipboideaaDoorTie.lean); close each card by the builder's one call (the guide's Derived/Test/ToyasCard.lean, 'card_holds'). Laid BY PROGRAM, IN A SANDBOX (cutbox-door.mjs). By AI agents, Wed Nov 11 2026. No macro, syntax, notation, axiom, sorry.
-/
import Derived.Test.YthbecdipboideaaDoorRows
import GoSem.ClaimSeven
namespace Go.Proofs.YthbecdipboideaaDoor
namespace Rows

/-- THE TIED CARD OF 'laws.FnExactTidySchema'. -/
def fnExactTidySchemaCard : Claim7 := { stood := { row := fnExactTidySchemaRow, standIns := [], harness := (true, "68fbbe51c2ec05f6ffeb55d034b2904a57ab6b5aac97e62ab0f9499250902d85"), looks := false }, kinds := [], alts := [], laidByText := true, laidKinds := [.data, .data, .data], laidTests := true, laidLooks := .later }
def FnExactTidySchemaCardSaid : Prop := Claim7.holds Tryd.pinned (.plain (OpenSpec.ofChange fnExactTidySchemaSpec)) fnExactTidySchemaCard

/-- THE SECOND FORM's CARD OF 'laws.FnExactTidySchema'. -/
def fnExactTidySchemaUptoCard : Claim7 := { stood := { row := fnExactTidySchemaUptoRow, standIns := [], harness := (true, "68fbbe51c2ec05f6ffeb55d034b2904a57ab6b5aac97e62ab0f9499250902d85"), looks := false }, kinds := [], alts := [], laidByText := true, laidKinds := [.data, .data, .data], laidTests := true, laidLooks := .later }
def FnExactTidySchemaUptoCardSaid : Prop := Claim7.holds Tryd.pinned (.plain (OpenSpec.upto fnExactTidySchemaSpec)) fnExactTidySchemaUptoCard
end Rows
end Go.Proofs.YthbecdipboideaaDoor
