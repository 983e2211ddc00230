/-
  DERIVED. GIVEN WITH THE SEED: THE CARDS: each row of YtcjnmdcagfgjoaaGreatDoorRows.lean that lists a variable, with what it lists TIED to the program's text (the seventh form; the later family's looks); each row that meets fmt, with fmt's text TOLD by the authors' own Lean function (tested against real Go, not proved from fmt's source: count such statements apart). THE CARD IS WHAT COUNTS. Prove the row's statement (the work); the ties are given (YtcjnmdcagfgjoaaGreatDoorTie.lean); close each card by the builder's one call (the guide's Derived/Test/ToyasCard.lean, 'card_holds'). Laid BY PROGRAM, IN A SANDBOX (cutbox-door.mjs). By AI agents, Wed Nov 11 2026. No macro, syntax, notation, axiom, sorry.
-/
import Derived.Test.YtcjnmdcagfgjoaaGreatDoorRows
import GoSem.ClaimSeven
namespace Go.Proofs.YtcjnmdcagfgjoaaGreatDoor
namespace Rows

/-- THE TIED CARD OF 'laws.FnExactGoodBroker'. -/
def fnExactGoodBrokerCard : Claim7 := { stood := { row := fnExactGoodBrokerRow, standIns := [], harness := (true, "13a84c69b4bc0bdb1604aefd27e29be52393ff4baf6817ab281b561c65e0dcf4"), looks := false }, kinds := [], alts := [], laidByText := true, laidKinds := [.data, .pinned], laidTests := true, laidLooks := .later }
def FnExactGoodBrokerCardSaid : Prop := Claim7.holds Tryz.pinned (.plain (OpenSpec.ofChange fnExactGoodBrokerSpec)) fnExactGoodBrokerCard

/-- THE TIED CARD OF 'laws.FnExactWouldGet'. -/
def fnExactWouldGetCard : Claim7 := { stood := { row := fnExactWouldGetRow, standIns := [], harness := (true, "13a84c69b4bc0bdb1604aefd27e29be52393ff4baf6817ab281b561c65e0dcf4"), looks := false }, kinds := [], alts := [], laidByText := true, laidKinds := [.data, .pinned], laidTests := true, laidLooks := .later }
def FnExactWouldGetCardSaid : Prop := Claim7.holds Tryz.pinned (.plain (OpenSpec.ofChange fnExactWouldGetSpec)) fnExactWouldGetCard

/-- THE TIED CARD OF 'laws.FnExactNewBroker'. -/
def fnExactNewBrokerCard : Claim7 := { stood := { row := fnExactNewBrokerRow, standIns := [], harness := (true, "13a84c69b4bc0bdb1604aefd27e29be52393ff4baf6817ab281b561c65e0dcf4"), looks := false }, kinds := [], alts := [], laidByText := true, laidKinds := [.data, .pinned], laidTests := true, laidLooks := .later }
def FnExactNewBrokerCardSaid : Prop := Claim7.holds Tryz.pinned (.plain (OpenSpec.ofChange fnExactNewBrokerSpec)) fnExactNewBrokerCard

/-- THE TIED CARD OF 'laws.FnExactFanOf'. -/
def fnExactFanOfCard : Claim7 := { stood := { row := fnExactFanOfRow, standIns := [], harness := (true, "13a84c69b4bc0bdb1604aefd27e29be52393ff4baf6817ab281b561c65e0dcf4"), looks := false }, kinds := [], alts := [], laidByText := true, laidKinds := [.data, .pinned], laidTests := true, laidLooks := .later }
def FnExactFanOfCardSaid : Prop := Claim7.holds Tryz.pinned (.plain (OpenSpec.ofChange fnExactFanOfSpec)) fnExactFanOfCard

/-- THE TIED CARD OF 'laws.FnExactTakeNote'. -/
def fnExactTakeNoteCard : Claim7 := { stood := { row := fnExactTakeNoteRow, standIns := [], harness := (true, "13a84c69b4bc0bdb1604aefd27e29be52393ff4baf6817ab281b561c65e0dcf4"), looks := false }, kinds := [], alts := [], laidByText := true, laidKinds := [.data, .pinned], laidTests := true, laidLooks := .later }
def FnExactTakeNoteCardSaid : Prop := Claim7.holds Tryz.pinned (.plain (OpenSpec.ofChange fnExactTakeNoteSpec)) fnExactTakeNoteCard

/-- THE TIED CARD OF 'laws.FnExactPublish'. -/
def fnExactPublishCard : Claim7 := { stood := { row := fnExactPublishRow, standIns := [], harness := (true, "13a84c69b4bc0bdb1604aefd27e29be52393ff4baf6817ab281b561c65e0dcf4"), looks := false }, kinds := [], alts := [], laidByText := true, laidKinds := [.data, .pinned], laidTests := true, laidLooks := .later }
def FnExactPublishCardSaid : Prop := Claim7.holds Tryz.pinned (.plain (OpenSpec.ofChange fnExactPublishSpec)) fnExactPublishCard

/-- THE SECOND FORM's CARD OF 'laws.FnExactGoodBroker'. -/
def fnExactGoodBrokerUptoCard : Claim7 := { stood := { row := fnExactGoodBrokerUptoRow, standIns := [], harness := (true, "13a84c69b4bc0bdb1604aefd27e29be52393ff4baf6817ab281b561c65e0dcf4"), looks := false }, kinds := [], alts := [], laidByText := true, laidKinds := [.data, .pinned], laidTests := true, laidLooks := .later }
def FnExactGoodBrokerUptoCardSaid : Prop := Claim7.holds Tryz.pinned (.plain (OpenSpec.upto fnExactGoodBrokerSpec)) fnExactGoodBrokerUptoCard

/-- THE SECOND FORM's CARD OF 'laws.FnExactWouldGet'. -/
def fnExactWouldGetUptoCard : Claim7 := { stood := { row := fnExactWouldGetUptoRow, standIns := [], harness := (true, "13a84c69b4bc0bdb1604aefd27e29be52393ff4baf6817ab281b561c65e0dcf4"), looks := false }, kinds := [], alts := [], laidByText := true, laidKinds := [.data, .pinned], laidTests := true, laidLooks := .later }
def FnExactWouldGetUptoCardSaid : Prop := Claim7.holds Tryz.pinned (.plain (OpenSpec.upto fnExactWouldGetSpec)) fnExactWouldGetUptoCard

/-- THE SECOND FORM's CARD OF 'laws.FnExactNewBroker'. -/
def fnExactNewBrokerUptoCard : Claim7 := { stood := { row := fnExactNewBrokerUptoRow, standIns := [], harness := (true, "13a84c69b4bc0bdb1604aefd27e29be52393ff4baf6817ab281b561c65e0dcf4"), looks := false }, kinds := [], alts := [], laidByText := true, laidKinds := [.data, .pinned], laidTests := true, laidLooks := .later }
def FnExactNewBrokerUptoCardSaid : Prop := Claim7.holds Tryz.pinned (.plain (OpenSpec.upto fnExactNewBrokerSpec)) fnExactNewBrokerUptoCard

/-- THE SECOND FORM's CARD OF 'laws.FnExactFanOf'. -/
def fnExactFanOfUptoCard : Claim7 := { stood := { row := fnExactFanOfUptoRow, standIns := [], harness := (true, "13a84c69b4bc0bdb1604aefd27e29be52393ff4baf6817ab281b561c65e0dcf4"), looks := false }, kinds := [], alts := [], laidByText := true, laidKinds := [.data, .pinned], laidTests := true, laidLooks := .later }
def FnExactFanOfUptoCardSaid : Prop := Claim7.holds Tryz.pinned (.plain (OpenSpec.upto fnExactFanOfSpec)) fnExactFanOfUptoCard

/-- THE SECOND FORM's CARD OF 'laws.FnExactTakeNote'. -/
def fnExactTakeNoteUptoCard : Claim7 := { stood := { row := fnExactTakeNoteUptoRow, standIns := [], harness := (true, "13a84c69b4bc0bdb1604aefd27e29be52393ff4baf6817ab281b561c65e0dcf4"), looks := false }, kinds := [], alts := [], laidByText := true, laidKinds := [.data, .pinned], laidTests := true, laidLooks := .later }
def FnExactTakeNoteUptoCardSaid : Prop := Claim7.holds Tryz.pinned (.plain (OpenSpec.upto fnExactTakeNoteSpec)) fnExactTakeNoteUptoCard

/-- THE SECOND FORM's CARD OF 'laws.FnExactPublish'. -/
def fnExactPublishUptoCard : Claim7 := { stood := { row := fnExactPublishUptoRow, standIns := [], harness := (true, "13a84c69b4bc0bdb1604aefd27e29be52393ff4baf6817ab281b561c65e0dcf4"), looks := false }, kinds := [], alts := [], laidByText := true, laidKinds := [.data, .pinned], laidTests := true, laidLooks := .later }
def FnExactPublishUptoCardSaid : Prop := Claim7.holds Tryz.pinned (.plain (OpenSpec.upto fnExactPublishSpec)) fnExactPublishUptoCard
end Rows
end Go.Proofs.YtcjnmdcagfgjoaaGreatDoor
