/-
  DERIVED. GIVEN WITH THE SEED: THE CARDS: each row of YtdocpdfkeohkiaaGreatDoorRows.lean that lists a variable, with what it lists TIED to the program's text (the seventh form; the later family's looks); each row that meets fmt, with fmt's text TOLD by the authors' own Lean function (tested against real Go, not proved from fmt's source: count such statements apart). THE CARD IS WHAT COUNTS. Prove the row's statement (the work); the ties are given (YtdocpdfkeohkiaaGreatDoorTie.lean); close each card by the builder's one call (the guide's Derived/Test/ToyasCard.lean, 'card_holds'). Laid BY PROGRAM, IN A SANDBOX (cutbox-door.mjs). By AI agents, Wed Nov 11 2026. No macro, syntax, notation, axiom, sorry.
-/
import Derived.Test.YtdocpdfkeohkiaaGreatDoorRows
import GoSem.ClaimSeven
namespace Go.Proofs.YtdocpdfkeohkiaaGreatDoor
namespace Rows

/-- THE TIED CARD OF 'laws.FnExactAddFan'. -/
def fnExactAddFanCard : Claim7 := { stood := { row := fnExactAddFanRow, standIns := [], harness := (true, "88ef496858a742be68325f33d5146bb6e7568057a9ee97c63069f98fb52faa32"), looks := false }, kinds := [], alts := [], laidByText := true, laidKinds := [.data, .pinned], laidTests := true, laidLooks := .later }
def FnExactAddFanCardSaid : Prop := Claim7.holds Tryz.pinned (.plain (OpenSpec.ofChange fnExactAddFanSpec)) fnExactAddFanCard

/-- THE TIED CARD OF 'laws.FnExactWouldGet'. -/
def fnExactWouldGetCard : Claim7 := { stood := { row := fnExactWouldGetRow, standIns := [], harness := (true, "88ef496858a742be68325f33d5146bb6e7568057a9ee97c63069f98fb52faa32"), looks := false }, kinds := [], alts := [], laidByText := true, laidKinds := [.data, .pinned], laidTests := true, laidLooks := .later }
def FnExactWouldGetCardSaid : Prop := Claim7.holds Tryz.pinned (.plain (OpenSpec.ofChange fnExactWouldGetSpec)) fnExactWouldGetCard

/-- THE TIED CARD OF 'laws.FnExactPublish'. -/
def fnExactPublishCard : Claim7 := { stood := { row := fnExactPublishRow, standIns := [], harness := (true, "88ef496858a742be68325f33d5146bb6e7568057a9ee97c63069f98fb52faa32"), looks := false }, kinds := [], alts := [], laidByText := true, laidKinds := [.data, .pinned], laidTests := true, laidLooks := .later }
def FnExactPublishCardSaid : Prop := Claim7.holds Tryz.pinned (.plain (OpenSpec.ofChange fnExactPublishSpec)) fnExactPublishCard

/-- THE TIED CARD OF 'laws.FnExactPlayPosts'. -/
def fnExactPlayPostsCard : Claim7 := { stood := { row := fnExactPlayPostsRow, standIns := [], harness := (true, "88ef496858a742be68325f33d5146bb6e7568057a9ee97c63069f98fb52faa32"), looks := false }, kinds := [], alts := [], laidByText := true, laidKinds := [.data, .pinned], laidTests := true, laidLooks := .later }
def FnExactPlayPostsCardSaid : Prop := Claim7.holds Tryz.pinned (.plain (OpenSpec.ofChange fnExactPlayPostsSpec)) fnExactPlayPostsCard

/-- THE SECOND FORM's CARD OF 'laws.FnExactAddFan'. -/
def fnExactAddFanUptoCard : Claim7 := { stood := { row := fnExactAddFanUptoRow, standIns := [], harness := (true, "88ef496858a742be68325f33d5146bb6e7568057a9ee97c63069f98fb52faa32"), looks := false }, kinds := [], alts := [], laidByText := true, laidKinds := [.data, .pinned], laidTests := true, laidLooks := .later }
def FnExactAddFanUptoCardSaid : Prop := Claim7.holds Tryz.pinned (.plain (OpenSpec.upto fnExactAddFanSpec)) fnExactAddFanUptoCard

/-- THE SECOND FORM's CARD OF 'laws.FnExactWouldGet'. -/
def fnExactWouldGetUptoCard : Claim7 := { stood := { row := fnExactWouldGetUptoRow, standIns := [], harness := (true, "88ef496858a742be68325f33d5146bb6e7568057a9ee97c63069f98fb52faa32"), looks := false }, kinds := [], alts := [], laidByText := true, laidKinds := [.data, .pinned], laidTests := true, laidLooks := .later }
def FnExactWouldGetUptoCardSaid : Prop := Claim7.holds Tryz.pinned (.plain (OpenSpec.upto fnExactWouldGetSpec)) fnExactWouldGetUptoCard

/-- THE SECOND FORM's CARD OF 'laws.FnExactPublish'. -/
def fnExactPublishUptoCard : Claim7 := { stood := { row := fnExactPublishUptoRow, standIns := [], harness := (true, "88ef496858a742be68325f33d5146bb6e7568057a9ee97c63069f98fb52faa32"), looks := false }, kinds := [], alts := [], laidByText := true, laidKinds := [.data, .pinned], laidTests := true, laidLooks := .later }
def FnExactPublishUptoCardSaid : Prop := Claim7.holds Tryz.pinned (.plain (OpenSpec.upto fnExactPublishSpec)) fnExactPublishUptoCard

/-- THE SECOND FORM's CARD OF 'laws.FnExactPlayPosts'. -/
def fnExactPlayPostsUptoCard : Claim7 := { stood := { row := fnExactPlayPostsUptoRow, standIns := [], harness := (true, "88ef496858a742be68325f33d5146bb6e7568057a9ee97c63069f98fb52faa32"), looks := false }, kinds := [], alts := [], laidByText := true, laidKinds := [.data, .pinned], laidTests := true, laidLooks := .later }
def FnExactPlayPostsUptoCardSaid : Prop := Claim7.holds Tryz.pinned (.plain (OpenSpec.upto fnExactPlayPostsSpec)) fnExactPlayPostsUptoCard
end Rows
end Go.Proofs.YtdocpdfkeohkiaaGreatDoor
