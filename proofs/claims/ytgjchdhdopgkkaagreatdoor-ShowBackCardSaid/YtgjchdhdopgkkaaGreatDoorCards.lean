/-
  DERIVED. GIVEN WITH THE SEED: THE CARDS: each row of YtgjchdhdopgkkaaGreatDoorRows.lean that lists a variable, with what it lists TIED to the program's text (the seventh form; the later family's looks); each row that meets fmt, with fmt's text TOLD by the authors' own Lean function (tested against real Go, not proved from fmt's source: count such statements apart). THE CARD IS WHAT COUNTS. Prove the row's statement (the work); the ties are given (YtgjchdhdopgkkaaGreatDoorTie.lean); close each card by the builder's one call (the guide's Derived/Test/ToyasCard.lean, 'card_holds'). Laid BY PROGRAM, IN A SANDBOX (cutbox-door.mjs). By AI agents, Wed Nov 11 2026. No macro, syntax, notation, axiom, sorry.
-/
import Derived.Test.YtgjchdhdopgkkaaGreatDoorRows
import GoSem.ClaimSeven
namespace Go.Proofs.YtgjchdhdopgkkaaGreatDoor
namespace Rows

/-- THE TIED CARD OF 'datelinelaw.ShowShows'. -/
def showShowsCard : Claim7 := { stood := { row := showShowsRow, standIns := [], harness := (true, "544bebda68a89ecd8f745fdecdf4e1c2301b074e2fc444e287b4fffd6f2a4a37"), looks := true }, kinds := [], alts := [], laidByText := true, laidKinds := [.data, .data, .data], laidTests := true, laidLooks := .later }
def ShowShowsCardSaid : Prop := Claim7.holds Tryz.pinned (.plain (OpenSpec.ofChange showShowsSpec)) showShowsCard

/-- THE TIED CARD OF 'datelinelaw.SourceParts'. -/
def sourcePartsCard : Claim7 := { stood := { row := sourcePartsRow, standIns := [], harness := (true, "544bebda68a89ecd8f745fdecdf4e1c2301b074e2fc444e287b4fffd6f2a4a37"), looks := true }, kinds := [], alts := [], laidByText := true, laidKinds := [.data, .data, .data, .data, .sentinel, .sentinel, .pinned], laidTests := true, laidLooks := .later }
def SourcePartsCardSaid : Prop := Claim7.holds Tryz.pinned (.plain (OpenSpec.ofChange sourcePartsSpec)) sourcePartsCard

/-- THE TIED CARD OF 'datelinelaw.SourceParses'. -/
def sourceParsesCard : Claim7 := { stood := { row := sourceParsesRow, standIns := [], harness := (true, "544bebda68a89ecd8f745fdecdf4e1c2301b074e2fc444e287b4fffd6f2a4a37"), looks := true }, kinds := [], alts := [], laidByText := true, laidKinds := [.data, .data, .data, .data, .sentinel, .sentinel, .pinned], laidTests := true, laidLooks := .later }
def SourceParsesCardSaid : Prop := Claim7.holds Tryz.pinned (.plain (OpenSpec.ofChange sourceParsesSpec)) sourceParsesCard

/-- THE TIED CARD OF 'datelinelaw.SourceChecks'. -/
def sourceChecksCard : Claim7 := { stood := { row := sourceChecksRow, standIns := [], harness := (true, "544bebda68a89ecd8f745fdecdf4e1c2301b074e2fc444e287b4fffd6f2a4a37"), looks := true }, kinds := [], alts := [], laidByText := true, laidKinds := [.data, .data, .data, .data, .sentinel, .sentinel, .pinned], laidTests := true, laidLooks := .later }
def SourceChecksCardSaid : Prop := Claim7.holds Tryz.pinned (.plain (OpenSpec.ofChange sourceChecksSpec)) sourceChecksCard

/-- THE TIED CARD OF 'datelinelaw.ShowBack'. -/
def showBackCard : Claim7 := { stood := { row := showBackRow, standIns := [], harness := (true, "544bebda68a89ecd8f745fdecdf4e1c2301b074e2fc444e287b4fffd6f2a4a37"), looks := true }, kinds := [], alts := [], laidByText := true, laidKinds := [.data, .data, .data, .data, .sentinel, .sentinel, .pinned], laidTests := true, laidLooks := .later }
def ShowBackCardSaid : Prop := Claim7.holds Tryz.pinned (.plain (OpenSpec.ofChange showBackSpec)) showBackCard

/-- THE SECOND FORM's CARD OF 'datelinelaw.ShowShows'. -/
def showShowsUptoCard : Claim7 := { stood := { row := showShowsUptoRow, standIns := [], harness := (true, "544bebda68a89ecd8f745fdecdf4e1c2301b074e2fc444e287b4fffd6f2a4a37"), looks := true }, kinds := [], alts := [], laidByText := true, laidKinds := [.data, .data, .data], laidTests := true, laidLooks := .later }
def ShowShowsUptoCardSaid : Prop := Claim7.holds Tryz.pinned (.plain (OpenSpec.upto showShowsSpec)) showShowsUptoCard

/-- THE SECOND FORM's CARD OF 'datelinelaw.SourceParts'. -/
def sourcePartsUptoCard : Claim7 := { stood := { row := sourcePartsUptoRow, standIns := [], harness := (true, "544bebda68a89ecd8f745fdecdf4e1c2301b074e2fc444e287b4fffd6f2a4a37"), looks := true }, kinds := [], alts := [], laidByText := true, laidKinds := [.data, .data, .data, .data, .sentinel, .sentinel, .pinned], laidTests := true, laidLooks := .later }
def SourcePartsUptoCardSaid : Prop := Claim7.holds Tryz.pinned (.plain (OpenSpec.upto sourcePartsSpec)) sourcePartsUptoCard

/-- THE SECOND FORM's CARD OF 'datelinelaw.SourceParses'. -/
def sourceParsesUptoCard : Claim7 := { stood := { row := sourceParsesUptoRow, standIns := [], harness := (true, "544bebda68a89ecd8f745fdecdf4e1c2301b074e2fc444e287b4fffd6f2a4a37"), looks := true }, kinds := [], alts := [], laidByText := true, laidKinds := [.data, .data, .data, .data, .sentinel, .sentinel, .pinned], laidTests := true, laidLooks := .later }
def SourceParsesUptoCardSaid : Prop := Claim7.holds Tryz.pinned (.plain (OpenSpec.upto sourceParsesSpec)) sourceParsesUptoCard

/-- THE SECOND FORM's CARD OF 'datelinelaw.SourceChecks'. -/
def sourceChecksUptoCard : Claim7 := { stood := { row := sourceChecksUptoRow, standIns := [], harness := (true, "544bebda68a89ecd8f745fdecdf4e1c2301b074e2fc444e287b4fffd6f2a4a37"), looks := true }, kinds := [], alts := [], laidByText := true, laidKinds := [.data, .data, .data, .data, .sentinel, .sentinel, .pinned], laidTests := true, laidLooks := .later }
def SourceChecksUptoCardSaid : Prop := Claim7.holds Tryz.pinned (.plain (OpenSpec.upto sourceChecksSpec)) sourceChecksUptoCard

/-- THE SECOND FORM's CARD OF 'datelinelaw.ShowBack'. -/
def showBackUptoCard : Claim7 := { stood := { row := showBackUptoRow, standIns := [], harness := (true, "544bebda68a89ecd8f745fdecdf4e1c2301b074e2fc444e287b4fffd6f2a4a37"), looks := true }, kinds := [], alts := [], laidByText := true, laidKinds := [.data, .data, .data, .data, .sentinel, .sentinel, .pinned], laidTests := true, laidLooks := .later }
def ShowBackUptoCardSaid : Prop := Claim7.holds Tryz.pinned (.plain (OpenSpec.upto showBackSpec)) showBackUptoCard
end Rows
end Go.Proofs.YtgjchdhdopgkkaaGreatDoor
