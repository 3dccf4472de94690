/-
  DERIVED. GIVEN WITH THE SEED: THE CARDS: each row of YtfoipaclphdodaaGreatDoorRows.lean that lists a variable, with what it lists TIED to the program's text (the seventh form; the later family's looks); each row that meets fmt, with fmt's text TOLD by the authors' own Lean function (tested against real Go, not proved from fmt's source: count such statements apart). THE CARD IS WHAT COUNTS. Prove the row's statement (the work); the ties are given (YtfoipaclphdodaaGreatDoorTie.lean); close each card by the builder's one call (the guide's Derived/Test/ToyasCard.lean, 'card_holds'). Laid BY PROGRAM, IN A SANDBOX (cutbox-door.mjs). By AI agents, Wed Nov 11 2026. No macro, syntax, notation, axiom, sorry.
-/
import Derived.Test.YtfoipaclphdodaaGreatDoorRows
import GoSem.ClaimSeven
namespace Go.Proofs.YtfoipaclphdodaaGreatDoor
namespace Rows

/-- THE TIED CARD OF 'datelinelaw.ReleaseTold'. -/
def releaseToldCard : Claim7 := { stood := { row := releaseToldRow, standIns := [], harness := (true, "a08f8b4cdb290eaf77ca3f5a48edffb744f4140aba834da794cddaaf4cda5fa7"), looks := false }, kinds := [], alts := [], laidByText := true, laidKinds := [.data, .pinned], laidTests := true, laidLooks := .later }
def ReleaseToldCardSaid : Prop := Claim7.holds Tryz.pinned (.plain (OpenSpec.ofChange releaseToldSpec)) releaseToldCard

/-- THE TIED CARD OF 'datelinelaw.ReleaseMakes'. -/
def releaseMakesCard : Claim7 := { stood := { row := releaseMakesRow, standIns := [], harness := (true, "a08f8b4cdb290eaf77ca3f5a48edffb744f4140aba834da794cddaaf4cda5fa7"), looks := false }, kinds := [], alts := [], laidByText := true, laidKinds := [.data, .pinned], laidTests := true, laidLooks := .later }
def ReleaseMakesCardSaid : Prop := Claim7.holds Tryz.pinned (.plain (OpenSpec.ofChange releaseMakesSpec)) releaseMakesCard

/-- THE TIED CARD OF 'datelinelaw.ReleaseTells'. -/
def releaseTellsCard : Claim7 := { stood := { row := releaseTellsRow, standIns := [], harness := (true, "a08f8b4cdb290eaf77ca3f5a48edffb744f4140aba834da794cddaaf4cda5fa7"), looks := false }, kinds := [], alts := [], laidByText := true, laidKinds := [.data, .pinned], laidTests := true, laidLooks := .later }
def ReleaseTellsCardSaid : Prop := Claim7.holds Tryz.pinned (.plain (OpenSpec.ofChange releaseTellsSpec)) releaseTellsCard

/-- THE TIED CARD OF 'datelinelaw.ReleaseLeads'. -/
def releaseLeadsCard : Claim7 := { stood := { row := releaseLeadsRow, standIns := [], harness := (true, "a08f8b4cdb290eaf77ca3f5a48edffb744f4140aba834da794cddaaf4cda5fa7"), looks := false }, kinds := [], alts := [], laidByText := true, laidKinds := [.data, .pinned], laidTests := true, laidLooks := .later }
def ReleaseLeadsCardSaid : Prop := Claim7.holds Tryz.pinned (.plain (OpenSpec.ofChange releaseLeadsSpec)) releaseLeadsCard

/-- THE TIED CARD OF 'datelinelaw.ReleaseSame'. -/
def releaseSameCard : Claim7 := { stood := { row := releaseSameRow, standIns := [], harness := (true, "a08f8b4cdb290eaf77ca3f5a48edffb744f4140aba834da794cddaaf4cda5fa7"), looks := false }, kinds := [], alts := [], laidByText := true, laidKinds := [.data, .pinned], laidTests := true, laidLooks := .later }
def ReleaseSameCardSaid : Prop := Claim7.holds Tryz.pinned (.plain (OpenSpec.ofChange releaseSameSpec)) releaseSameCard

/-- THE TIED CARD OF 'datelinelaw.RestReleases'. -/
def restReleasesCard : Claim7 := { stood := { row := restReleasesRow, standIns := [], harness := (true, "a08f8b4cdb290eaf77ca3f5a48edffb744f4140aba834da794cddaaf4cda5fa7"), looks := false }, kinds := [], alts := [], laidByText := true, laidKinds := [.data, .pinned], laidTests := true, laidLooks := .later }
def RestReleasesCardSaid : Prop := Claim7.holds Tryz.pinned (.plain (OpenSpec.ofChange restReleasesSpec)) restReleasesCard

/-- THE SECOND FORM's CARD OF 'datelinelaw.ReleaseTold'. -/
def releaseToldUptoCard : Claim7 := { stood := { row := releaseToldUptoRow, standIns := [], harness := (true, "a08f8b4cdb290eaf77ca3f5a48edffb744f4140aba834da794cddaaf4cda5fa7"), looks := false }, kinds := [], alts := [], laidByText := true, laidKinds := [.data, .pinned], laidTests := true, laidLooks := .later }
def ReleaseToldUptoCardSaid : Prop := Claim7.holds Tryz.pinned (.plain (OpenSpec.upto releaseToldSpec)) releaseToldUptoCard

/-- THE SECOND FORM's CARD OF 'datelinelaw.ReleaseMakes'. -/
def releaseMakesUptoCard : Claim7 := { stood := { row := releaseMakesUptoRow, standIns := [], harness := (true, "a08f8b4cdb290eaf77ca3f5a48edffb744f4140aba834da794cddaaf4cda5fa7"), looks := false }, kinds := [], alts := [], laidByText := true, laidKinds := [.data, .pinned], laidTests := true, laidLooks := .later }
def ReleaseMakesUptoCardSaid : Prop := Claim7.holds Tryz.pinned (.plain (OpenSpec.upto releaseMakesSpec)) releaseMakesUptoCard

/-- THE SECOND FORM's CARD OF 'datelinelaw.ReleaseTells'. -/
def releaseTellsUptoCard : Claim7 := { stood := { row := releaseTellsUptoRow, standIns := [], harness := (true, "a08f8b4cdb290eaf77ca3f5a48edffb744f4140aba834da794cddaaf4cda5fa7"), looks := false }, kinds := [], alts := [], laidByText := true, laidKinds := [.data, .pinned], laidTests := true, laidLooks := .later }
def ReleaseTellsUptoCardSaid : Prop := Claim7.holds Tryz.pinned (.plain (OpenSpec.upto releaseTellsSpec)) releaseTellsUptoCard

/-- THE SECOND FORM's CARD OF 'datelinelaw.ReleaseLeads'. -/
def releaseLeadsUptoCard : Claim7 := { stood := { row := releaseLeadsUptoRow, standIns := [], harness := (true, "a08f8b4cdb290eaf77ca3f5a48edffb744f4140aba834da794cddaaf4cda5fa7"), looks := false }, kinds := [], alts := [], laidByText := true, laidKinds := [.data, .pinned], laidTests := true, laidLooks := .later }
def ReleaseLeadsUptoCardSaid : Prop := Claim7.holds Tryz.pinned (.plain (OpenSpec.upto releaseLeadsSpec)) releaseLeadsUptoCard

/-- THE SECOND FORM's CARD OF 'datelinelaw.ReleaseSame'. -/
def releaseSameUptoCard : Claim7 := { stood := { row := releaseSameUptoRow, standIns := [], harness := (true, "a08f8b4cdb290eaf77ca3f5a48edffb744f4140aba834da794cddaaf4cda5fa7"), looks := false }, kinds := [], alts := [], laidByText := true, laidKinds := [.data, .pinned], laidTests := true, laidLooks := .later }
def ReleaseSameUptoCardSaid : Prop := Claim7.holds Tryz.pinned (.plain (OpenSpec.upto releaseSameSpec)) releaseSameUptoCard

/-- THE SECOND FORM's CARD OF 'datelinelaw.RestReleases'. -/
def restReleasesUptoCard : Claim7 := { stood := { row := restReleasesUptoRow, standIns := [], harness := (true, "a08f8b4cdb290eaf77ca3f5a48edffb744f4140aba834da794cddaaf4cda5fa7"), looks := false }, kinds := [], alts := [], laidByText := true, laidKinds := [.data, .pinned], laidTests := true, laidLooks := .later }
def RestReleasesUptoCardSaid : Prop := Claim7.holds Tryz.pinned (.plain (OpenSpec.upto restReleasesSpec)) restReleasesUptoCard
end Rows
end Go.Proofs.YtfoipaclphdodaaGreatDoor
