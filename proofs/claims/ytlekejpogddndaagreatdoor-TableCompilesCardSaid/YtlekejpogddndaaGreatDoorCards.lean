/-
  DERIVED. GIVEN WITH THE SEED: THE CARDS: each row of YtlekejpogddndaaGreatDoorRows.lean that lists a variable, with what it lists TIED to the program's text (the seventh form; the later family's looks); each row that meets fmt, with fmt's text TOLD by the authors' own Lean function (tested against real Go, not proved from fmt's source: count such statements apart). THE CARD IS WHAT COUNTS. Prove the row's statement (the work); the ties are given (YtlekejpogddndaaGreatDoorTie.lean); close each card by the builder's one call (the guide's Derived/Test/ToyasCard.lean, 'card_holds'). Laid BY PROGRAM, IN A SANDBOX (cutbox-door.mjs). By AI agents, Wed Nov 11 2026. No macro, syntax, notation, axiom, sorry.
-/
import Derived.Test.YtlekejpogddndaaGreatDoorRows
import GoSem.ClaimSeven
namespace Go.Proofs.YtlekejpogddndaaGreatDoor
namespace Rows

/-- THE TIED CARD OF 'datelinelaw.ZoneOther'. -/
def zoneOtherCard : Claim7 := { stood := { row := zoneOtherRow, standIns := [], harness := (true, "8603088c6f6ad6eff00aba0c14f1df11422da500e205e8b9ac58293a4a97adf8"), looks := false }, kinds := [], alts := [], laidByText := true, laidKinds := [.data, .pinned], laidTests := true, laidLooks := .later }
def ZoneOtherCardSaid : Prop := Claim7.holds Tryz.pinned (.plain (OpenSpec.ofChange zoneOtherSpec)) zoneOtherCard

/-- THE TIED CARD OF 'datelinelaw.TableTells'. -/
def tableTellsCard : Claim7 := { stood := { row := tableTellsRow, standIns := [], harness := (true, "8603088c6f6ad6eff00aba0c14f1df11422da500e205e8b9ac58293a4a97adf8"), looks := false }, kinds := [], alts := [], laidByText := true, laidKinds := [.data, .pinned], laidTests := true, laidLooks := .later }
def TableTellsCardSaid : Prop := Claim7.holds Tryz.pinned (.plain (OpenSpec.ofChange tableTellsSpec)) tableTellsCard

/-- THE TIED CARD OF 'datelinelaw.TableCompiles'. -/
def tableCompilesCard : Claim7 := { stood := { row := tableCompilesRow, standIns := [], harness := (true, "8603088c6f6ad6eff00aba0c14f1df11422da500e205e8b9ac58293a4a97adf8"), looks := false }, kinds := [], alts := [], laidByText := true, laidKinds := [.data, .pinned], laidTests := true, laidLooks := .later }
def TableCompilesCardSaid : Prop := Claim7.holds Tryz.pinned (.plain (OpenSpec.ofChange tableCompilesSpec)) tableCompilesCard

/-- THE TIED CARD OF 'datelinelaw.TableFew'. -/
def tableFewCard : Claim7 := { stood := { row := tableFewRow, standIns := [], harness := (true, "8603088c6f6ad6eff00aba0c14f1df11422da500e205e8b9ac58293a4a97adf8"), looks := false }, kinds := [], alts := [], laidByText := true, laidKinds := [.data, .pinned], laidTests := true, laidLooks := .later }
def TableFewCardSaid : Prop := Claim7.holds Tryz.pinned (.plain (OpenSpec.ofChange tableFewSpec)) tableFewCard

/-- THE TIED CARD OF 'datelinelaw.TableSame'. -/
def tableSameCard : Claim7 := { stood := { row := tableSameRow, standIns := [], harness := (true, "8603088c6f6ad6eff00aba0c14f1df11422da500e205e8b9ac58293a4a97adf8"), looks := false }, kinds := [], alts := [], laidByText := true, laidKinds := [.data, .pinned], laidTests := true, laidLooks := .later }
def TableSameCardSaid : Prop := Claim7.holds Tryz.pinned (.plain (OpenSpec.ofChange tableSameSpec)) tableSameCard

/-- THE TIED CARD OF 'datelinelaw.LocalOrder'. -/
def localOrderCard : Claim7 := { stood := { row := localOrderRow, standIns := [], harness := (true, "8603088c6f6ad6eff00aba0c14f1df11422da500e205e8b9ac58293a4a97adf8"), looks := false }, kinds := [], alts := [], laidByText := true, laidKinds := [.data, .pinned], laidTests := true, laidLooks := .later }
def LocalOrderCardSaid : Prop := Claim7.holds Tryz.pinned (.plain (OpenSpec.ofChange localOrderSpec)) localOrderCard

/-- THE TIED CARD OF 'datelinelaw.ReleaseTold'. -/
def releaseToldCard : Claim7 := { stood := { row := releaseToldRow, standIns := [], harness := (true, "8603088c6f6ad6eff00aba0c14f1df11422da500e205e8b9ac58293a4a97adf8"), looks := false }, kinds := [], alts := [], laidByText := true, laidKinds := [.data, .pinned], laidTests := true, laidLooks := .later }
def ReleaseToldCardSaid : Prop := Claim7.holds Tryz.pinned (.plain (OpenSpec.ofChange releaseToldSpec)) releaseToldCard

/-- THE TIED CARD OF 'datelinelaw.ReleaseMakes'. -/
def releaseMakesCard : Claim7 := { stood := { row := releaseMakesRow, standIns := [], harness := (true, "8603088c6f6ad6eff00aba0c14f1df11422da500e205e8b9ac58293a4a97adf8"), looks := false }, kinds := [], alts := [], laidByText := true, laidKinds := [.data, .pinned], laidTests := true, laidLooks := .later }
def ReleaseMakesCardSaid : Prop := Claim7.holds Tryz.pinned (.plain (OpenSpec.ofChange releaseMakesSpec)) releaseMakesCard

/-- THE TIED CARD OF 'datelinelaw.ReleaseTells'. -/
def releaseTellsCard : Claim7 := { stood := { row := releaseTellsRow, standIns := [], harness := (true, "8603088c6f6ad6eff00aba0c14f1df11422da500e205e8b9ac58293a4a97adf8"), looks := false }, kinds := [], alts := [], laidByText := true, laidKinds := [.data, .pinned], laidTests := true, laidLooks := .later }
def ReleaseTellsCardSaid : Prop := Claim7.holds Tryz.pinned (.plain (OpenSpec.ofChange releaseTellsSpec)) releaseTellsCard

/-- THE TIED CARD OF 'datelinelaw.ReleaseLeads'. -/
def releaseLeadsCard : Claim7 := { stood := { row := releaseLeadsRow, standIns := [], harness := (true, "8603088c6f6ad6eff00aba0c14f1df11422da500e205e8b9ac58293a4a97adf8"), looks := false }, kinds := [], alts := [], laidByText := true, laidKinds := [.data, .pinned], laidTests := true, laidLooks := .later }
def ReleaseLeadsCardSaid : Prop := Claim7.holds Tryz.pinned (.plain (OpenSpec.ofChange releaseLeadsSpec)) releaseLeadsCard

/-- THE TIED CARD OF 'datelinelaw.ReleaseSame'. -/
def releaseSameCard : Claim7 := { stood := { row := releaseSameRow, standIns := [], harness := (true, "8603088c6f6ad6eff00aba0c14f1df11422da500e205e8b9ac58293a4a97adf8"), looks := false }, kinds := [], alts := [], laidByText := true, laidKinds := [.data, .pinned], laidTests := true, laidLooks := .later }
def ReleaseSameCardSaid : Prop := Claim7.holds Tryz.pinned (.plain (OpenSpec.ofChange releaseSameSpec)) releaseSameCard

/-- THE TIED CARD OF 'datelinelaw.RestReleases'. -/
def restReleasesCard : Claim7 := { stood := { row := restReleasesRow, standIns := [], harness := (true, "8603088c6f6ad6eff00aba0c14f1df11422da500e205e8b9ac58293a4a97adf8"), looks := false }, kinds := [], alts := [], laidByText := true, laidKinds := [.data, .pinned], laidTests := true, laidLooks := .later }
def RestReleasesCardSaid : Prop := Claim7.holds Tryz.pinned (.plain (OpenSpec.ofChange restReleasesSpec)) restReleasesCard

/-- THE SECOND FORM's CARD OF 'datelinelaw.ZoneOther'. -/
def zoneOtherUptoCard : Claim7 := { stood := { row := zoneOtherUptoRow, standIns := [], harness := (true, "8603088c6f6ad6eff00aba0c14f1df11422da500e205e8b9ac58293a4a97adf8"), looks := false }, kinds := [], alts := [], laidByText := true, laidKinds := [.data, .pinned], laidTests := true, laidLooks := .later }
def ZoneOtherUptoCardSaid : Prop := Claim7.holds Tryz.pinned (.plain (OpenSpec.upto zoneOtherSpec)) zoneOtherUptoCard

/-- THE SECOND FORM's CARD OF 'datelinelaw.TableTells'. -/
def tableTellsUptoCard : Claim7 := { stood := { row := tableTellsUptoRow, standIns := [], harness := (true, "8603088c6f6ad6eff00aba0c14f1df11422da500e205e8b9ac58293a4a97adf8"), looks := false }, kinds := [], alts := [], laidByText := true, laidKinds := [.data, .pinned], laidTests := true, laidLooks := .later }
def TableTellsUptoCardSaid : Prop := Claim7.holds Tryz.pinned (.plain (OpenSpec.upto tableTellsSpec)) tableTellsUptoCard

/-- THE SECOND FORM's CARD OF 'datelinelaw.TableCompiles'. -/
def tableCompilesUptoCard : Claim7 := { stood := { row := tableCompilesUptoRow, standIns := [], harness := (true, "8603088c6f6ad6eff00aba0c14f1df11422da500e205e8b9ac58293a4a97adf8"), looks := false }, kinds := [], alts := [], laidByText := true, laidKinds := [.data, .pinned], laidTests := true, laidLooks := .later }
def TableCompilesUptoCardSaid : Prop := Claim7.holds Tryz.pinned (.plain (OpenSpec.upto tableCompilesSpec)) tableCompilesUptoCard

/-- THE SECOND FORM's CARD OF 'datelinelaw.TableFew'. -/
def tableFewUptoCard : Claim7 := { stood := { row := tableFewUptoRow, standIns := [], harness := (true, "8603088c6f6ad6eff00aba0c14f1df11422da500e205e8b9ac58293a4a97adf8"), looks := false }, kinds := [], alts := [], laidByText := true, laidKinds := [.data, .pinned], laidTests := true, laidLooks := .later }
def TableFewUptoCardSaid : Prop := Claim7.holds Tryz.pinned (.plain (OpenSpec.upto tableFewSpec)) tableFewUptoCard

/-- THE SECOND FORM's CARD OF 'datelinelaw.TableSame'. -/
def tableSameUptoCard : Claim7 := { stood := { row := tableSameUptoRow, standIns := [], harness := (true, "8603088c6f6ad6eff00aba0c14f1df11422da500e205e8b9ac58293a4a97adf8"), looks := false }, kinds := [], alts := [], laidByText := true, laidKinds := [.data, .pinned], laidTests := true, laidLooks := .later }
def TableSameUptoCardSaid : Prop := Claim7.holds Tryz.pinned (.plain (OpenSpec.upto tableSameSpec)) tableSameUptoCard

/-- THE SECOND FORM's CARD OF 'datelinelaw.LocalOrder'. -/
def localOrderUptoCard : Claim7 := { stood := { row := localOrderUptoRow, standIns := [], harness := (true, "8603088c6f6ad6eff00aba0c14f1df11422da500e205e8b9ac58293a4a97adf8"), looks := false }, kinds := [], alts := [], laidByText := true, laidKinds := [.data, .pinned], laidTests := true, laidLooks := .later }
def LocalOrderUptoCardSaid : Prop := Claim7.holds Tryz.pinned (.plain (OpenSpec.upto localOrderSpec)) localOrderUptoCard

/-- THE SECOND FORM's CARD OF 'datelinelaw.ReleaseTold'. -/
def releaseToldUptoCard : Claim7 := { stood := { row := releaseToldUptoRow, standIns := [], harness := (true, "8603088c6f6ad6eff00aba0c14f1df11422da500e205e8b9ac58293a4a97adf8"), looks := false }, kinds := [], alts := [], laidByText := true, laidKinds := [.data, .pinned], laidTests := true, laidLooks := .later }
def ReleaseToldUptoCardSaid : Prop := Claim7.holds Tryz.pinned (.plain (OpenSpec.upto releaseToldSpec)) releaseToldUptoCard

/-- THE SECOND FORM's CARD OF 'datelinelaw.ReleaseMakes'. -/
def releaseMakesUptoCard : Claim7 := { stood := { row := releaseMakesUptoRow, standIns := [], harness := (true, "8603088c6f6ad6eff00aba0c14f1df11422da500e205e8b9ac58293a4a97adf8"), looks := false }, kinds := [], alts := [], laidByText := true, laidKinds := [.data, .pinned], laidTests := true, laidLooks := .later }
def ReleaseMakesUptoCardSaid : Prop := Claim7.holds Tryz.pinned (.plain (OpenSpec.upto releaseMakesSpec)) releaseMakesUptoCard

/-- THE SECOND FORM's CARD OF 'datelinelaw.ReleaseTells'. -/
def releaseTellsUptoCard : Claim7 := { stood := { row := releaseTellsUptoRow, standIns := [], harness := (true, "8603088c6f6ad6eff00aba0c14f1df11422da500e205e8b9ac58293a4a97adf8"), looks := false }, kinds := [], alts := [], laidByText := true, laidKinds := [.data, .pinned], laidTests := true, laidLooks := .later }
def ReleaseTellsUptoCardSaid : Prop := Claim7.holds Tryz.pinned (.plain (OpenSpec.upto releaseTellsSpec)) releaseTellsUptoCard

/-- THE SECOND FORM's CARD OF 'datelinelaw.ReleaseLeads'. -/
def releaseLeadsUptoCard : Claim7 := { stood := { row := releaseLeadsUptoRow, standIns := [], harness := (true, "8603088c6f6ad6eff00aba0c14f1df11422da500e205e8b9ac58293a4a97adf8"), looks := false }, kinds := [], alts := [], laidByText := true, laidKinds := [.data, .pinned], laidTests := true, laidLooks := .later }
def ReleaseLeadsUptoCardSaid : Prop := Claim7.holds Tryz.pinned (.plain (OpenSpec.upto releaseLeadsSpec)) releaseLeadsUptoCard

/-- THE SECOND FORM's CARD OF 'datelinelaw.ReleaseSame'. -/
def releaseSameUptoCard : Claim7 := { stood := { row := releaseSameUptoRow, standIns := [], harness := (true, "8603088c6f6ad6eff00aba0c14f1df11422da500e205e8b9ac58293a4a97adf8"), looks := false }, kinds := [], alts := [], laidByText := true, laidKinds := [.data, .pinned], laidTests := true, laidLooks := .later }
def ReleaseSameUptoCardSaid : Prop := Claim7.holds Tryz.pinned (.plain (OpenSpec.upto releaseSameSpec)) releaseSameUptoCard

/-- THE SECOND FORM's CARD OF 'datelinelaw.RestReleases'. -/
def restReleasesUptoCard : Claim7 := { stood := { row := restReleasesUptoRow, standIns := [], harness := (true, "8603088c6f6ad6eff00aba0c14f1df11422da500e205e8b9ac58293a4a97adf8"), looks := false }, kinds := [], alts := [], laidByText := true, laidKinds := [.data, .pinned], laidTests := true, laidLooks := .later }
def RestReleasesUptoCardSaid : Prop := Claim7.holds Tryz.pinned (.plain (OpenSpec.upto restReleasesSpec)) restReleasesUptoCard
end Rows
end Go.Proofs.YtlekejpogddndaaGreatDoor
