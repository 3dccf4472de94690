/-
  DERIVED. GIVEN WITH THE SEED: THE CARDS: each row of YthdifaphoaekoaaGreatDoorRows.lean that lists a variable, with what it lists TIED to the program's text (the seventh form; the later family's looks); each row that meets fmt, with fmt's text TOLD by the authors' own Lean function (tested against real Go, not proved from fmt's source: count such statements apart). THE CARD IS WHAT COUNTS. Prove the row's statement (the work); the ties are given (YthdifaphoaekoaaGreatDoorTie.lean); close each card by the builder's one call (the guide's Derived/Test/ToyasCard.lean, 'card_holds'). Laid BY PROGRAM, IN A SANDBOX (cutbox-door.mjs). By AI agents, Wed Nov 11 2026. No macro, syntax, notation, axiom, sorry.
-/
import Derived.Test.YthdifaphoaekoaaGreatDoorRows
import GoSem.ClaimSeven
namespace Go.Proofs.YthdifaphoaekoaaGreatDoor
namespace Rows

/-- THE TIED CARD OF 'datelinelaw.ZoneLink'. -/
def zoneLinkCard : Claim7 := { stood := { row := zoneLinkRow, standIns := [], harness := (true, "a00ab6180c6267d7165eaa1e156c925b9c7ad8feff9c3b3b1b19894812a588d4"), looks := false }, kinds := [], alts := [], laidByText := true, laidKinds := [.data, .pinned], laidTests := true, laidLooks := .later }
def ZoneLinkCardSaid : Prop := Claim7.holds Tryz.pinned (.plain (OpenSpec.ofChange zoneLinkSpec)) zoneLinkCard

/-- THE TIED CARD OF 'datelinelaw.ZoneOther'. -/
def zoneOtherCard : Claim7 := { stood := { row := zoneOtherRow, standIns := [], harness := (true, "a00ab6180c6267d7165eaa1e156c925b9c7ad8feff9c3b3b1b19894812a588d4"), looks := false }, kinds := [], alts := [], laidByText := true, laidKinds := [.data, .pinned], laidTests := true, laidLooks := .later }
def ZoneOtherCardSaid : Prop := Claim7.holds Tryz.pinned (.plain (OpenSpec.ofChange zoneOtherSpec)) zoneOtherCard

/-- THE TIED CARD OF 'datelinelaw.ZoneTells'. -/
def zoneTellsCard : Claim7 := { stood := { row := zoneTellsRow, standIns := [], harness := (true, "a00ab6180c6267d7165eaa1e156c925b9c7ad8feff9c3b3b1b19894812a588d4"), looks := false }, kinds := [], alts := [], laidByText := true, laidKinds := [.data, .pinned], laidTests := true, laidLooks := .later }
def ZoneTellsCardSaid : Prop := Claim7.holds Tryz.pinned (.plain (OpenSpec.ofChange zoneTellsSpec)) zoneTellsCard

/-- THE TIED CARD OF 'datelinelaw.ZoneAts'. -/
def zoneAtsCard : Claim7 := { stood := { row := zoneAtsRow, standIns := [], harness := (true, "a00ab6180c6267d7165eaa1e156c925b9c7ad8feff9c3b3b1b19894812a588d4"), looks := false }, kinds := [], alts := [], laidByText := true, laidKinds := [.data, .pinned], laidTests := true, laidLooks := .later }
def ZoneAtsCardSaid : Prop := Claim7.holds Tryz.pinned (.plain (OpenSpec.ofChange zoneAtsSpec)) zoneAtsCard

/-- THE TIED CARD OF 'datelinelaw.ZoneSteps'. -/
def zoneStepsCard : Claim7 := { stood := { row := zoneStepsRow, standIns := [], harness := (true, "a00ab6180c6267d7165eaa1e156c925b9c7ad8feff9c3b3b1b19894812a588d4"), looks := false }, kinds := [], alts := [], laidByText := true, laidKinds := [.data, .pinned], laidTests := true, laidLooks := .later }
def ZoneStepsCardSaid : Prop := Claim7.holds Tryz.pinned (.plain (OpenSpec.ofChange zoneStepsSpec)) zoneStepsCard

/-- THE TIED CARD OF 'datelinelaw.TableTells'. -/
def tableTellsCard : Claim7 := { stood := { row := tableTellsRow, standIns := [], harness := (true, "a00ab6180c6267d7165eaa1e156c925b9c7ad8feff9c3b3b1b19894812a588d4"), looks := false }, kinds := [], alts := [], laidByText := true, laidKinds := [.data, .pinned], laidTests := true, laidLooks := .later }
def TableTellsCardSaid : Prop := Claim7.holds Tryz.pinned (.plain (OpenSpec.ofChange tableTellsSpec)) tableTellsCard

/-- THE TIED CARD OF 'datelinelaw.TableCompiles'. -/
def tableCompilesCard : Claim7 := { stood := { row := tableCompilesRow, standIns := [], harness := (true, "a00ab6180c6267d7165eaa1e156c925b9c7ad8feff9c3b3b1b19894812a588d4"), looks := false }, kinds := [], alts := [], laidByText := true, laidKinds := [.data, .pinned], laidTests := true, laidLooks := .later }
def TableCompilesCardSaid : Prop := Claim7.holds Tryz.pinned (.plain (OpenSpec.ofChange tableCompilesSpec)) tableCompilesCard

/-- THE TIED CARD OF 'datelinelaw.TableFew'. -/
def tableFewCard : Claim7 := { stood := { row := tableFewRow, standIns := [], harness := (true, "a00ab6180c6267d7165eaa1e156c925b9c7ad8feff9c3b3b1b19894812a588d4"), looks := false }, kinds := [], alts := [], laidByText := true, laidKinds := [.data, .pinned], laidTests := true, laidLooks := .later }
def TableFewCardSaid : Prop := Claim7.holds Tryz.pinned (.plain (OpenSpec.ofChange tableFewSpec)) tableFewCard

/-- THE TIED CARD OF 'datelinelaw.TableSame'. -/
def tableSameCard : Claim7 := { stood := { row := tableSameRow, standIns := [], harness := (true, "a00ab6180c6267d7165eaa1e156c925b9c7ad8feff9c3b3b1b19894812a588d4"), looks := false }, kinds := [], alts := [], laidByText := true, laidKinds := [.data, .pinned], laidTests := true, laidLooks := .later }
def TableSameCardSaid : Prop := Claim7.holds Tryz.pinned (.plain (OpenSpec.ofChange tableSameSpec)) tableSameCard

/-- THE TIED CARD OF 'datelinelaw.LocalOrder'. -/
def localOrderCard : Claim7 := { stood := { row := localOrderRow, standIns := [], harness := (true, "a00ab6180c6267d7165eaa1e156c925b9c7ad8feff9c3b3b1b19894812a588d4"), looks := false }, kinds := [], alts := [], laidByText := true, laidKinds := [.data, .pinned], laidTests := true, laidLooks := .later }
def LocalOrderCardSaid : Prop := Claim7.holds Tryz.pinned (.plain (OpenSpec.ofChange localOrderSpec)) localOrderCard

/-- THE SECOND FORM's CARD OF 'datelinelaw.ZoneLink'. -/
def zoneLinkUptoCard : Claim7 := { stood := { row := zoneLinkUptoRow, standIns := [], harness := (true, "a00ab6180c6267d7165eaa1e156c925b9c7ad8feff9c3b3b1b19894812a588d4"), looks := false }, kinds := [], alts := [], laidByText := true, laidKinds := [.data, .pinned], laidTests := true, laidLooks := .later }
def ZoneLinkUptoCardSaid : Prop := Claim7.holds Tryz.pinned (.plain (OpenSpec.upto zoneLinkSpec)) zoneLinkUptoCard

/-- THE SECOND FORM's CARD OF 'datelinelaw.ZoneOther'. -/
def zoneOtherUptoCard : Claim7 := { stood := { row := zoneOtherUptoRow, standIns := [], harness := (true, "a00ab6180c6267d7165eaa1e156c925b9c7ad8feff9c3b3b1b19894812a588d4"), looks := false }, kinds := [], alts := [], laidByText := true, laidKinds := [.data, .pinned], laidTests := true, laidLooks := .later }
def ZoneOtherUptoCardSaid : Prop := Claim7.holds Tryz.pinned (.plain (OpenSpec.upto zoneOtherSpec)) zoneOtherUptoCard

/-- THE SECOND FORM's CARD OF 'datelinelaw.ZoneTells'. -/
def zoneTellsUptoCard : Claim7 := { stood := { row := zoneTellsUptoRow, standIns := [], harness := (true, "a00ab6180c6267d7165eaa1e156c925b9c7ad8feff9c3b3b1b19894812a588d4"), looks := false }, kinds := [], alts := [], laidByText := true, laidKinds := [.data, .pinned], laidTests := true, laidLooks := .later }
def ZoneTellsUptoCardSaid : Prop := Claim7.holds Tryz.pinned (.plain (OpenSpec.upto zoneTellsSpec)) zoneTellsUptoCard

/-- THE SECOND FORM's CARD OF 'datelinelaw.ZoneAts'. -/
def zoneAtsUptoCard : Claim7 := { stood := { row := zoneAtsUptoRow, standIns := [], harness := (true, "a00ab6180c6267d7165eaa1e156c925b9c7ad8feff9c3b3b1b19894812a588d4"), looks := false }, kinds := [], alts := [], laidByText := true, laidKinds := [.data, .pinned], laidTests := true, laidLooks := .later }
def ZoneAtsUptoCardSaid : Prop := Claim7.holds Tryz.pinned (.plain (OpenSpec.upto zoneAtsSpec)) zoneAtsUptoCard

/-- THE SECOND FORM's CARD OF 'datelinelaw.ZoneSteps'. -/
def zoneStepsUptoCard : Claim7 := { stood := { row := zoneStepsUptoRow, standIns := [], harness := (true, "a00ab6180c6267d7165eaa1e156c925b9c7ad8feff9c3b3b1b19894812a588d4"), looks := false }, kinds := [], alts := [], laidByText := true, laidKinds := [.data, .pinned], laidTests := true, laidLooks := .later }
def ZoneStepsUptoCardSaid : Prop := Claim7.holds Tryz.pinned (.plain (OpenSpec.upto zoneStepsSpec)) zoneStepsUptoCard

/-- THE SECOND FORM's CARD OF 'datelinelaw.TableTells'. -/
def tableTellsUptoCard : Claim7 := { stood := { row := tableTellsUptoRow, standIns := [], harness := (true, "a00ab6180c6267d7165eaa1e156c925b9c7ad8feff9c3b3b1b19894812a588d4"), looks := false }, kinds := [], alts := [], laidByText := true, laidKinds := [.data, .pinned], laidTests := true, laidLooks := .later }
def TableTellsUptoCardSaid : Prop := Claim7.holds Tryz.pinned (.plain (OpenSpec.upto tableTellsSpec)) tableTellsUptoCard

/-- THE SECOND FORM's CARD OF 'datelinelaw.TableCompiles'. -/
def tableCompilesUptoCard : Claim7 := { stood := { row := tableCompilesUptoRow, standIns := [], harness := (true, "a00ab6180c6267d7165eaa1e156c925b9c7ad8feff9c3b3b1b19894812a588d4"), looks := false }, kinds := [], alts := [], laidByText := true, laidKinds := [.data, .pinned], laidTests := true, laidLooks := .later }
def TableCompilesUptoCardSaid : Prop := Claim7.holds Tryz.pinned (.plain (OpenSpec.upto tableCompilesSpec)) tableCompilesUptoCard

/-- THE SECOND FORM's CARD OF 'datelinelaw.TableFew'. -/
def tableFewUptoCard : Claim7 := { stood := { row := tableFewUptoRow, standIns := [], harness := (true, "a00ab6180c6267d7165eaa1e156c925b9c7ad8feff9c3b3b1b19894812a588d4"), looks := false }, kinds := [], alts := [], laidByText := true, laidKinds := [.data, .pinned], laidTests := true, laidLooks := .later }
def TableFewUptoCardSaid : Prop := Claim7.holds Tryz.pinned (.plain (OpenSpec.upto tableFewSpec)) tableFewUptoCard

/-- THE SECOND FORM's CARD OF 'datelinelaw.TableSame'. -/
def tableSameUptoCard : Claim7 := { stood := { row := tableSameUptoRow, standIns := [], harness := (true, "a00ab6180c6267d7165eaa1e156c925b9c7ad8feff9c3b3b1b19894812a588d4"), looks := false }, kinds := [], alts := [], laidByText := true, laidKinds := [.data, .pinned], laidTests := true, laidLooks := .later }
def TableSameUptoCardSaid : Prop := Claim7.holds Tryz.pinned (.plain (OpenSpec.upto tableSameSpec)) tableSameUptoCard

/-- THE SECOND FORM's CARD OF 'datelinelaw.LocalOrder'. -/
def localOrderUptoCard : Claim7 := { stood := { row := localOrderUptoRow, standIns := [], harness := (true, "a00ab6180c6267d7165eaa1e156c925b9c7ad8feff9c3b3b1b19894812a588d4"), looks := false }, kinds := [], alts := [], laidByText := true, laidKinds := [.data, .pinned], laidTests := true, laidLooks := .later }
def LocalOrderUptoCardSaid : Prop := Claim7.holds Tryz.pinned (.plain (OpenSpec.upto localOrderSpec)) localOrderUptoCard
end Rows
end Go.Proofs.YthdifaphoaekoaaGreatDoor
