/-
  DERIVED. GIVEN WITH THE SEED: THE CARDS: each row of YthmgnolcfjiicaaGreatDoorRows.lean that lists a variable, with what it lists TIED to the program's text (the seventh form; the later family's looks); each row that meets fmt, with fmt's text TOLD by the authors' own Lean function (tested against real Go, not proved from fmt's source: count such statements apart). THE CARD IS WHAT COUNTS. Prove the row's statement (the work); the ties are given (YthmgnolcfjiicaaGreatDoorTie.lean); close each card by the builder's one call (the guide's Derived/Test/ToyasCard.lean, 'card_holds'). Laid BY PROGRAM, IN A SANDBOX (cutbox-door.mjs). By AI agents, Wed Nov 11 2026. No macro, syntax, notation, axiom, sorry.
-/
import Derived.Test.YthmgnolcfjiicaaGreatDoorRows
import GoSem.ClaimSeven
namespace Go.Proofs.YthmgnolcfjiicaaGreatDoor
namespace Rows

/-- THE TIED CARD OF 'datelinelaw.ReleaseTells'. -/
def releaseTellsCard : Claim7 := { stood := { row := releaseTellsRow, standIns := [], harness := (true, "7f32d063847e7db61fac9f377f3ab480c0a6cd507912211fcd12d18a792e66ff"), looks := false }, kinds := [], alts := [], laidByText := true, laidKinds := [.data, .pinned], laidTests := true, laidLooks := .later }
def ReleaseTellsCardSaid : Prop := Claim7.holds Tryz.pinned (.plain (OpenSpec.ofChange releaseTellsSpec)) releaseTellsCard

/-- THE TIED CARD OF 'datelinelaw.RestReleases'. -/
def restReleasesCard : Claim7 := { stood := { row := restReleasesRow, standIns := [], harness := (true, "7f32d063847e7db61fac9f377f3ab480c0a6cd507912211fcd12d18a792e66ff"), looks := false }, kinds := [], alts := [], laidByText := true, laidKinds := [.data, .pinned], laidTests := true, laidLooks := .later }
def RestReleasesCardSaid : Prop := Claim7.holds Tryz.pinned (.plain (OpenSpec.ofChange restReleasesSpec)) restReleasesCard

/-- THE SECOND FORM's CARD OF 'datelinelaw.ReleaseTells'. -/
def releaseTellsUptoCard : Claim7 := { stood := { row := releaseTellsUptoRow, standIns := [], harness := (true, "7f32d063847e7db61fac9f377f3ab480c0a6cd507912211fcd12d18a792e66ff"), looks := false }, kinds := [], alts := [], laidByText := true, laidKinds := [.data, .pinned], laidTests := true, laidLooks := .later }
def ReleaseTellsUptoCardSaid : Prop := Claim7.holds Tryz.pinned (.plain (OpenSpec.upto releaseTellsSpec)) releaseTellsUptoCard

/-- THE SECOND FORM's CARD OF 'datelinelaw.RestReleases'. -/
def restReleasesUptoCard : Claim7 := { stood := { row := restReleasesUptoRow, standIns := [], harness := (true, "7f32d063847e7db61fac9f377f3ab480c0a6cd507912211fcd12d18a792e66ff"), looks := false }, kinds := [], alts := [], laidByText := true, laidKinds := [.data, .pinned], laidTests := true, laidLooks := .later }
def RestReleasesUptoCardSaid : Prop := Claim7.holds Tryz.pinned (.plain (OpenSpec.upto restReleasesSpec)) restReleasesUptoCard
end Rows
end Go.Proofs.YthmgnolcfjiicaaGreatDoor
