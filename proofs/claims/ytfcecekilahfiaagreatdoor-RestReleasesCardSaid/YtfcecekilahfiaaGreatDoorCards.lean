/-
  DERIVED. GIVEN WITH THE SEED: THE CARDS: each row of YtfcecekilahfiaaGreatDoorRows.lean that lists a variable, with what it lists TIED to the program's text (the seventh form; the later family's looks); each row that meets fmt, with fmt's text TOLD by the authors' own Lean function (tested against real Go, not proved from fmt's source: count such statements apart). THE CARD IS WHAT COUNTS. Prove the row's statement (the work); the ties are given (YtfcecekilahfiaaGreatDoorTie.lean); close each card by the builder's one call (the guide's Derived/Test/ToyasCard.lean, 'card_holds'). Laid BY PROGRAM, IN A SANDBOX (cutbox-door.mjs). By AI agents, Wed Nov 11 2026. No macro, syntax, notation, axiom, sorry.
-/
import Derived.Test.YtfcecekilahfiaaGreatDoorRows
import GoSem.ClaimSeven
namespace Go.Proofs.YtfcecekilahfiaaGreatDoor
namespace Rows

/-- THE TIED CARD OF 'datelinelaw.RestReleases'. -/
def restReleasesCard : Claim7 := { stood := { row := restReleasesRow, standIns := [], harness := (true, "ba446e41bd95a2beb2199d7a63d217adb6d96b94fefcb35bc10ece7e24157900"), looks := false }, kinds := [], alts := [], laidByText := true, laidKinds := [.data, .pinned], laidTests := true, laidLooks := .later }
def RestReleasesCardSaid : Prop := Claim7.holds Tryz.pinned (.plain (OpenSpec.ofChange restReleasesSpec)) restReleasesCard

/-- THE SECOND FORM's CARD OF 'datelinelaw.RestReleases'. -/
def restReleasesUptoCard : Claim7 := { stood := { row := restReleasesUptoRow, standIns := [], harness := (true, "ba446e41bd95a2beb2199d7a63d217adb6d96b94fefcb35bc10ece7e24157900"), looks := false }, kinds := [], alts := [], laidByText := true, laidKinds := [.data, .pinned], laidTests := true, laidLooks := .later }
def RestReleasesUptoCardSaid : Prop := Claim7.holds Tryz.pinned (.plain (OpenSpec.upto restReleasesSpec)) restReleasesUptoCard
end Rows
end Go.Proofs.YtfcecekilahfiaaGreatDoor
