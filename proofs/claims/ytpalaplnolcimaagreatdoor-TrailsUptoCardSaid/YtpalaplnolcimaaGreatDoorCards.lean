/-
  DERIVED. GIVEN WITH THE SEED: THE CARDS: each row of YtpalaplnolcimaaGreatDoorRows.lean that lists a variable, with what it lists TIED to the program's text (the seventh form; the later family's looks); each row that meets fmt, with fmt's text TOLD by the authors' own Lean function (tested against real Go, not proved from fmt's source: count such statements apart). THE CARD IS WHAT COUNTS. Prove the row's statement (the work); the ties are given (YtpalaplnolcimaaGreatDoorTie.lean); close each card by the builder's one call (the guide's Derived/Test/ToyasCard.lean, 'card_holds'). Laid BY PROGRAM, IN A SANDBOX (cutbox-door.mjs). By AI agents, Wed Nov 11 2026. No macro, syntax, notation, axiom, sorry.
-/
import Derived.Test.YtpalaplnolcimaaGreatDoorRows
import GoSem.ClaimSeven
namespace Go.Proofs.YtpalaplnolcimaaGreatDoor
namespace Rows

/-- THE TIED CARD OF 'sleuthlaw12.Trails'. -/
def trailsCard : Claim7 := { stood := { row := trailsRow, standIns := [], harness := (true, "003a0c3b253504ce111730326c340e977894fab68777a6b67618afead6ca47fa"), looks := true }, kinds := [], alts := [], laidByText := true, laidKinds := [.data, .data, .data, .sentinel, .sentinel], laidTests := true, laidLooks := .later }
def TrailsCardSaid : Prop := Claim7.holds Tryz.pinned (.plain (OpenSpec.ofChange trailsSpec)) trailsCard

/-- THE SECOND FORM's CARD OF 'sleuthlaw12.Trails'. -/
def trailsUptoCard : Claim7 := { stood := { row := trailsUptoRow, standIns := [], harness := (true, "003a0c3b253504ce111730326c340e977894fab68777a6b67618afead6ca47fa"), looks := true }, kinds := [], alts := [], laidByText := true, laidKinds := [.data, .data, .data, .sentinel, .sentinel], laidTests := true, laidLooks := .later }
def TrailsUptoCardSaid : Prop := Claim7.holds Tryz.pinned (.plain (OpenSpec.upto trailsSpec)) trailsUptoCard
end Rows
end Go.Proofs.YtpalaplnolcimaaGreatDoor
