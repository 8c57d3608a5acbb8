/-
  DERIVED. GIVEN WITH THE SEED: THE CARDS: each row of YtnhappodbogoaaaDoorRows.lean that lists a variable, with what it lists TIED to the program's text (the seventh form; the later family's looks); each row that meets fmt, with fmt's text TOLD by the authors' own Lean function (tested against real Go, not proved from fmt's source: count such statements apart). THE CARD IS WHAT COUNTS. Prove the row's statement (the work); the ties are given (YtnhappodbogoaaaDoorTie.lean); close each card by the builder's one call (the guide's Derived/Test/ToyasCard.lean, 'card_holds'). Laid BY PROGRAM, IN A SANDBOX (cutbox-door.mjs). By AI agents, Wed Nov 11 2026. No macro, syntax, notation, axiom, sorry.
-/
import Derived.Test.YtnhappodbogoaaaDoorRows
import GoSem.ClaimSeven
namespace Go.Proofs.YtnhappodbogoaaaDoor
namespace Rows

/-- THE TIED CARD OF 'sleuthlaw9.NameForms'. -/
def nameFormsCard : Claim7 := { stood := { row := nameFormsRow, standIns := [], harness := (true, "fe5beaff7ce5dc9af1dc6fdce7f9da84ee75c23e08ccccc926ffb7c8ffffa983"), looks := true }, kinds := [], alts := [], laidByText := true, laidKinds := [.data, .data, .data, .sentinel, .sentinel], laidTests := true, laidLooks := .later }
def NameFormsCardSaid : Prop := Claim7.holds Tryd.pinned (.plain (OpenSpec.ofChange nameFormsSpec)) nameFormsCard

/-- THE SECOND FORM's CARD OF 'sleuthlaw9.NameForms'. -/
def nameFormsUptoCard : Claim7 := { stood := { row := nameFormsUptoRow, standIns := [], harness := (true, "fe5beaff7ce5dc9af1dc6fdce7f9da84ee75c23e08ccccc926ffb7c8ffffa983"), looks := true }, kinds := [], alts := [], laidByText := true, laidKinds := [.data, .data, .data, .sentinel, .sentinel], laidTests := true, laidLooks := .later }
def NameFormsUptoCardSaid : Prop := Claim7.holds Tryd.pinned (.plain (OpenSpec.upto nameFormsSpec)) nameFormsUptoCard
end Rows
end Go.Proofs.YtnhappodbogoaaaDoor
