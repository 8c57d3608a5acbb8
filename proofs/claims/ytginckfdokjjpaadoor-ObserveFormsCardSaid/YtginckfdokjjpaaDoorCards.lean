/-
  DERIVED. GIVEN WITH THE SEED: THE CARDS: each row of YtginckfdokjjpaaDoorRows.lean that lists a variable, with what it lists TIED to the program's text (the seventh form; the later family's looks); each row that meets fmt, with fmt's text TOLD by the authors' own Lean function (tested against real Go, not proved from fmt's source: count such statements apart). THE CARD IS WHAT COUNTS. Prove the row's statement (the work); the ties are given (YtginckfdokjjpaaDoorTie.lean); close each card by the builder's one call (the guide's Derived/Test/ToyasCard.lean, 'card_holds'). Laid BY PROGRAM, IN A SANDBOX (cutbox-door.mjs). By AI agents, Wed Nov 11 2026. No macro, syntax, notation, axiom, sorry.
-/
import Derived.Test.YtginckfdokjjpaaDoorRows
import GoSem.ClaimSeven
namespace Go.Proofs.YtginckfdokjjpaaDoor
namespace Rows

/-- THE TIED CARD OF 'sleuthlaw23.Observes'. -/
def observesCard : Claim7 := { stood := { row := observesRow, standIns := [], harness := (true, "9f484f39b0342af49a4c1326ea3b1ad52df5d39d8463bd5fd40a7f78bc2f9477"), looks := true }, kinds := [], alts := [], laidByText := true, laidKinds := [.data, .data, .data, .sentinel, .sentinel], laidTests := true, laidLooks := .later }
def ObservesCardSaid : Prop := Claim7.holds Tryd.pinned (.plain (OpenSpec.ofChange observesSpec)) observesCard

/-- THE TIED CARD OF 'sleuthlaw23.ObserveForms'. -/
def observeFormsCard : Claim7 := { stood := { row := observeFormsRow, standIns := [], harness := (true, "9f484f39b0342af49a4c1326ea3b1ad52df5d39d8463bd5fd40a7f78bc2f9477"), looks := true }, kinds := [], alts := [], laidByText := true, laidKinds := [.data, .data, .data, .sentinel, .sentinel], laidTests := true, laidLooks := .later }
def ObserveFormsCardSaid : Prop := Claim7.holds Tryd.pinned (.plain (OpenSpec.ofChange observeFormsSpec)) observeFormsCard

/-- THE TIED CARD OF 'sleuthlaw23.ObserveAll'. -/
def observeAllCard : Claim7 := { stood := { row := observeAllRow, standIns := [], harness := (true, "9f484f39b0342af49a4c1326ea3b1ad52df5d39d8463bd5fd40a7f78bc2f9477"), looks := true }, kinds := [], alts := [], laidByText := true, laidKinds := [.data, .data, .data, .sentinel, .sentinel], laidTests := true, laidLooks := .later }
def ObserveAllCardSaid : Prop := Claim7.holds Tryd.pinned (.plain (OpenSpec.ofChange observeAllSpec)) observeAllCard

/-- THE SECOND FORM's CARD OF 'sleuthlaw23.Observes'. -/
def observesUptoCard : Claim7 := { stood := { row := observesUptoRow, standIns := [], harness := (true, "9f484f39b0342af49a4c1326ea3b1ad52df5d39d8463bd5fd40a7f78bc2f9477"), looks := true }, kinds := [], alts := [], laidByText := true, laidKinds := [.data, .data, .data, .sentinel, .sentinel], laidTests := true, laidLooks := .later }
def ObservesUptoCardSaid : Prop := Claim7.holds Tryd.pinned (.plain (OpenSpec.upto observesSpec)) observesUptoCard

/-- THE SECOND FORM's CARD OF 'sleuthlaw23.ObserveForms'. -/
def observeFormsUptoCard : Claim7 := { stood := { row := observeFormsUptoRow, standIns := [], harness := (true, "9f484f39b0342af49a4c1326ea3b1ad52df5d39d8463bd5fd40a7f78bc2f9477"), looks := true }, kinds := [], alts := [], laidByText := true, laidKinds := [.data, .data, .data, .sentinel, .sentinel], laidTests := true, laidLooks := .later }
def ObserveFormsUptoCardSaid : Prop := Claim7.holds Tryd.pinned (.plain (OpenSpec.upto observeFormsSpec)) observeFormsUptoCard

/-- THE SECOND FORM's CARD OF 'sleuthlaw23.ObserveAll'. -/
def observeAllUptoCard : Claim7 := { stood := { row := observeAllUptoRow, standIns := [], harness := (true, "9f484f39b0342af49a4c1326ea3b1ad52df5d39d8463bd5fd40a7f78bc2f9477"), looks := true }, kinds := [], alts := [], laidByText := true, laidKinds := [.data, .data, .data, .sentinel, .sentinel], laidTests := true, laidLooks := .later }
def ObserveAllUptoCardSaid : Prop := Claim7.holds Tryd.pinned (.plain (OpenSpec.upto observeAllSpec)) observeAllUptoCard
end Rows
end Go.Proofs.YtginckfdokjjpaaDoor
