/-
  DERIVED. GIVEN WITH THE SEED: THE CARDS: each row of YtmddflmckmopiaaDoorRows.lean that lists a variable, with what it lists TIED to the program's text (the seventh form; the later family's looks); each row that meets fmt, with fmt's text TOLD by the authors' own Lean function (tested against real Go, not proved from fmt's source: count such statements apart). THE CARD IS WHAT COUNTS. Prove the row's statement (the work); the ties are given (YtmddflmckmopiaaDoorTie.lean); close each card by the builder's one call (the guide's Derived/Test/ToyasCard.lean, 'card_holds'). Laid BY PROGRAM, IN A SANDBOX (cutbox-door.mjs). By AI agents, Wed Nov 11 2026. No macro, syntax, notation, axiom, sorry.
-/
import Derived.Test.YtmddflmckmopiaaDoorRows
import GoSem.ClaimSeven
namespace Go.Proofs.YtmddflmckmopiaaDoor
namespace Rows

/-- THE TIED CARD OF 'sleuthlaw14.EquationForms'. -/
def equationFormsCard : Claim7 := { stood := { row := equationFormsRow, standIns := [], harness := (true, "a17bfeaf985605cff48dd354f8dd0dc7a9343cb948ea4c5fa2d00471d4157534"), looks := true }, kinds := [], alts := [], laidByText := true, laidKinds := [.data, .data, .data, .sentinel, .sentinel], laidTests := true, laidLooks := .later }
def EquationFormsCardSaid : Prop := Claim7.holds Tryd.pinned (.plain (OpenSpec.ofChange equationFormsSpec)) equationFormsCard

/-- THE TIED CARD OF 'sleuthlaw14.EquationBy'. -/
def equationByCard : Claim7 := { stood := { row := equationByRow, standIns := [], harness := (true, "a17bfeaf985605cff48dd354f8dd0dc7a9343cb948ea4c5fa2d00471d4157534"), looks := true }, kinds := [], alts := [], laidByText := true, laidKinds := [.data, .data, .data, .sentinel, .sentinel], laidTests := true, laidLooks := .later }
def EquationByCardSaid : Prop := Claim7.holds Tryd.pinned (.plain (OpenSpec.ofChange equationBySpec)) equationByCard

/-- THE TIED CARD OF 'sleuthlaw2.TermForms'. -/
def termFormsCard : Claim7 := { stood := { row := termFormsRow, standIns := [], harness := (true, "a17bfeaf985605cff48dd354f8dd0dc7a9343cb948ea4c5fa2d00471d4157534"), looks := true }, kinds := [], alts := [], laidByText := true, laidKinds := [.data, .data, .data, .sentinel, .sentinel], laidTests := true, laidLooks := .later }
def TermFormsCardSaid : Prop := Claim7.holds Tryd.pinned (.plain (OpenSpec.ofChange termFormsSpec)) termFormsCard

/-- THE TIED CARD OF 'sleuthlaw2.TermMakes'. -/
def termMakesCard : Claim7 := { stood := { row := termMakesRow, standIns := [], harness := (true, "a17bfeaf985605cff48dd354f8dd0dc7a9343cb948ea4c5fa2d00471d4157534"), looks := true }, kinds := [], alts := [], laidByText := true, laidKinds := [.data, .data, .data, .sentinel, .sentinel], laidTests := true, laidLooks := .later }
def TermMakesCardSaid : Prop := Claim7.holds Tryd.pinned (.plain (OpenSpec.ofChange termMakesSpec)) termMakesCard

/-- THE TIED CARD OF 'sleuthlaw10.HoldForms'. -/
def holdFormsCard : Claim7 := { stood := { row := holdFormsRow, standIns := [], harness := (true, "a17bfeaf985605cff48dd354f8dd0dc7a9343cb948ea4c5fa2d00471d4157534"), looks := true }, kinds := [], alts := [], laidByText := true, laidKinds := [.data, .data, .data, .sentinel, .sentinel], laidTests := true, laidLooks := .later }
def HoldFormsCardSaid : Prop := Claim7.holds Tryd.pinned (.plain (OpenSpec.ofChange holdFormsSpec)) holdFormsCard

/-- THE TIED CARD OF 'sleuthlaw10.HoldTable'. -/
def holdTableCard : Claim7 := { stood := { row := holdTableRow, standIns := [], harness := (true, "a17bfeaf985605cff48dd354f8dd0dc7a9343cb948ea4c5fa2d00471d4157534"), looks := true }, kinds := [], alts := [], laidByText := true, laidKinds := [.data, .data, .data, .sentinel, .sentinel], laidTests := true, laidLooks := .later }
def HoldTableCardSaid : Prop := Claim7.holds Tryd.pinned (.plain (OpenSpec.ofChange holdTableSpec)) holdTableCard

/-- THE SECOND FORM's CARD OF 'sleuthlaw14.EquationForms'. -/
def equationFormsUptoCard : Claim7 := { stood := { row := equationFormsUptoRow, standIns := [], harness := (true, "a17bfeaf985605cff48dd354f8dd0dc7a9343cb948ea4c5fa2d00471d4157534"), looks := true }, kinds := [], alts := [], laidByText := true, laidKinds := [.data, .data, .data, .sentinel, .sentinel], laidTests := true, laidLooks := .later }
def EquationFormsUptoCardSaid : Prop := Claim7.holds Tryd.pinned (.plain (OpenSpec.upto equationFormsSpec)) equationFormsUptoCard

/-- THE SECOND FORM's CARD OF 'sleuthlaw14.EquationBy'. -/
def equationByUptoCard : Claim7 := { stood := { row := equationByUptoRow, standIns := [], harness := (true, "a17bfeaf985605cff48dd354f8dd0dc7a9343cb948ea4c5fa2d00471d4157534"), looks := true }, kinds := [], alts := [], laidByText := true, laidKinds := [.data, .data, .data, .sentinel, .sentinel], laidTests := true, laidLooks := .later }
def EquationByUptoCardSaid : Prop := Claim7.holds Tryd.pinned (.plain (OpenSpec.upto equationBySpec)) equationByUptoCard

/-- THE SECOND FORM's CARD OF 'sleuthlaw2.TermForms'. -/
def termFormsUptoCard : Claim7 := { stood := { row := termFormsUptoRow, standIns := [], harness := (true, "a17bfeaf985605cff48dd354f8dd0dc7a9343cb948ea4c5fa2d00471d4157534"), looks := true }, kinds := [], alts := [], laidByText := true, laidKinds := [.data, .data, .data, .sentinel, .sentinel], laidTests := true, laidLooks := .later }
def TermFormsUptoCardSaid : Prop := Claim7.holds Tryd.pinned (.plain (OpenSpec.upto termFormsSpec)) termFormsUptoCard

/-- THE SECOND FORM's CARD OF 'sleuthlaw2.TermMakes'. -/
def termMakesUptoCard : Claim7 := { stood := { row := termMakesUptoRow, standIns := [], harness := (true, "a17bfeaf985605cff48dd354f8dd0dc7a9343cb948ea4c5fa2d00471d4157534"), looks := true }, kinds := [], alts := [], laidByText := true, laidKinds := [.data, .data, .data, .sentinel, .sentinel], laidTests := true, laidLooks := .later }
def TermMakesUptoCardSaid : Prop := Claim7.holds Tryd.pinned (.plain (OpenSpec.upto termMakesSpec)) termMakesUptoCard

/-- THE SECOND FORM's CARD OF 'sleuthlaw10.HoldForms'. -/
def holdFormsUptoCard : Claim7 := { stood := { row := holdFormsUptoRow, standIns := [], harness := (true, "a17bfeaf985605cff48dd354f8dd0dc7a9343cb948ea4c5fa2d00471d4157534"), looks := true }, kinds := [], alts := [], laidByText := true, laidKinds := [.data, .data, .data, .sentinel, .sentinel], laidTests := true, laidLooks := .later }
def HoldFormsUptoCardSaid : Prop := Claim7.holds Tryd.pinned (.plain (OpenSpec.upto holdFormsSpec)) holdFormsUptoCard

/-- THE SECOND FORM's CARD OF 'sleuthlaw10.HoldTable'. -/
def holdTableUptoCard : Claim7 := { stood := { row := holdTableUptoRow, standIns := [], harness := (true, "a17bfeaf985605cff48dd354f8dd0dc7a9343cb948ea4c5fa2d00471d4157534"), looks := true }, kinds := [], alts := [], laidByText := true, laidKinds := [.data, .data, .data, .sentinel, .sentinel], laidTests := true, laidLooks := .later }
def HoldTableUptoCardSaid : Prop := Claim7.holds Tryd.pinned (.plain (OpenSpec.upto holdTableSpec)) holdTableUptoCard
end Rows
end Go.Proofs.YtmddflmckmopiaaDoor
