/-
  DERIVED. GIVEN WITH THE SEED: THE CARDS: each row of YtepnfifgbkmnoaaDoorRows.lean that lists a variable, with what it lists TIED to the program's text (the seventh form; the later family's looks); each row that meets fmt, with fmt's text TOLD by the authors' own Lean function (tested against real Go, not proved from fmt's source: count such statements apart). THE CARD IS WHAT COUNTS. Prove the row's statement (the work); the ties are given (YtepnfifgbkmnoaaDoorTie.lean); close each card by the builder's one call (the guide's Derived/Test/ToyasCard.lean, 'card_holds'). Laid BY PROGRAM, IN A SANDBOX (cutbox-door.mjs). By AI agents, Wed Nov 11 2026. No macro, syntax, notation, axiom, sorry.
-/
import Derived.Test.YtepnfifgbkmnoaaDoorRows
import GoSem.ClaimSeven
namespace Go.Proofs.YtepnfifgbkmnoaaDoor
namespace Rows

/-- THE TIED CARD OF 'sleuthlaw8.ShowForms'. -/
def showFormsCard : Claim7 := { stood := { row := showFormsRow, standIns := [], harness := (true, "9a3d64f2130b956e39d2bce477e53f3f35a7daac3cf1bfcac7277c77b393fb75"), looks := true }, kinds := [], alts := [], laidByText := true, laidKinds := [.data, .data, .data, .data, .pinned], laidTests := true, laidLooks := .later }
def ShowFormsCardSaid : Prop := Claim7.holds Tryd.pinned (.plain (OpenSpec.ofChange showFormsSpec)) showFormsCard

/-- THE TIED CARD OF 'sleuthlaw8.ShowRow'. -/
def showRowCard : Claim7 := { stood := { row := showRowRow, standIns := [], harness := (true, "9a3d64f2130b956e39d2bce477e53f3f35a7daac3cf1bfcac7277c77b393fb75"), looks := true }, kinds := [], alts := [], laidByText := true, laidKinds := [.data, .data, .data, .data, .pinned], laidTests := true, laidLooks := .later }
def ShowRowCardSaid : Prop := Claim7.holds Tryd.pinned (.plain (OpenSpec.ofChange showRowSpec)) showRowCard

/-- THE TIED CARD OF 'sleuthlaw14.EquationForms'. -/
def equationFormsCard : Claim7 := { stood := { row := equationFormsRow, standIns := [], harness := (true, "9a3d64f2130b956e39d2bce477e53f3f35a7daac3cf1bfcac7277c77b393fb75"), looks := true }, kinds := [], alts := [], laidByText := true, laidKinds := [.data, .data, .data, .sentinel, .sentinel], laidTests := true, laidLooks := .later }
def EquationFormsCardSaid : Prop := Claim7.holds Tryd.pinned (.plain (OpenSpec.ofChange equationFormsSpec)) equationFormsCard

/-- THE TIED CARD OF 'sleuthlaw14.EquationBy'. -/
def equationByCard : Claim7 := { stood := { row := equationByRow, standIns := [], harness := (true, "9a3d64f2130b956e39d2bce477e53f3f35a7daac3cf1bfcac7277c77b393fb75"), looks := true }, kinds := [], alts := [], laidByText := true, laidKinds := [.data, .data, .data, .sentinel, .sentinel], laidTests := true, laidLooks := .later }
def EquationByCardSaid : Prop := Claim7.holds Tryd.pinned (.plain (OpenSpec.ofChange equationBySpec)) equationByCard

/-- THE TIED CARD OF 'sleuthlaw2.TermForms'. -/
def termFormsCard : Claim7 := { stood := { row := termFormsRow, standIns := [], harness := (true, "9a3d64f2130b956e39d2bce477e53f3f35a7daac3cf1bfcac7277c77b393fb75"), looks := true }, kinds := [], alts := [], laidByText := true, laidKinds := [.data, .data, .data, .sentinel, .sentinel], laidTests := true, laidLooks := .later }
def TermFormsCardSaid : Prop := Claim7.holds Tryd.pinned (.plain (OpenSpec.ofChange termFormsSpec)) termFormsCard

/-- THE TIED CARD OF 'sleuthlaw2.TermMakes'. -/
def termMakesCard : Claim7 := { stood := { row := termMakesRow, standIns := [], harness := (true, "9a3d64f2130b956e39d2bce477e53f3f35a7daac3cf1bfcac7277c77b393fb75"), looks := true }, kinds := [], alts := [], laidByText := true, laidKinds := [.data, .data, .data, .sentinel, .sentinel], laidTests := true, laidLooks := .later }
def TermMakesCardSaid : Prop := Claim7.holds Tryd.pinned (.plain (OpenSpec.ofChange termMakesSpec)) termMakesCard

/-- THE TIED CARD OF 'sleuthlaw2.TermLong'. -/
def termLongCard : Claim7 := { stood := { row := termLongRow, standIns := [], harness := (true, "9a3d64f2130b956e39d2bce477e53f3f35a7daac3cf1bfcac7277c77b393fb75"), looks := true }, kinds := [], alts := [], laidByText := true, laidKinds := [.data, .data, .data, .sentinel, .sentinel], laidTests := true, laidLooks := .later }
def TermLongCardSaid : Prop := Claim7.holds Tryd.pinned (.plain (OpenSpec.ofChange termLongSpec)) termLongCard

/-- THE TIED CARD OF 'sleuthlaw12.TrailForms'. -/
def trailFormsCard : Claim7 := { stood := { row := trailFormsRow, standIns := [], harness := (true, "9a3d64f2130b956e39d2bce477e53f3f35a7daac3cf1bfcac7277c77b393fb75"), looks := true }, kinds := [], alts := [], laidByText := true, laidKinds := [.data, .data, .data, .sentinel, .sentinel], laidTests := true, laidLooks := .later }
def TrailFormsCardSaid : Prop := Claim7.holds Tryd.pinned (.plain (OpenSpec.ofChange trailFormsSpec)) trailFormsCard

/-- THE TIED CARD OF 'sleuthlaw23.ObserveForms'. -/
def observeFormsCard : Claim7 := { stood := { row := observeFormsRow, standIns := [], harness := (true, "9a3d64f2130b956e39d2bce477e53f3f35a7daac3cf1bfcac7277c77b393fb75"), looks := true }, kinds := [], alts := [], laidByText := true, laidKinds := [.data, .data, .data, .sentinel, .sentinel], laidTests := true, laidLooks := .later }
def ObserveFormsCardSaid : Prop := Claim7.holds Tryd.pinned (.plain (OpenSpec.ofChange observeFormsSpec)) observeFormsCard

/-- THE TIED CARD OF 'sleuthlaw10.HoldForms'. -/
def holdFormsCard : Claim7 := { stood := { row := holdFormsRow, standIns := [], harness := (true, "9a3d64f2130b956e39d2bce477e53f3f35a7daac3cf1bfcac7277c77b393fb75"), looks := true }, kinds := [], alts := [], laidByText := true, laidKinds := [.data, .data, .data, .sentinel, .sentinel], laidTests := true, laidLooks := .later }
def HoldFormsCardSaid : Prop := Claim7.holds Tryd.pinned (.plain (OpenSpec.ofChange holdFormsSpec)) holdFormsCard

/-- THE TIED CARD OF 'sleuthlaw10.HoldTable'. -/
def holdTableCard : Claim7 := { stood := { row := holdTableRow, standIns := [], harness := (true, "9a3d64f2130b956e39d2bce477e53f3f35a7daac3cf1bfcac7277c77b393fb75"), looks := true }, kinds := [], alts := [], laidByText := true, laidKinds := [.data, .data, .data, .sentinel, .sentinel], laidTests := true, laidLooks := .later }
def HoldTableCardSaid : Prop := Claim7.holds Tryd.pinned (.plain (OpenSpec.ofChange holdTableSpec)) holdTableCard

/-- THE SECOND FORM's CARD OF 'sleuthlaw8.ShowForms'. -/
def showFormsUptoCard : Claim7 := { stood := { row := showFormsUptoRow, standIns := [], harness := (true, "9a3d64f2130b956e39d2bce477e53f3f35a7daac3cf1bfcac7277c77b393fb75"), looks := true }, kinds := [], alts := [], laidByText := true, laidKinds := [.data, .data, .data, .data, .pinned], laidTests := true, laidLooks := .later }
def ShowFormsUptoCardSaid : Prop := Claim7.holds Tryd.pinned (.plain (OpenSpec.upto showFormsSpec)) showFormsUptoCard

/-- THE SECOND FORM's CARD OF 'sleuthlaw8.ShowRow'. -/
def showRowUptoCard : Claim7 := { stood := { row := showRowUptoRow, standIns := [], harness := (true, "9a3d64f2130b956e39d2bce477e53f3f35a7daac3cf1bfcac7277c77b393fb75"), looks := true }, kinds := [], alts := [], laidByText := true, laidKinds := [.data, .data, .data, .data, .pinned], laidTests := true, laidLooks := .later }
def ShowRowUptoCardSaid : Prop := Claim7.holds Tryd.pinned (.plain (OpenSpec.upto showRowSpec)) showRowUptoCard

/-- THE SECOND FORM's CARD OF 'sleuthlaw14.EquationForms'. -/
def equationFormsUptoCard : Claim7 := { stood := { row := equationFormsUptoRow, standIns := [], harness := (true, "9a3d64f2130b956e39d2bce477e53f3f35a7daac3cf1bfcac7277c77b393fb75"), looks := true }, kinds := [], alts := [], laidByText := true, laidKinds := [.data, .data, .data, .sentinel, .sentinel], laidTests := true, laidLooks := .later }
def EquationFormsUptoCardSaid : Prop := Claim7.holds Tryd.pinned (.plain (OpenSpec.upto equationFormsSpec)) equationFormsUptoCard

/-- THE SECOND FORM's CARD OF 'sleuthlaw14.EquationBy'. -/
def equationByUptoCard : Claim7 := { stood := { row := equationByUptoRow, standIns := [], harness := (true, "9a3d64f2130b956e39d2bce477e53f3f35a7daac3cf1bfcac7277c77b393fb75"), looks := true }, kinds := [], alts := [], laidByText := true, laidKinds := [.data, .data, .data, .sentinel, .sentinel], laidTests := true, laidLooks := .later }
def EquationByUptoCardSaid : Prop := Claim7.holds Tryd.pinned (.plain (OpenSpec.upto equationBySpec)) equationByUptoCard

/-- THE SECOND FORM's CARD OF 'sleuthlaw2.TermForms'. -/
def termFormsUptoCard : Claim7 := { stood := { row := termFormsUptoRow, standIns := [], harness := (true, "9a3d64f2130b956e39d2bce477e53f3f35a7daac3cf1bfcac7277c77b393fb75"), looks := true }, kinds := [], alts := [], laidByText := true, laidKinds := [.data, .data, .data, .sentinel, .sentinel], laidTests := true, laidLooks := .later }
def TermFormsUptoCardSaid : Prop := Claim7.holds Tryd.pinned (.plain (OpenSpec.upto termFormsSpec)) termFormsUptoCard

/-- THE SECOND FORM's CARD OF 'sleuthlaw2.TermMakes'. -/
def termMakesUptoCard : Claim7 := { stood := { row := termMakesUptoRow, standIns := [], harness := (true, "9a3d64f2130b956e39d2bce477e53f3f35a7daac3cf1bfcac7277c77b393fb75"), looks := true }, kinds := [], alts := [], laidByText := true, laidKinds := [.data, .data, .data, .sentinel, .sentinel], laidTests := true, laidLooks := .later }
def TermMakesUptoCardSaid : Prop := Claim7.holds Tryd.pinned (.plain (OpenSpec.upto termMakesSpec)) termMakesUptoCard

/-- THE SECOND FORM's CARD OF 'sleuthlaw2.TermLong'. -/
def termLongUptoCard : Claim7 := { stood := { row := termLongUptoRow, standIns := [], harness := (true, "9a3d64f2130b956e39d2bce477e53f3f35a7daac3cf1bfcac7277c77b393fb75"), looks := true }, kinds := [], alts := [], laidByText := true, laidKinds := [.data, .data, .data, .sentinel, .sentinel], laidTests := true, laidLooks := .later }
def TermLongUptoCardSaid : Prop := Claim7.holds Tryd.pinned (.plain (OpenSpec.upto termLongSpec)) termLongUptoCard

/-- THE SECOND FORM's CARD OF 'sleuthlaw12.TrailForms'. -/
def trailFormsUptoCard : Claim7 := { stood := { row := trailFormsUptoRow, standIns := [], harness := (true, "9a3d64f2130b956e39d2bce477e53f3f35a7daac3cf1bfcac7277c77b393fb75"), looks := true }, kinds := [], alts := [], laidByText := true, laidKinds := [.data, .data, .data, .sentinel, .sentinel], laidTests := true, laidLooks := .later }
def TrailFormsUptoCardSaid : Prop := Claim7.holds Tryd.pinned (.plain (OpenSpec.upto trailFormsSpec)) trailFormsUptoCard

/-- THE SECOND FORM's CARD OF 'sleuthlaw23.ObserveForms'. -/
def observeFormsUptoCard : Claim7 := { stood := { row := observeFormsUptoRow, standIns := [], harness := (true, "9a3d64f2130b956e39d2bce477e53f3f35a7daac3cf1bfcac7277c77b393fb75"), looks := true }, kinds := [], alts := [], laidByText := true, laidKinds := [.data, .data, .data, .sentinel, .sentinel], laidTests := true, laidLooks := .later }
def ObserveFormsUptoCardSaid : Prop := Claim7.holds Tryd.pinned (.plain (OpenSpec.upto observeFormsSpec)) observeFormsUptoCard

/-- THE SECOND FORM's CARD OF 'sleuthlaw10.HoldForms'. -/
def holdFormsUptoCard : Claim7 := { stood := { row := holdFormsUptoRow, standIns := [], harness := (true, "9a3d64f2130b956e39d2bce477e53f3f35a7daac3cf1bfcac7277c77b393fb75"), looks := true }, kinds := [], alts := [], laidByText := true, laidKinds := [.data, .data, .data, .sentinel, .sentinel], laidTests := true, laidLooks := .later }
def HoldFormsUptoCardSaid : Prop := Claim7.holds Tryd.pinned (.plain (OpenSpec.upto holdFormsSpec)) holdFormsUptoCard

/-- THE SECOND FORM's CARD OF 'sleuthlaw10.HoldTable'. -/
def holdTableUptoCard : Claim7 := { stood := { row := holdTableUptoRow, standIns := [], harness := (true, "9a3d64f2130b956e39d2bce477e53f3f35a7daac3cf1bfcac7277c77b393fb75"), looks := true }, kinds := [], alts := [], laidByText := true, laidKinds := [.data, .data, .data, .sentinel, .sentinel], laidTests := true, laidLooks := .later }
def HoldTableUptoCardSaid : Prop := Claim7.holds Tryd.pinned (.plain (OpenSpec.upto holdTableSpec)) holdTableUptoCard
end Rows
end Go.Proofs.YtepnfifgbkmnoaaDoor
