/-
  DERIVED. GIVEN WITH THE SEED: THE CARDS: each row of YtmogbhfcdcpdeaaDoorRows.lean that lists a variable, with what it lists TIED to the program's text (the seventh form; the later family's looks); each row that meets fmt, with fmt's text TOLD by the authors' own Lean function (tested against real Go, not proved from fmt's source: count such statements apart). THE CARD IS WHAT COUNTS. Prove the row's statement (the work); the ties are given (YtmogbhfcdcpdeaaDoorTie.lean); close each card by the builder's one call (the guide's Derived/Test/ToyasCard.lean, 'card_holds'). Laid BY PROGRAM, IN A SANDBOX (cutbox-door.mjs). By AI agents, Wed Nov 11 2026. No macro, syntax, notation, axiom, sorry.
-/
import Derived.Test.YtmogbhfcdcpdeaaDoorRows
import GoSem.ClaimSeven
namespace Go.Proofs.YtmogbhfcdcpdeaaDoor
namespace Rows

/-- THE TIED CARD OF 'sleuthlaw8.Shows'. -/
def showsCard : Claim7 := { stood := { row := showsRow, standIns := [], harness := (true, "652f64c0b384b42c60a881927dd8762b37254f5a93c4bfacb426d9ce839dea1f"), looks := false }, kinds := [], alts := [], laidByText := true, laidKinds := [.data, .data, .data, .data, .pinned], laidTests := true, laidLooks := .later }
def ShowsCardSaid : Prop := Claim7.holds Tryd.pinned (.plain (OpenSpec.ofChange showsSpec)) showsCard

/-- THE TIED CARD OF 'sleuthlaw8.ShowForms'. -/
def showFormsCard : Claim7 := { stood := { row := showFormsRow, standIns := [], harness := (true, "652f64c0b384b42c60a881927dd8762b37254f5a93c4bfacb426d9ce839dea1f"), looks := false }, kinds := [], alts := [], laidByText := true, laidKinds := [.data, .data, .data, .data, .pinned], laidTests := true, laidLooks := .later }
def ShowFormsCardSaid : Prop := Claim7.holds Tryd.pinned (.plain (OpenSpec.ofChange showFormsSpec)) showFormsCard

/-- THE TIED CARD OF 'sleuthlaw8.ShowRow'. -/
def showRowCard : Claim7 := { stood := { row := showRowRow, standIns := [], harness := (true, "652f64c0b384b42c60a881927dd8762b37254f5a93c4bfacb426d9ce839dea1f"), looks := false }, kinds := [], alts := [], laidByText := true, laidKinds := [.data, .data, .data, .data, .pinned], laidTests := true, laidLooks := .later }
def ShowRowCardSaid : Prop := Claim7.holds Tryd.pinned (.plain (OpenSpec.ofChange showRowSpec)) showRowCard

/-- THE TIED CARD OF 'sleuthlaw8.ShowLines'. -/
def showLinesCard : Claim7 := { stood := { row := showLinesRow, standIns := [], harness := (true, "652f64c0b384b42c60a881927dd8762b37254f5a93c4bfacb426d9ce839dea1f"), looks := false }, kinds := [], alts := [], laidByText := true, laidKinds := [.data, .data, .data, .data, .pinned], laidTests := true, laidLooks := .later }
def ShowLinesCardSaid : Prop := Claim7.holds Tryd.pinned (.plain (OpenSpec.ofChange showLinesSpec)) showLinesCard

/-- THE SECOND FORM's CARD OF 'sleuthlaw8.Shows'. -/
def showsUptoCard : Claim7 := { stood := { row := showsUptoRow, standIns := [], harness := (true, "652f64c0b384b42c60a881927dd8762b37254f5a93c4bfacb426d9ce839dea1f"), looks := false }, kinds := [], alts := [], laidByText := true, laidKinds := [.data, .data, .data, .data, .pinned], laidTests := true, laidLooks := .later }
def ShowsUptoCardSaid : Prop := Claim7.holds Tryd.pinned (.plain (OpenSpec.upto showsSpec)) showsUptoCard

/-- THE SECOND FORM's CARD OF 'sleuthlaw8.ShowForms'. -/
def showFormsUptoCard : Claim7 := { stood := { row := showFormsUptoRow, standIns := [], harness := (true, "652f64c0b384b42c60a881927dd8762b37254f5a93c4bfacb426d9ce839dea1f"), looks := false }, kinds := [], alts := [], laidByText := true, laidKinds := [.data, .data, .data, .data, .pinned], laidTests := true, laidLooks := .later }
def ShowFormsUptoCardSaid : Prop := Claim7.holds Tryd.pinned (.plain (OpenSpec.upto showFormsSpec)) showFormsUptoCard

/-- THE SECOND FORM's CARD OF 'sleuthlaw8.ShowRow'. -/
def showRowUptoCard : Claim7 := { stood := { row := showRowUptoRow, standIns := [], harness := (true, "652f64c0b384b42c60a881927dd8762b37254f5a93c4bfacb426d9ce839dea1f"), looks := false }, kinds := [], alts := [], laidByText := true, laidKinds := [.data, .data, .data, .data, .pinned], laidTests := true, laidLooks := .later }
def ShowRowUptoCardSaid : Prop := Claim7.holds Tryd.pinned (.plain (OpenSpec.upto showRowSpec)) showRowUptoCard

/-- THE SECOND FORM's CARD OF 'sleuthlaw8.ShowLines'. -/
def showLinesUptoCard : Claim7 := { stood := { row := showLinesUptoRow, standIns := [], harness := (true, "652f64c0b384b42c60a881927dd8762b37254f5a93c4bfacb426d9ce839dea1f"), looks := false }, kinds := [], alts := [], laidByText := true, laidKinds := [.data, .data, .data, .data, .pinned], laidTests := true, laidLooks := .later }
def ShowLinesUptoCardSaid : Prop := Claim7.holds Tryd.pinned (.plain (OpenSpec.upto showLinesSpec)) showLinesUptoCard
end Rows
end Go.Proofs.YtmogbhfcdcpdeaaDoor
