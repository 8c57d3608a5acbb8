/-
  DERIVED. GIVEN WITH THE SEED: THE CARDS: each row of YtpalaplnolcimaaDoorRows.lean that lists a variable, with what it lists TIED to the program's text (the seventh form; the later family's looks); each row that meets fmt, with fmt's text TOLD by the authors' own Lean function (tested against real Go, not proved from fmt's source: count such statements apart). THE CARD IS WHAT COUNTS. Prove the row's statement (the work); the ties are given (YtpalaplnolcimaaDoorTie.lean); close each card by the builder's one call (the guide's Derived/Test/ToyasCard.lean, 'card_holds'). Laid BY PROGRAM, IN A SANDBOX (cutbox-door.mjs). By AI agents, Wed Nov 11 2026. No macro, syntax, notation, axiom, sorry.
-/
import Derived.Test.YtpalaplnolcimaaDoorRows
import GoSem.ClaimSeven
namespace Go.Proofs.YtpalaplnolcimaaDoor
namespace Rows

/-- THE TIED CARD OF 'sleuthlaw2.Terms'. -/
def termsCard : Claim7 := { stood := { row := termsRow, standIns := [], harness := (true, "83ad7793863bd6fea69b26c317594a66d03af28fbc043b51f199926049bc8f69"), looks := true }, kinds := [], alts := [], laidByText := true, laidKinds := [.data, .data, .data, .sentinel, .sentinel], laidTests := true, laidLooks := .later }
def TermsCardSaid : Prop := Claim7.holds Tryd.pinned (.plain (OpenSpec.ofChange termsSpec)) termsCard

/-- THE TIED CARD OF 'sleuthlaw2.TermLong'. -/
def termLongCard : Claim7 := { stood := { row := termLongRow, standIns := [], harness := (true, "83ad7793863bd6fea69b26c317594a66d03af28fbc043b51f199926049bc8f69"), looks := true }, kinds := [], alts := [], laidByText := true, laidKinds := [.data, .data, .data, .sentinel, .sentinel], laidTests := true, laidLooks := .later }
def TermLongCardSaid : Prop := Claim7.holds Tryd.pinned (.plain (OpenSpec.ofChange termLongSpec)) termLongCard

/-- THE TIED CARD OF 'sleuthlaw2.TermNumbers'. -/
def termNumbersCard : Claim7 := { stood := { row := termNumbersRow, standIns := [], harness := (true, "83ad7793863bd6fea69b26c317594a66d03af28fbc043b51f199926049bc8f69"), looks := true }, kinds := [], alts := [], laidByText := true, laidKinds := [.data, .data, .data, .sentinel, .sentinel], laidTests := true, laidLooks := .later }
def TermNumbersCardSaid : Prop := Claim7.holds Tryd.pinned (.plain (OpenSpec.ofChange termNumbersSpec)) termNumbersCard

/-- THE TIED CARD OF 'sleuthlaw2.TermParts'. -/
def termPartsCard : Claim7 := { stood := { row := termPartsRow, standIns := [], harness := (true, "83ad7793863bd6fea69b26c317594a66d03af28fbc043b51f199926049bc8f69"), looks := true }, kinds := [], alts := [], laidByText := true, laidKinds := [.data, .data, .data, .sentinel, .sentinel], laidTests := true, laidLooks := .later }
def TermPartsCardSaid : Prop := Claim7.holds Tryd.pinned (.plain (OpenSpec.ofChange termPartsSpec)) termPartsCard

/-- THE TIED CARD OF 'sleuthlaw14.Equations'. -/
def equationsCard : Claim7 := { stood := { row := equationsRow, standIns := [], harness := (true, "83ad7793863bd6fea69b26c317594a66d03af28fbc043b51f199926049bc8f69"), looks := true }, kinds := [], alts := [], laidByText := true, laidKinds := [.data, .data, .data, .sentinel, .sentinel], laidTests := true, laidLooks := .later }
def EquationsCardSaid : Prop := Claim7.holds Tryd.pinned (.plain (OpenSpec.ofChange equationsSpec)) equationsCard

/-- THE TIED CARD OF 'sleuthlaw14.EquationUnlike'. -/
def equationUnlikeCard : Claim7 := { stood := { row := equationUnlikeRow, standIns := [], harness := (true, "83ad7793863bd6fea69b26c317594a66d03af28fbc043b51f199926049bc8f69"), looks := true }, kinds := [], alts := [], laidByText := true, laidKinds := [.data, .data, .data, .sentinel, .sentinel], laidTests := true, laidLooks := .later }
def EquationUnlikeCardSaid : Prop := Claim7.holds Tryd.pinned (.plain (OpenSpec.ofChange equationUnlikeSpec)) equationUnlikeCard

/-- THE TIED CARD OF 'sleuthlaw12.TrailForms'. -/
def trailFormsCard : Claim7 := { stood := { row := trailFormsRow, standIns := [], harness := (true, "83ad7793863bd6fea69b26c317594a66d03af28fbc043b51f199926049bc8f69"), looks := true }, kinds := [], alts := [], laidByText := true, laidKinds := [.data, .data, .data, .sentinel, .sentinel], laidTests := true, laidLooks := .later }
def TrailFormsCardSaid : Prop := Claim7.holds Tryd.pinned (.plain (OpenSpec.ofChange trailFormsSpec)) trailFormsCard

/-- THE TIED CARD OF 'sleuthlaw12.TrailCut'. -/
def trailCutCard : Claim7 := { stood := { row := trailCutRow, standIns := [], harness := (true, "83ad7793863bd6fea69b26c317594a66d03af28fbc043b51f199926049bc8f69"), looks := true }, kinds := [], alts := [], laidByText := true, laidKinds := [.data, .data, .data, .sentinel, .sentinel], laidTests := true, laidLooks := .later }
def TrailCutCardSaid : Prop := Claim7.holds Tryd.pinned (.plain (OpenSpec.ofChange trailCutSpec)) trailCutCard

/-- THE TIED CARD OF 'sleuthlaw12.TrailAny'. -/
def trailAnyCard : Claim7 := { stood := { row := trailAnyRow, standIns := [], harness := (true, "83ad7793863bd6fea69b26c317594a66d03af28fbc043b51f199926049bc8f69"), looks := true }, kinds := [], alts := [], laidByText := true, laidKinds := [.data, .data, .data, .sentinel, .sentinel], laidTests := true, laidLooks := .later }
def TrailAnyCardSaid : Prop := Claim7.holds Tryd.pinned (.plain (OpenSpec.ofChange trailAnySpec)) trailAnyCard

/-- THE SECOND FORM's CARD OF 'sleuthlaw2.Terms'. -/
def termsUptoCard : Claim7 := { stood := { row := termsUptoRow, standIns := [], harness := (true, "83ad7793863bd6fea69b26c317594a66d03af28fbc043b51f199926049bc8f69"), looks := true }, kinds := [], alts := [], laidByText := true, laidKinds := [.data, .data, .data, .sentinel, .sentinel], laidTests := true, laidLooks := .later }
def TermsUptoCardSaid : Prop := Claim7.holds Tryd.pinned (.plain (OpenSpec.upto termsSpec)) termsUptoCard

/-- THE SECOND FORM's CARD OF 'sleuthlaw2.TermLong'. -/
def termLongUptoCard : Claim7 := { stood := { row := termLongUptoRow, standIns := [], harness := (true, "83ad7793863bd6fea69b26c317594a66d03af28fbc043b51f199926049bc8f69"), looks := true }, kinds := [], alts := [], laidByText := true, laidKinds := [.data, .data, .data, .sentinel, .sentinel], laidTests := true, laidLooks := .later }
def TermLongUptoCardSaid : Prop := Claim7.holds Tryd.pinned (.plain (OpenSpec.upto termLongSpec)) termLongUptoCard

/-- THE SECOND FORM's CARD OF 'sleuthlaw2.TermNumbers'. -/
def termNumbersUptoCard : Claim7 := { stood := { row := termNumbersUptoRow, standIns := [], harness := (true, "83ad7793863bd6fea69b26c317594a66d03af28fbc043b51f199926049bc8f69"), looks := true }, kinds := [], alts := [], laidByText := true, laidKinds := [.data, .data, .data, .sentinel, .sentinel], laidTests := true, laidLooks := .later }
def TermNumbersUptoCardSaid : Prop := Claim7.holds Tryd.pinned (.plain (OpenSpec.upto termNumbersSpec)) termNumbersUptoCard

/-- THE SECOND FORM's CARD OF 'sleuthlaw2.TermParts'. -/
def termPartsUptoCard : Claim7 := { stood := { row := termPartsUptoRow, standIns := [], harness := (true, "83ad7793863bd6fea69b26c317594a66d03af28fbc043b51f199926049bc8f69"), looks := true }, kinds := [], alts := [], laidByText := true, laidKinds := [.data, .data, .data, .sentinel, .sentinel], laidTests := true, laidLooks := .later }
def TermPartsUptoCardSaid : Prop := Claim7.holds Tryd.pinned (.plain (OpenSpec.upto termPartsSpec)) termPartsUptoCard

/-- THE SECOND FORM's CARD OF 'sleuthlaw14.Equations'. -/
def equationsUptoCard : Claim7 := { stood := { row := equationsUptoRow, standIns := [], harness := (true, "83ad7793863bd6fea69b26c317594a66d03af28fbc043b51f199926049bc8f69"), looks := true }, kinds := [], alts := [], laidByText := true, laidKinds := [.data, .data, .data, .sentinel, .sentinel], laidTests := true, laidLooks := .later }
def EquationsUptoCardSaid : Prop := Claim7.holds Tryd.pinned (.plain (OpenSpec.upto equationsSpec)) equationsUptoCard

/-- THE SECOND FORM's CARD OF 'sleuthlaw14.EquationUnlike'. -/
def equationUnlikeUptoCard : Claim7 := { stood := { row := equationUnlikeUptoRow, standIns := [], harness := (true, "83ad7793863bd6fea69b26c317594a66d03af28fbc043b51f199926049bc8f69"), looks := true }, kinds := [], alts := [], laidByText := true, laidKinds := [.data, .data, .data, .sentinel, .sentinel], laidTests := true, laidLooks := .later }
def EquationUnlikeUptoCardSaid : Prop := Claim7.holds Tryd.pinned (.plain (OpenSpec.upto equationUnlikeSpec)) equationUnlikeUptoCard

/-- THE SECOND FORM's CARD OF 'sleuthlaw12.TrailForms'. -/
def trailFormsUptoCard : Claim7 := { stood := { row := trailFormsUptoRow, standIns := [], harness := (true, "83ad7793863bd6fea69b26c317594a66d03af28fbc043b51f199926049bc8f69"), looks := true }, kinds := [], alts := [], laidByText := true, laidKinds := [.data, .data, .data, .sentinel, .sentinel], laidTests := true, laidLooks := .later }
def TrailFormsUptoCardSaid : Prop := Claim7.holds Tryd.pinned (.plain (OpenSpec.upto trailFormsSpec)) trailFormsUptoCard

/-- THE SECOND FORM's CARD OF 'sleuthlaw12.TrailCut'. -/
def trailCutUptoCard : Claim7 := { stood := { row := trailCutUptoRow, standIns := [], harness := (true, "83ad7793863bd6fea69b26c317594a66d03af28fbc043b51f199926049bc8f69"), looks := true }, kinds := [], alts := [], laidByText := true, laidKinds := [.data, .data, .data, .sentinel, .sentinel], laidTests := true, laidLooks := .later }
def TrailCutUptoCardSaid : Prop := Claim7.holds Tryd.pinned (.plain (OpenSpec.upto trailCutSpec)) trailCutUptoCard

/-- THE SECOND FORM's CARD OF 'sleuthlaw12.TrailAny'. -/
def trailAnyUptoCard : Claim7 := { stood := { row := trailAnyUptoRow, standIns := [], harness := (true, "83ad7793863bd6fea69b26c317594a66d03af28fbc043b51f199926049bc8f69"), looks := true }, kinds := [], alts := [], laidByText := true, laidKinds := [.data, .data, .data, .sentinel, .sentinel], laidTests := true, laidLooks := .later }
def TrailAnyUptoCardSaid : Prop := Claim7.holds Tryd.pinned (.plain (OpenSpec.upto trailAnySpec)) trailAnyUptoCard
end Rows
end Go.Proofs.YtpalaplnolcimaaDoor
