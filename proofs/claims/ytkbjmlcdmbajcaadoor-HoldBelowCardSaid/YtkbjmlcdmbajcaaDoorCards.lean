/-
  DERIVED. GIVEN WITH THE SEED: THE CARDS: each row of YtkbjmlcdmbajcaaDoorRows.lean that lists a variable, with what it lists TIED to the program's text (the seventh form; the later family's looks); each row that meets fmt, with fmt's text TOLD by the authors' own Lean function (tested against real Go, not proved from fmt's source: count such statements apart). THE CARD IS WHAT COUNTS. Prove the row's statement (the work); the ties are given (YtkbjmlcdmbajcaaDoorTie.lean); close each card by the builder's one call (the guide's Derived/Test/ToyasCard.lean, 'card_holds'). Laid BY PROGRAM, IN A SANDBOX (cutbox-door.mjs). By AI agents, Wed Nov 11 2026. No macro, syntax, notation, axiom, sorry.
-/
import Derived.Test.YtkbjmlcdmbajcaaDoorRows
import GoSem.ClaimSeven
namespace Go.Proofs.YtkbjmlcdmbajcaaDoor
namespace Rows

/-- THE TIED CARD OF 'sleuthlaw10.HoldBelow'. -/
def holdBelowCard : Claim7 := { stood := { row := holdBelowRow, standIns := [], harness := (true, "c799d875679b5ea57cbf6f09f33243a452b9f45acfb1f82054cf03c7f0952dca"), looks := true }, kinds := [], alts := [], laidByText := true, laidKinds := [.data, .data, .data, .sentinel, .sentinel], laidTests := true, laidLooks := .later }
def HoldBelowCardSaid : Prop := Claim7.holds Tryd.pinned (.plain (OpenSpec.ofChange holdBelowSpec)) holdBelowCard

/-- THE TIED CARD OF 'sleuthlaw10.HoldParent'. -/
def holdParentCard : Claim7 := { stood := { row := holdParentRow, standIns := [], harness := (true, "c799d875679b5ea57cbf6f09f33243a452b9f45acfb1f82054cf03c7f0952dca"), looks := true }, kinds := [], alts := [], laidByText := true, laidKinds := [.data, .data, .data, .sentinel, .sentinel], laidTests := true, laidLooks := .later }
def HoldParentCardSaid : Prop := Claim7.holds Tryd.pinned (.plain (OpenSpec.ofChange holdParentSpec)) holdParentCard

/-- THE SECOND FORM's CARD OF 'sleuthlaw10.HoldBelow'. -/
def holdBelowUptoCard : Claim7 := { stood := { row := holdBelowUptoRow, standIns := [], harness := (true, "c799d875679b5ea57cbf6f09f33243a452b9f45acfb1f82054cf03c7f0952dca"), looks := true }, kinds := [], alts := [], laidByText := true, laidKinds := [.data, .data, .data, .sentinel, .sentinel], laidTests := true, laidLooks := .later }
def HoldBelowUptoCardSaid : Prop := Claim7.holds Tryd.pinned (.plain (OpenSpec.upto holdBelowSpec)) holdBelowUptoCard

/-- THE SECOND FORM's CARD OF 'sleuthlaw10.HoldParent'. -/
def holdParentUptoCard : Claim7 := { stood := { row := holdParentUptoRow, standIns := [], harness := (true, "c799d875679b5ea57cbf6f09f33243a452b9f45acfb1f82054cf03c7f0952dca"), looks := true }, kinds := [], alts := [], laidByText := true, laidKinds := [.data, .data, .data, .sentinel, .sentinel], laidTests := true, laidLooks := .later }
def HoldParentUptoCardSaid : Prop := Claim7.holds Tryd.pinned (.plain (OpenSpec.upto holdParentSpec)) holdParentUptoCard
end Rows
end Go.Proofs.YtkbjmlcdmbajcaaDoor
