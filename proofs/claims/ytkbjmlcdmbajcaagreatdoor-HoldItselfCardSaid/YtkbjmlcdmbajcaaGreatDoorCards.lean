/-
  DERIVED. GIVEN WITH THE SEED: THE CARDS: each row of YtkbjmlcdmbajcaaGreatDoorRows.lean that lists a variable, with what it lists TIED to the program's text (the seventh form; the later family's looks); each row that meets fmt, with fmt's text TOLD by the authors' own Lean function (tested against real Go, not proved from fmt's source: count such statements apart). THE CARD IS WHAT COUNTS. Prove the row's statement (the work); the ties are given (YtkbjmlcdmbajcaaGreatDoorTie.lean); close each card by the builder's one call (the guide's Derived/Test/ToyasCard.lean, 'card_holds'). Laid BY PROGRAM, IN A SANDBOX (cutbox-door.mjs). By AI agents, Wed Nov 11 2026. No macro, syntax, notation, axiom, sorry.
-/
import Derived.Test.YtkbjmlcdmbajcaaGreatDoorRows
import GoSem.ClaimSeven
namespace Go.Proofs.YtkbjmlcdmbajcaaGreatDoor
namespace Rows

/-- THE TIED CARD OF 'sleuthlaw10.Holdses'. -/
def holdsesCard : Claim7 := { stood := { row := holdsesRow, standIns := [], harness := (true, "377b36f12d7db75dec89dbcfb24f2215b2afda359d342d284dd0423d2c8404a2"), looks := true }, kinds := [], alts := [], laidByText := true, laidKinds := [.data, .data, .data, .sentinel, .sentinel], laidTests := true, laidLooks := .later }
def HoldsesCardSaid : Prop := Claim7.holds Tryz.pinned (.plain (OpenSpec.ofChange holdsesSpec)) holdsesCard

/-- THE TIED CARD OF 'sleuthlaw10.HoldHead'. -/
def holdHeadCard : Claim7 := { stood := { row := holdHeadRow, standIns := [], harness := (true, "377b36f12d7db75dec89dbcfb24f2215b2afda359d342d284dd0423d2c8404a2"), looks := true }, kinds := [], alts := [], laidByText := true, laidKinds := [.data, .data, .data, .sentinel, .sentinel], laidTests := true, laidLooks := .later }
def HoldHeadCardSaid : Prop := Claim7.holds Tryz.pinned (.plain (OpenSpec.ofChange holdHeadSpec)) holdHeadCard

/-- THE TIED CARD OF 'sleuthlaw10.HoldItself'. -/
def holdItselfCard : Claim7 := { stood := { row := holdItselfRow, standIns := [], harness := (true, "377b36f12d7db75dec89dbcfb24f2215b2afda359d342d284dd0423d2c8404a2"), looks := true }, kinds := [], alts := [], laidByText := true, laidKinds := [.data, .data, .data, .sentinel, .sentinel], laidTests := true, laidLooks := .later }
def HoldItselfCardSaid : Prop := Claim7.holds Tryz.pinned (.plain (OpenSpec.ofChange holdItselfSpec)) holdItselfCard

/-- THE SECOND FORM's CARD OF 'sleuthlaw10.Holdses'. -/
def holdsesUptoCard : Claim7 := { stood := { row := holdsesUptoRow, standIns := [], harness := (true, "377b36f12d7db75dec89dbcfb24f2215b2afda359d342d284dd0423d2c8404a2"), looks := true }, kinds := [], alts := [], laidByText := true, laidKinds := [.data, .data, .data, .sentinel, .sentinel], laidTests := true, laidLooks := .later }
def HoldsesUptoCardSaid : Prop := Claim7.holds Tryz.pinned (.plain (OpenSpec.upto holdsesSpec)) holdsesUptoCard

/-- THE SECOND FORM's CARD OF 'sleuthlaw10.HoldHead'. -/
def holdHeadUptoCard : Claim7 := { stood := { row := holdHeadUptoRow, standIns := [], harness := (true, "377b36f12d7db75dec89dbcfb24f2215b2afda359d342d284dd0423d2c8404a2"), looks := true }, kinds := [], alts := [], laidByText := true, laidKinds := [.data, .data, .data, .sentinel, .sentinel], laidTests := true, laidLooks := .later }
def HoldHeadUptoCardSaid : Prop := Claim7.holds Tryz.pinned (.plain (OpenSpec.upto holdHeadSpec)) holdHeadUptoCard

/-- THE SECOND FORM's CARD OF 'sleuthlaw10.HoldItself'. -/
def holdItselfUptoCard : Claim7 := { stood := { row := holdItselfUptoRow, standIns := [], harness := (true, "377b36f12d7db75dec89dbcfb24f2215b2afda359d342d284dd0423d2c8404a2"), looks := true }, kinds := [], alts := [], laidByText := true, laidKinds := [.data, .data, .data, .sentinel, .sentinel], laidTests := true, laidLooks := .later }
def HoldItselfUptoCardSaid : Prop := Claim7.holds Tryz.pinned (.plain (OpenSpec.upto holdItselfSpec)) holdItselfUptoCard
end Rows
end Go.Proofs.YtkbjmlcdmbajcaaGreatDoor
