/-
  DERIVED. GIVEN WITH THE SEED: THE CARDS: each row of YtddiafpckjhadaaGreatDoorRows.lean that lists a variable, with what it lists TIED to the program's text (the seventh form; the later family's looks); each row that meets fmt, with fmt's text TOLD by the authors' own Lean function (tested against real Go, not proved from fmt's source: count such statements apart). THE CARD IS WHAT COUNTS. Prove the row's statement (the work); the ties are given (YtddiafpckjhadaaGreatDoorTie.lean); close each card by the builder's one call (the guide's Derived/Test/ToyasCard.lean, 'card_holds'). Laid BY PROGRAM, IN A SANDBOX (cutbox-door.mjs). By AI agents, Wed Nov 11 2026. No macro, syntax, notation, axiom, sorry.
-/
import Derived.Test.YtddiafpckjhadaaGreatDoorRows
import GoSem.ClaimSeven
namespace Go.Proofs.YtddiafpckjhadaaGreatDoor
namespace Rows

/-- THE TIED CARD OF 'sleuthlaw9.Heads'. -/
def headsCard : Claim7 := { stood := { row := headsRow, standIns := [], harness := (true, "991357a810bed97b58f986ffd7d73a7aed021db77dc790aa3e7d9c63348615bb"), looks := true }, kinds := [], alts := [], laidByText := true, laidKinds := [.data, .data, .data, .sentinel, .sentinel], laidTests := true, laidLooks := .later }
def HeadsCardSaid : Prop := Claim7.holds Tryz.pinned (.plain (OpenSpec.ofChange headsSpec)) headsCard

/-- THE TIED CARD OF 'sleuthlaw9.NameEndless'. -/
def nameEndlessCard : Claim7 := { stood := { row := nameEndlessRow, standIns := [], harness := (true, "991357a810bed97b58f986ffd7d73a7aed021db77dc790aa3e7d9c63348615bb"), looks := true }, kinds := [], alts := [], laidByText := true, laidKinds := [.data, .data, .data, .sentinel, .sentinel], laidTests := true, laidLooks := .later }
def NameEndlessCardSaid : Prop := Claim7.holds Tryz.pinned (.plain (OpenSpec.ofChange nameEndlessSpec)) nameEndlessCard

/-- THE TIED CARD OF 'sleuthlaw10.Holdses'. -/
def holdsesCard : Claim7 := { stood := { row := holdsesRow, standIns := [], harness := (true, "991357a810bed97b58f986ffd7d73a7aed021db77dc790aa3e7d9c63348615bb"), looks := true }, kinds := [], alts := [], laidByText := true, laidKinds := [.data, .data, .data, .sentinel, .sentinel], laidTests := true, laidLooks := .later }
def HoldsesCardSaid : Prop := Claim7.holds Tryz.pinned (.plain (OpenSpec.ofChange holdsesSpec)) holdsesCard

/-- THE SECOND FORM's CARD OF 'sleuthlaw9.Heads'. -/
def headsUptoCard : Claim7 := { stood := { row := headsUptoRow, standIns := [], harness := (true, "991357a810bed97b58f986ffd7d73a7aed021db77dc790aa3e7d9c63348615bb"), looks := true }, kinds := [], alts := [], laidByText := true, laidKinds := [.data, .data, .data, .sentinel, .sentinel], laidTests := true, laidLooks := .later }
def HeadsUptoCardSaid : Prop := Claim7.holds Tryz.pinned (.plain (OpenSpec.upto headsSpec)) headsUptoCard

/-- THE SECOND FORM's CARD OF 'sleuthlaw9.NameEndless'. -/
def nameEndlessUptoCard : Claim7 := { stood := { row := nameEndlessUptoRow, standIns := [], harness := (true, "991357a810bed97b58f986ffd7d73a7aed021db77dc790aa3e7d9c63348615bb"), looks := true }, kinds := [], alts := [], laidByText := true, laidKinds := [.data, .data, .data, .sentinel, .sentinel], laidTests := true, laidLooks := .later }
def NameEndlessUptoCardSaid : Prop := Claim7.holds Tryz.pinned (.plain (OpenSpec.upto nameEndlessSpec)) nameEndlessUptoCard

/-- THE SECOND FORM's CARD OF 'sleuthlaw10.Holdses'. -/
def holdsesUptoCard : Claim7 := { stood := { row := holdsesUptoRow, standIns := [], harness := (true, "991357a810bed97b58f986ffd7d73a7aed021db77dc790aa3e7d9c63348615bb"), looks := true }, kinds := [], alts := [], laidByText := true, laidKinds := [.data, .data, .data, .sentinel, .sentinel], laidTests := true, laidLooks := .later }
def HoldsesUptoCardSaid : Prop := Claim7.holds Tryz.pinned (.plain (OpenSpec.upto holdsesSpec)) holdsesUptoCard
end Rows
end Go.Proofs.YtddiafpckjhadaaGreatDoor
