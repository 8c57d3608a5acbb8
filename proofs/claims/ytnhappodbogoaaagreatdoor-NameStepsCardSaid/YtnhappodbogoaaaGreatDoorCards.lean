/-
  DERIVED. GIVEN WITH THE SEED: THE CARDS: each row of YtnhappodbogoaaaGreatDoorRows.lean that lists a variable, with what it lists TIED to the program's text (the seventh form; the later family's looks); each row that meets fmt, with fmt's text TOLD by the authors' own Lean function (tested against real Go, not proved from fmt's source: count such statements apart). THE CARD IS WHAT COUNTS. Prove the row's statement (the work); the ties are given (YtnhappodbogoaaaGreatDoorTie.lean); close each card by the builder's one call (the guide's Derived/Test/ToyasCard.lean, 'card_holds'). Laid BY PROGRAM, IN A SANDBOX (cutbox-door.mjs). By AI agents, Wed Nov 11 2026. No macro, syntax, notation, axiom, sorry.
-/
import Derived.Test.YtnhappodbogoaaaGreatDoorRows
import GoSem.ClaimSeven
namespace Go.Proofs.YtnhappodbogoaaaGreatDoor
namespace Rows

/-- THE TIED CARD OF 'sleuthlaw9.Heads'. -/
def headsCard : Claim7 := { stood := { row := headsRow, standIns := [], harness := (true, "099860c01b0a07af577fc6f7a48ebbd0f03be96a40d174f2b6fa5c05f39b9c93"), looks := true }, kinds := [], alts := [], laidByText := true, laidKinds := [.data, .data, .data, .sentinel, .sentinel], laidTests := true, laidLooks := .later }
def HeadsCardSaid : Prop := Claim7.holds Tryz.pinned (.plain (OpenSpec.ofChange headsSpec)) headsCard

/-- THE TIED CARD OF 'sleuthlaw9.NameTable'. -/
def nameTableCard : Claim7 := { stood := { row := nameTableRow, standIns := [], harness := (true, "099860c01b0a07af577fc6f7a48ebbd0f03be96a40d174f2b6fa5c05f39b9c93"), looks := true }, kinds := [], alts := [], laidByText := true, laidKinds := [.data, .data, .data, .sentinel, .sentinel], laidTests := true, laidLooks := .later }
def NameTableCardSaid : Prop := Claim7.holds Tryz.pinned (.plain (OpenSpec.ofChange nameTableSpec)) nameTableCard

/-- THE TIED CARD OF 'sleuthlaw9.NameEndless'. -/
def nameEndlessCard : Claim7 := { stood := { row := nameEndlessRow, standIns := [], harness := (true, "099860c01b0a07af577fc6f7a48ebbd0f03be96a40d174f2b6fa5c05f39b9c93"), looks := true }, kinds := [], alts := [], laidByText := true, laidKinds := [.data, .data, .data, .sentinel, .sentinel], laidTests := true, laidLooks := .later }
def NameEndlessCardSaid : Prop := Claim7.holds Tryz.pinned (.plain (OpenSpec.ofChange nameEndlessSpec)) nameEndlessCard

/-- THE TIED CARD OF 'sleuthlaw9.NameMore'. -/
def nameMoreCard : Claim7 := { stood := { row := nameMoreRow, standIns := [], harness := (true, "099860c01b0a07af577fc6f7a48ebbd0f03be96a40d174f2b6fa5c05f39b9c93"), looks := true }, kinds := [], alts := [], laidByText := true, laidKinds := [.data, .data, .data, .sentinel, .sentinel], laidTests := true, laidLooks := .later }
def NameMoreCardSaid : Prop := Claim7.holds Tryz.pinned (.plain (OpenSpec.ofChange nameMoreSpec)) nameMoreCard

/-- THE TIED CARD OF 'sleuthlaw9.NameSteps'. -/
def nameStepsCard : Claim7 := { stood := { row := nameStepsRow, standIns := [], harness := (true, "099860c01b0a07af577fc6f7a48ebbd0f03be96a40d174f2b6fa5c05f39b9c93"), looks := true }, kinds := [], alts := [], laidByText := true, laidKinds := [.data, .data, .data, .sentinel, .sentinel], laidTests := true, laidLooks := .later }
def NameStepsCardSaid : Prop := Claim7.holds Tryz.pinned (.plain (OpenSpec.ofChange nameStepsSpec)) nameStepsCard

/-- THE TIED CARD OF 'sleuthlaw9.NameFilled'. -/
def nameFilledCard : Claim7 := { stood := { row := nameFilledRow, standIns := [], harness := (true, "099860c01b0a07af577fc6f7a48ebbd0f03be96a40d174f2b6fa5c05f39b9c93"), looks := true }, kinds := [], alts := [], laidByText := true, laidKinds := [.data, .data, .data, .sentinel, .sentinel], laidTests := true, laidLooks := .later }
def NameFilledCardSaid : Prop := Claim7.holds Tryz.pinned (.plain (OpenSpec.ofChange nameFilledSpec)) nameFilledCard

/-- THE TIED CARD OF 'sleuthlaw9.NameArgs'. -/
def nameArgsCard : Claim7 := { stood := { row := nameArgsRow, standIns := [], harness := (true, "099860c01b0a07af577fc6f7a48ebbd0f03be96a40d174f2b6fa5c05f39b9c93"), looks := true }, kinds := [], alts := [], laidByText := true, laidKinds := [.data, .data, .data, .sentinel, .sentinel], laidTests := true, laidLooks := .later }
def NameArgsCardSaid : Prop := Claim7.holds Tryz.pinned (.plain (OpenSpec.ofChange nameArgsSpec)) nameArgsCard

/-- THE SECOND FORM's CARD OF 'sleuthlaw9.Heads'. -/
def headsUptoCard : Claim7 := { stood := { row := headsUptoRow, standIns := [], harness := (true, "099860c01b0a07af577fc6f7a48ebbd0f03be96a40d174f2b6fa5c05f39b9c93"), looks := true }, kinds := [], alts := [], laidByText := true, laidKinds := [.data, .data, .data, .sentinel, .sentinel], laidTests := true, laidLooks := .later }
def HeadsUptoCardSaid : Prop := Claim7.holds Tryz.pinned (.plain (OpenSpec.upto headsSpec)) headsUptoCard

/-- THE SECOND FORM's CARD OF 'sleuthlaw9.NameTable'. -/
def nameTableUptoCard : Claim7 := { stood := { row := nameTableUptoRow, standIns := [], harness := (true, "099860c01b0a07af577fc6f7a48ebbd0f03be96a40d174f2b6fa5c05f39b9c93"), looks := true }, kinds := [], alts := [], laidByText := true, laidKinds := [.data, .data, .data, .sentinel, .sentinel], laidTests := true, laidLooks := .later }
def NameTableUptoCardSaid : Prop := Claim7.holds Tryz.pinned (.plain (OpenSpec.upto nameTableSpec)) nameTableUptoCard

/-- THE SECOND FORM's CARD OF 'sleuthlaw9.NameEndless'. -/
def nameEndlessUptoCard : Claim7 := { stood := { row := nameEndlessUptoRow, standIns := [], harness := (true, "099860c01b0a07af577fc6f7a48ebbd0f03be96a40d174f2b6fa5c05f39b9c93"), looks := true }, kinds := [], alts := [], laidByText := true, laidKinds := [.data, .data, .data, .sentinel, .sentinel], laidTests := true, laidLooks := .later }
def NameEndlessUptoCardSaid : Prop := Claim7.holds Tryz.pinned (.plain (OpenSpec.upto nameEndlessSpec)) nameEndlessUptoCard

/-- THE SECOND FORM's CARD OF 'sleuthlaw9.NameMore'. -/
def nameMoreUptoCard : Claim7 := { stood := { row := nameMoreUptoRow, standIns := [], harness := (true, "099860c01b0a07af577fc6f7a48ebbd0f03be96a40d174f2b6fa5c05f39b9c93"), looks := true }, kinds := [], alts := [], laidByText := true, laidKinds := [.data, .data, .data, .sentinel, .sentinel], laidTests := true, laidLooks := .later }
def NameMoreUptoCardSaid : Prop := Claim7.holds Tryz.pinned (.plain (OpenSpec.upto nameMoreSpec)) nameMoreUptoCard

/-- THE SECOND FORM's CARD OF 'sleuthlaw9.NameSteps'. -/
def nameStepsUptoCard : Claim7 := { stood := { row := nameStepsUptoRow, standIns := [], harness := (true, "099860c01b0a07af577fc6f7a48ebbd0f03be96a40d174f2b6fa5c05f39b9c93"), looks := true }, kinds := [], alts := [], laidByText := true, laidKinds := [.data, .data, .data, .sentinel, .sentinel], laidTests := true, laidLooks := .later }
def NameStepsUptoCardSaid : Prop := Claim7.holds Tryz.pinned (.plain (OpenSpec.upto nameStepsSpec)) nameStepsUptoCard

/-- THE SECOND FORM's CARD OF 'sleuthlaw9.NameFilled'. -/
def nameFilledUptoCard : Claim7 := { stood := { row := nameFilledUptoRow, standIns := [], harness := (true, "099860c01b0a07af577fc6f7a48ebbd0f03be96a40d174f2b6fa5c05f39b9c93"), looks := true }, kinds := [], alts := [], laidByText := true, laidKinds := [.data, .data, .data, .sentinel, .sentinel], laidTests := true, laidLooks := .later }
def NameFilledUptoCardSaid : Prop := Claim7.holds Tryz.pinned (.plain (OpenSpec.upto nameFilledSpec)) nameFilledUptoCard

/-- THE SECOND FORM's CARD OF 'sleuthlaw9.NameArgs'. -/
def nameArgsUptoCard : Claim7 := { stood := { row := nameArgsUptoRow, standIns := [], harness := (true, "099860c01b0a07af577fc6f7a48ebbd0f03be96a40d174f2b6fa5c05f39b9c93"), looks := true }, kinds := [], alts := [], laidByText := true, laidKinds := [.data, .data, .data, .sentinel, .sentinel], laidTests := true, laidLooks := .later }
def NameArgsUptoCardSaid : Prop := Claim7.holds Tryz.pinned (.plain (OpenSpec.upto nameArgsSpec)) nameArgsUptoCard
end Rows
end Go.Proofs.YtnhappodbogoaaaGreatDoor
