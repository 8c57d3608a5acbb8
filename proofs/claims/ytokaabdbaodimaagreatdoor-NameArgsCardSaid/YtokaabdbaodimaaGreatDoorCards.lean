/-
  DERIVED. GIVEN WITH THE SEED: THE CARDS: each row of YtokaabdbaodimaaGreatDoorRows.lean that lists a variable, with what it lists TIED to the program's text (the seventh form; the later family's looks); each row that meets fmt, with fmt's text TOLD by the authors' own Lean function (tested against real Go, not proved from fmt's source: count such statements apart). THE CARD IS WHAT COUNTS. Prove the row's statement (the work); the ties are given (YtokaabdbaodimaaGreatDoorTie.lean); close each card by the builder's one call (the guide's Derived/Test/ToyasCard.lean, 'card_holds'). Laid BY PROGRAM, IN A SANDBOX (cutbox-door.mjs). By AI agents, Wed Nov 11 2026. No macro, syntax, notation, axiom, sorry.
-/
import Derived.Test.YtokaabdbaodimaaGreatDoorRows
import GoSem.ClaimSeven
namespace Go.Proofs.YtokaabdbaodimaaGreatDoor
namespace Rows

/-- THE TIED CARD OF 'sleuthlaw9.Heads'. -/
def headsCard : Claim7 := { stood := { row := headsRow, standIns := [], harness := (true, "d74be31c9d6a7ec97edcaf15fde240e41c8dae2d1cc76be61d910a6ec4873bb7"), looks := true }, kinds := [], alts := [], laidByText := true, laidKinds := [.data, .data, .data, .sentinel, .sentinel], laidTests := true, laidLooks := .later }
def HeadsCardSaid : Prop := Claim7.holds Tryz.pinned (.plain (OpenSpec.ofChange headsSpec)) headsCard

/-- THE TIED CARD OF 'sleuthlaw9.NameEndless'. -/
def nameEndlessCard : Claim7 := { stood := { row := nameEndlessRow, standIns := [], harness := (true, "d74be31c9d6a7ec97edcaf15fde240e41c8dae2d1cc76be61d910a6ec4873bb7"), looks := true }, kinds := [], alts := [], laidByText := true, laidKinds := [.data, .data, .data, .sentinel, .sentinel], laidTests := true, laidLooks := .later }
def NameEndlessCardSaid : Prop := Claim7.holds Tryz.pinned (.plain (OpenSpec.ofChange nameEndlessSpec)) nameEndlessCard

/-- THE TIED CARD OF 'sleuthlaw9.NameMore'. -/
def nameMoreCard : Claim7 := { stood := { row := nameMoreRow, standIns := [], harness := (true, "d74be31c9d6a7ec97edcaf15fde240e41c8dae2d1cc76be61d910a6ec4873bb7"), looks := true }, kinds := [], alts := [], laidByText := true, laidKinds := [.data, .data, .data, .sentinel, .sentinel], laidTests := true, laidLooks := .later }
def NameMoreCardSaid : Prop := Claim7.holds Tryz.pinned (.plain (OpenSpec.ofChange nameMoreSpec)) nameMoreCard

/-- THE TIED CARD OF 'sleuthlaw9.NameFilled'. -/
def nameFilledCard : Claim7 := { stood := { row := nameFilledRow, standIns := [], harness := (true, "d74be31c9d6a7ec97edcaf15fde240e41c8dae2d1cc76be61d910a6ec4873bb7"), looks := true }, kinds := [], alts := [], laidByText := true, laidKinds := [.data, .data, .data, .sentinel, .sentinel], laidTests := true, laidLooks := .later }
def NameFilledCardSaid : Prop := Claim7.holds Tryz.pinned (.plain (OpenSpec.ofChange nameFilledSpec)) nameFilledCard

/-- THE TIED CARD OF 'sleuthlaw9.NameArgs'. -/
def nameArgsCard : Claim7 := { stood := { row := nameArgsRow, standIns := [], harness := (true, "d74be31c9d6a7ec97edcaf15fde240e41c8dae2d1cc76be61d910a6ec4873bb7"), looks := true }, kinds := [], alts := [], laidByText := true, laidKinds := [.data, .data, .data, .sentinel, .sentinel], laidTests := true, laidLooks := .later }
def NameArgsCardSaid : Prop := Claim7.holds Tryz.pinned (.plain (OpenSpec.ofChange nameArgsSpec)) nameArgsCard

/-- THE SECOND FORM's CARD OF 'sleuthlaw9.Heads'. -/
def headsUptoCard : Claim7 := { stood := { row := headsUptoRow, standIns := [], harness := (true, "d74be31c9d6a7ec97edcaf15fde240e41c8dae2d1cc76be61d910a6ec4873bb7"), looks := true }, kinds := [], alts := [], laidByText := true, laidKinds := [.data, .data, .data, .sentinel, .sentinel], laidTests := true, laidLooks := .later }
def HeadsUptoCardSaid : Prop := Claim7.holds Tryz.pinned (.plain (OpenSpec.upto headsSpec)) headsUptoCard

/-- THE SECOND FORM's CARD OF 'sleuthlaw9.NameEndless'. -/
def nameEndlessUptoCard : Claim7 := { stood := { row := nameEndlessUptoRow, standIns := [], harness := (true, "d74be31c9d6a7ec97edcaf15fde240e41c8dae2d1cc76be61d910a6ec4873bb7"), looks := true }, kinds := [], alts := [], laidByText := true, laidKinds := [.data, .data, .data, .sentinel, .sentinel], laidTests := true, laidLooks := .later }
def NameEndlessUptoCardSaid : Prop := Claim7.holds Tryz.pinned (.plain (OpenSpec.upto nameEndlessSpec)) nameEndlessUptoCard

/-- THE SECOND FORM's CARD OF 'sleuthlaw9.NameMore'. -/
def nameMoreUptoCard : Claim7 := { stood := { row := nameMoreUptoRow, standIns := [], harness := (true, "d74be31c9d6a7ec97edcaf15fde240e41c8dae2d1cc76be61d910a6ec4873bb7"), looks := true }, kinds := [], alts := [], laidByText := true, laidKinds := [.data, .data, .data, .sentinel, .sentinel], laidTests := true, laidLooks := .later }
def NameMoreUptoCardSaid : Prop := Claim7.holds Tryz.pinned (.plain (OpenSpec.upto nameMoreSpec)) nameMoreUptoCard

/-- THE SECOND FORM's CARD OF 'sleuthlaw9.NameFilled'. -/
def nameFilledUptoCard : Claim7 := { stood := { row := nameFilledUptoRow, standIns := [], harness := (true, "d74be31c9d6a7ec97edcaf15fde240e41c8dae2d1cc76be61d910a6ec4873bb7"), looks := true }, kinds := [], alts := [], laidByText := true, laidKinds := [.data, .data, .data, .sentinel, .sentinel], laidTests := true, laidLooks := .later }
def NameFilledUptoCardSaid : Prop := Claim7.holds Tryz.pinned (.plain (OpenSpec.upto nameFilledSpec)) nameFilledUptoCard

/-- THE SECOND FORM's CARD OF 'sleuthlaw9.NameArgs'. -/
def nameArgsUptoCard : Claim7 := { stood := { row := nameArgsUptoRow, standIns := [], harness := (true, "d74be31c9d6a7ec97edcaf15fde240e41c8dae2d1cc76be61d910a6ec4873bb7"), looks := true }, kinds := [], alts := [], laidByText := true, laidKinds := [.data, .data, .data, .sentinel, .sentinel], laidTests := true, laidLooks := .later }
def NameArgsUptoCardSaid : Prop := Claim7.holds Tryz.pinned (.plain (OpenSpec.upto nameArgsSpec)) nameArgsUptoCard
end Rows
end Go.Proofs.YtokaabdbaodimaaGreatDoor
