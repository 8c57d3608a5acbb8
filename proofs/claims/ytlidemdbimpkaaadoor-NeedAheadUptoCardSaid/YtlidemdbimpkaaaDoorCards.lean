/-
  DERIVED. GIVEN WITH THE SEED: THE CARDS: each row of YtlidemdbimpkaaaDoorRows.lean that lists a variable, with what it lists TIED to the program's text (the seventh form; the later family's looks); each row that meets fmt, with fmt's text TOLD by the authors' own Lean function (tested against real Go, not proved from fmt's source: count such statements apart). THE CARD IS WHAT COUNTS. Prove the row's statement (the work); the ties are given (YtlidemdbimpkaaaDoorTie.lean); close each card by the builder's one call (the guide's Derived/Test/ToyasCard.lean, 'card_holds'). Laid BY PROGRAM, IN A SANDBOX (cutbox-door.mjs). By AI agents, Wed Nov 11 2026. No macro, syntax, notation, axiom, sorry.
-/
import Derived.Test.YtlidemdbimpkaaaDoorRows
import GoSem.ClaimSeven
namespace Go.Proofs.YtlidemdbimpkaaaDoor
namespace Rows

/-- THE TIED CARD OF 'sleuthlaw11.Needs'. -/
def needsCard : Claim7 := { stood := { row := needsRow, standIns := [], harness := (true, "5841b6313dc6dc86da9d3d5769ffbcb9831f9f347a9a7905c3ca874bbffec9fa"), looks := false }, kinds := [], alts := [], laidByText := true, laidKinds := [.data, .data, .data], laidTests := true, laidLooks := .later }
def NeedsCardSaid : Prop := Claim7.holds Tryd.pinned (.plain (OpenSpec.ofChange needsSpec)) needsCard

/-- THE TIED CARD OF 'sleuthlaw11.NeedHolds'. -/
def needHoldsCard : Claim7 := { stood := { row := needHoldsRow, standIns := [], harness := (true, "5841b6313dc6dc86da9d3d5769ffbcb9831f9f347a9a7905c3ca874bbffec9fa"), looks := false }, kinds := [], alts := [], laidByText := true, laidKinds := [.data, .data, .data], laidTests := true, laidLooks := .later }
def NeedHoldsCardSaid : Prop := Claim7.holds Tryd.pinned (.plain (OpenSpec.ofChange needHoldsSpec)) needHoldsCard

/-- THE TIED CARD OF 'sleuthlaw11.NeedTrail'. -/
def needTrailCard : Claim7 := { stood := { row := needTrailRow, standIns := [], harness := (true, "5841b6313dc6dc86da9d3d5769ffbcb9831f9f347a9a7905c3ca874bbffec9fa"), looks := false }, kinds := [], alts := [], laidByText := true, laidKinds := [.data, .data, .data], laidTests := true, laidLooks := .later }
def NeedTrailCardSaid : Prop := Claim7.holds Tryd.pinned (.plain (OpenSpec.ofChange needTrailSpec)) needTrailCard

/-- THE TIED CARD OF 'sleuthlaw11.NeedMore'. -/
def needMoreCard : Claim7 := { stood := { row := needMoreRow, standIns := [], harness := (true, "5841b6313dc6dc86da9d3d5769ffbcb9831f9f347a9a7905c3ca874bbffec9fa"), looks := false }, kinds := [], alts := [], laidByText := true, laidKinds := [.data, .data, .data], laidTests := true, laidLooks := .later }
def NeedMoreCardSaid : Prop := Claim7.holds Tryd.pinned (.plain (OpenSpec.ofChange needMoreSpec)) needMoreCard

/-- THE TIED CARD OF 'sleuthlaw11.NeedShown'. -/
def needShownCard : Claim7 := { stood := { row := needShownRow, standIns := [], harness := (true, "5841b6313dc6dc86da9d3d5769ffbcb9831f9f347a9a7905c3ca874bbffec9fa"), looks := false }, kinds := [], alts := [], laidByText := true, laidKinds := [.data, .data, .data], laidTests := true, laidLooks := .later }
def NeedShownCardSaid : Prop := Claim7.holds Tryd.pinned (.plain (OpenSpec.ofChange needShownSpec)) needShownCard

/-- THE TIED CARD OF 'sleuthlaw11.NeedName'. -/
def needNameCard : Claim7 := { stood := { row := needNameRow, standIns := [], harness := (true, "5841b6313dc6dc86da9d3d5769ffbcb9831f9f347a9a7905c3ca874bbffec9fa"), looks := false }, kinds := [], alts := [], laidByText := true, laidKinds := [.data, .data, .data], laidTests := true, laidLooks := .later }
def NeedNameCardSaid : Prop := Claim7.holds Tryd.pinned (.plain (OpenSpec.ofChange needNameSpec)) needNameCard

/-- THE TIED CARD OF 'sleuthlaw11.NeedOnce'. -/
def needOnceCard : Claim7 := { stood := { row := needOnceRow, standIns := [], harness := (true, "5841b6313dc6dc86da9d3d5769ffbcb9831f9f347a9a7905c3ca874bbffec9fa"), looks := false }, kinds := [], alts := [], laidByText := true, laidKinds := [.data, .data, .data], laidTests := true, laidLooks := .later }
def NeedOnceCardSaid : Prop := Claim7.holds Tryd.pinned (.plain (OpenSpec.ofChange needOnceSpec)) needOnceCard

/-- THE TIED CARD OF 'sleuthlaw11.NeedAhead'. -/
def needAheadCard : Claim7 := { stood := { row := needAheadRow, standIns := [], harness := (true, "5841b6313dc6dc86da9d3d5769ffbcb9831f9f347a9a7905c3ca874bbffec9fa"), looks := false }, kinds := [], alts := [], laidByText := true, laidKinds := [.data, .data, .data], laidTests := true, laidLooks := .later }
def NeedAheadCardSaid : Prop := Claim7.holds Tryd.pinned (.plain (OpenSpec.ofChange needAheadSpec)) needAheadCard

/-- THE SECOND FORM's CARD OF 'sleuthlaw11.Needs'. -/
def needsUptoCard : Claim7 := { stood := { row := needsUptoRow, standIns := [], harness := (true, "5841b6313dc6dc86da9d3d5769ffbcb9831f9f347a9a7905c3ca874bbffec9fa"), looks := false }, kinds := [], alts := [], laidByText := true, laidKinds := [.data, .data, .data], laidTests := true, laidLooks := .later }
def NeedsUptoCardSaid : Prop := Claim7.holds Tryd.pinned (.plain (OpenSpec.upto needsSpec)) needsUptoCard

/-- THE SECOND FORM's CARD OF 'sleuthlaw11.NeedHolds'. -/
def needHoldsUptoCard : Claim7 := { stood := { row := needHoldsUptoRow, standIns := [], harness := (true, "5841b6313dc6dc86da9d3d5769ffbcb9831f9f347a9a7905c3ca874bbffec9fa"), looks := false }, kinds := [], alts := [], laidByText := true, laidKinds := [.data, .data, .data], laidTests := true, laidLooks := .later }
def NeedHoldsUptoCardSaid : Prop := Claim7.holds Tryd.pinned (.plain (OpenSpec.upto needHoldsSpec)) needHoldsUptoCard

/-- THE SECOND FORM's CARD OF 'sleuthlaw11.NeedTrail'. -/
def needTrailUptoCard : Claim7 := { stood := { row := needTrailUptoRow, standIns := [], harness := (true, "5841b6313dc6dc86da9d3d5769ffbcb9831f9f347a9a7905c3ca874bbffec9fa"), looks := false }, kinds := [], alts := [], laidByText := true, laidKinds := [.data, .data, .data], laidTests := true, laidLooks := .later }
def NeedTrailUptoCardSaid : Prop := Claim7.holds Tryd.pinned (.plain (OpenSpec.upto needTrailSpec)) needTrailUptoCard

/-- THE SECOND FORM's CARD OF 'sleuthlaw11.NeedMore'. -/
def needMoreUptoCard : Claim7 := { stood := { row := needMoreUptoRow, standIns := [], harness := (true, "5841b6313dc6dc86da9d3d5769ffbcb9831f9f347a9a7905c3ca874bbffec9fa"), looks := false }, kinds := [], alts := [], laidByText := true, laidKinds := [.data, .data, .data], laidTests := true, laidLooks := .later }
def NeedMoreUptoCardSaid : Prop := Claim7.holds Tryd.pinned (.plain (OpenSpec.upto needMoreSpec)) needMoreUptoCard

/-- THE SECOND FORM's CARD OF 'sleuthlaw11.NeedShown'. -/
def needShownUptoCard : Claim7 := { stood := { row := needShownUptoRow, standIns := [], harness := (true, "5841b6313dc6dc86da9d3d5769ffbcb9831f9f347a9a7905c3ca874bbffec9fa"), looks := false }, kinds := [], alts := [], laidByText := true, laidKinds := [.data, .data, .data], laidTests := true, laidLooks := .later }
def NeedShownUptoCardSaid : Prop := Claim7.holds Tryd.pinned (.plain (OpenSpec.upto needShownSpec)) needShownUptoCard

/-- THE SECOND FORM's CARD OF 'sleuthlaw11.NeedName'. -/
def needNameUptoCard : Claim7 := { stood := { row := needNameUptoRow, standIns := [], harness := (true, "5841b6313dc6dc86da9d3d5769ffbcb9831f9f347a9a7905c3ca874bbffec9fa"), looks := false }, kinds := [], alts := [], laidByText := true, laidKinds := [.data, .data, .data], laidTests := true, laidLooks := .later }
def NeedNameUptoCardSaid : Prop := Claim7.holds Tryd.pinned (.plain (OpenSpec.upto needNameSpec)) needNameUptoCard

/-- THE SECOND FORM's CARD OF 'sleuthlaw11.NeedOnce'. -/
def needOnceUptoCard : Claim7 := { stood := { row := needOnceUptoRow, standIns := [], harness := (true, "5841b6313dc6dc86da9d3d5769ffbcb9831f9f347a9a7905c3ca874bbffec9fa"), looks := false }, kinds := [], alts := [], laidByText := true, laidKinds := [.data, .data, .data], laidTests := true, laidLooks := .later }
def NeedOnceUptoCardSaid : Prop := Claim7.holds Tryd.pinned (.plain (OpenSpec.upto needOnceSpec)) needOnceUptoCard

/-- THE SECOND FORM's CARD OF 'sleuthlaw11.NeedAhead'. -/
def needAheadUptoCard : Claim7 := { stood := { row := needAheadUptoRow, standIns := [], harness := (true, "5841b6313dc6dc86da9d3d5769ffbcb9831f9f347a9a7905c3ca874bbffec9fa"), looks := false }, kinds := [], alts := [], laidByText := true, laidKinds := [.data, .data, .data], laidTests := true, laidLooks := .later }
def NeedAheadUptoCardSaid : Prop := Claim7.holds Tryd.pinned (.plain (OpenSpec.upto needAheadSpec)) needAheadUptoCard
end Rows
end Go.Proofs.YtlidemdbimpkaaaDoor
