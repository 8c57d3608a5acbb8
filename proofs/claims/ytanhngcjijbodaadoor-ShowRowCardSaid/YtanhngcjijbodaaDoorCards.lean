/-
  DERIVED. GIVEN WITH THE SEED: THE CARDS: each row of YtanhngcjijbodaaDoorRows.lean that lists a variable, with what it lists TIED to the program's text (the seventh form; the later family's looks); each row that meets fmt, with fmt's text TOLD by the authors' own Lean function (tested against real Go, not proved from fmt's source: count such statements apart). THE CARD IS WHAT COUNTS. Prove the row's statement (the work); the ties are given (YtanhngcjijbodaaDoorTie.lean); close each card by the builder's one call (the guide's Derived/Test/ToyasCard.lean, 'card_holds'). Laid BY PROGRAM, IN A SANDBOX (cutbox-door.mjs). By AI agents, Wed Nov 11 2026. No macro, syntax, notation, axiom, sorry.
-/
import Derived.Test.YtanhngcjijbodaaDoorRows
import GoSem.ClaimSeven
namespace Go.Proofs.YtanhngcjijbodaaDoor
namespace Rows

/-- THE TIED CARD OF 'sleuthlaw8.Shows'. -/
def showsCard : Claim7 := { stood := { row := showsRow, standIns := [], harness := (true, "9e520690f79c1fa26510ba0ba854895640baae2681f800a081831da91beb0322"), looks := false }, kinds := [], alts := [], laidByText := true, laidKinds := [.data, .data, .data, .data, .pinned], laidTests := true, laidLooks := .later }
def ShowsCardSaid : Prop := Claim7.holds Tryd.pinned (.plain (OpenSpec.ofChange showsSpec)) showsCard

/-- THE TIED CARD OF 'sleuthlaw8.ShowRow'. -/
def showRowCard : Claim7 := { stood := { row := showRowRow, standIns := [], harness := (true, "9e520690f79c1fa26510ba0ba854895640baae2681f800a081831da91beb0322"), looks := false }, kinds := [], alts := [], laidByText := true, laidKinds := [.data, .data, .data, .data, .pinned], laidTests := true, laidLooks := .later }
def ShowRowCardSaid : Prop := Claim7.holds Tryd.pinned (.plain (OpenSpec.ofChange showRowSpec)) showRowCard

/-- THE SECOND FORM's CARD OF 'sleuthlaw8.Shows'. -/
def showsUptoCard : Claim7 := { stood := { row := showsUptoRow, standIns := [], harness := (true, "9e520690f79c1fa26510ba0ba854895640baae2681f800a081831da91beb0322"), looks := false }, kinds := [], alts := [], laidByText := true, laidKinds := [.data, .data, .data, .data, .pinned], laidTests := true, laidLooks := .later }
def ShowsUptoCardSaid : Prop := Claim7.holds Tryd.pinned (.plain (OpenSpec.upto showsSpec)) showsUptoCard

/-- THE SECOND FORM's CARD OF 'sleuthlaw8.ShowRow'. -/
def showRowUptoCard : Claim7 := { stood := { row := showRowUptoRow, standIns := [], harness := (true, "9e520690f79c1fa26510ba0ba854895640baae2681f800a081831da91beb0322"), looks := false }, kinds := [], alts := [], laidByText := true, laidKinds := [.data, .data, .data, .data, .pinned], laidTests := true, laidLooks := .later }
def ShowRowUptoCardSaid : Prop := Claim7.holds Tryd.pinned (.plain (OpenSpec.upto showRowSpec)) showRowUptoCard
end Rows
end Go.Proofs.YtanhngcjijbodaaDoor
