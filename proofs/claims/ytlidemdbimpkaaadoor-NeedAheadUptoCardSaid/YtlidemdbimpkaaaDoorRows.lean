/-
  NARROWER THAN 'FOR EVERY INPUT', by the rows' own cells (each row's printed sentence says how): Needs: laid · NeedHolds: laid · NeedTrail: laid · NeedMore: laid · NeedShown: laid · NeedName: laid · NeedOnce: laid · NeedAhead: laid.
  DERIVED. THE GIVEN ROWS OF THIS SEAT. 8 by the template 'for every input the law returns true; each argument reads behind the call as it read before'; 0 by the template 'total and deterministic' (their statements: YtlidemdbimpkaaaDoorTotals.lean).
  GIVEN WITH THE SEED: the statements are not yours to turn. If you find one false, say at which input.
  Laid BY PROGRAM, IN A SANDBOX (cutbox-rows.mjs): the forced cells as the released guide's own fill.sh prints them over the translation 734dc7d03d7b51e9… (all of the seat's roots in one cut). By AI agents, Wed Nov 11 2026. No macro, syntax, notation, axiom, sorry.
-/
import Derived.Test.YtlidemdbimpkaaaDoorChecked
import GoSem.Claim
import GoSem.ClaimJoined
import GoSem.ClaimMapViews
import Derived.JoinedTies
import Derived.KernelRfl
namespace Go.Proofs.YtlidemdbimpkaaaDoor
/- THE CELL 'sum', in the pinned program and in every row, IS THE sha256 OF THE DUMP (.gsa) THAT YtlidemdbimpkaaaDoorProg.lean LOADS. Nothing in Lean hashes anything: it is a label: what it is worth is what the hold of that sum in a sandbox is worth. -/
noncomputable def Tryd.pinned : Pinned := { name := "ytlidemdbimpkaaadoor", sum := "734dc7d03d7b51e9abf4096c11783828e59e3ada7f9c57870e69dbeb20719843", checked := Tryd.checked }
namespace Rows
def none {H : Type} : Left H := { results := [], args := [] }

/- WHAT THE LISTED PACKAGE-LEVEL VARIABLES READ AS WHEN THE CALL BEGINS. Each datum BY PROGRAM (the guide's laid-datum.mjs) off the statement by which the dump's own 'gosem.cut.vars' lays the variable. In a bare row this is a premise. The card (YtlidemdbimpkaaaDoorCards.lean) ties it to the program's text. -/
def laid_math_bits_deBruijn32tab {H : Type} : DataW H := .agg [.lit (.int .u8 0), .lit (.int .u8 1), .lit (.int .u8 28), .lit (.int .u8 2), .lit (.int .u8 29), .lit (.int .u8 14), .lit (.int .u8 24), .lit (.int .u8 3), .lit (.int .u8 30), .lit (.int .u8 22), .lit (.int .u8 20), .lit (.int .u8 15), .lit (.int .u8 25), .lit (.int .u8 17), .lit (.int .u8 4), .lit (.int .u8 8), .lit (.int .u8 31), .lit (.int .u8 27), .lit (.int .u8 13), .lit (.int .u8 23), .lit (.int .u8 21), .lit (.int .u8 19), .lit (.int .u8 16), .lit (.int .u8 7), .lit (.int .u8 26), .lit (.int .u8 12), .lit (.int .u8 18), .lit (.int .u8 6), .lit (.int .u8 11), .lit (.int .u8 5), .lit (.int .u8 10), .lit (.int .u8 9)]
def laid_math_bits_deBruijn64tab {H : Type} : DataW H := .agg [.lit (.int .u8 0), .lit (.int .u8 1), .lit (.int .u8 56), .lit (.int .u8 2), .lit (.int .u8 57), .lit (.int .u8 49), .lit (.int .u8 28), .lit (.int .u8 3), .lit (.int .u8 61), .lit (.int .u8 58), .lit (.int .u8 42), .lit (.int .u8 50), .lit (.int .u8 38), .lit (.int .u8 29), .lit (.int .u8 17), .lit (.int .u8 4), .lit (.int .u8 62), .lit (.int .u8 47), .lit (.int .u8 59), .lit (.int .u8 36), .lit (.int .u8 45), .lit (.int .u8 43), .lit (.int .u8 51), .lit (.int .u8 22), .lit (.int .u8 53), .lit (.int .u8 39), .lit (.int .u8 33), .lit (.int .u8 30), .lit (.int .u8 24), .lit (.int .u8 18), .lit (.int .u8 12), .lit (.int .u8 5), .lit (.int .u8 63), .lit (.int .u8 55), .lit (.int .u8 48), .lit (.int .u8 27), .lit (.int .u8 60), .lit (.int .u8 41), .lit (.int .u8 37), .lit (.int .u8 16), .lit (.int .u8 46), .lit (.int .u8 35), .lit (.int .u8 44), .lit (.int .u8 21), .lit (.int .u8 52), .lit (.int .u8 32), .lit (.int .u8 23), .lit (.int .u8 11), .lit (.int .u8 54), .lit (.int .u8 26), .lit (.int .u8 40), .lit (.int .u8 15), .lit (.int .u8 34), .lit (.int .u8 20), .lit (.int .u8 31), .lit (.int .u8 10), .lit (.int .u8 25), .lit (.int .u8 14), .lit (.int .u8 19), .lit (.int .u8 9), .lit (.int .u8 13), .lit (.int .u8 8), .lit (.int .u8 7), .lit (.int .u8 6)]
def laid_internal_strconv_uint64pow10 {H : Type} : DataW H := .agg [.lit (.int .u64 1), .lit (.int .u64 10), .lit (.int .u64 100), .lit (.int .u64 1000), .lit (.int .u64 10000), .lit (.int .u64 100000), .lit (.int .u64 1000000), .lit (.int .u64 10000000), .lit (.int .u64 100000000), .lit (.int .u64 1000000000), .lit (.int .u64 10000000000), .lit (.int .u64 100000000000), .lit (.int .u64 1000000000000), .lit (.int .u64 10000000000000), .lit (.int .u64 100000000000000), .lit (.int .u64 1000000000000000), .lit (.int .u64 10000000000000000), .lit (.int .u64 100000000000000000), .lit (.int .u64 1000000000000000000), .lit (.int .u64 10000000000000000000)]

/-- 'sleuthlaw11.Needs': WHATEVER THE INPUT: true; the input reads as it did. -/
def needsSpec : ChangeSpec := { name := "needs", fn := fun _ => fun
  | [d1, d2] => { results := [.lit (.bool true)], args := [d1, d2] }
  | _ => none }
def needsRow : OpenClaim := { program := "ytlidemdbimpkaaadoor", sum := "734dc7d03d7b51e9abf4096c11783828e59e3ada7f9c57870e69dbeb20719843", func := "sleuth/sleuthlaw11.Needs", spec := "needs", inPlace := ["internal/abi.NoEscape", "internal/bytealg.MakeNoZero"], unfollowed := true, recurses := true, named := ["internal/strconv.uint64pow10", "math/bits.deBruijn32tab", "math/bits.deBruijn64tab"], apart := false, laid := [("math/bits.deBruijn32tab", laid_math_bits_deBruijn32tab), ("math/bits.deBruijn64tab", laid_math_bits_deBruijn64tab), ("internal/strconv.uint64pow10", laid_internal_strconv_uint64pow10)] }
def NeedsSaid : Prop := needsRow.holds Tryd.pinned (OpenSpec.ofChange needsSpec)

/-- ITS FALSE NEIGHBOUR: 'it returns false'. Refute it at one input. -/
def needsWrong : ChangeSpec := { name := "needs", fn := fun _ => fun
  | [d1, d2] => { results := [.lit (.bool false)], args := [d1, d2] }
  | _ => none }
def NeedsWrongFalsely : Prop := needsRow.holds Tryd.pinned (OpenSpec.ofChange needsWrong)

/-- 'sleuthlaw11.NeedHolds': WHATEVER THE INPUT: true; the input reads as it did. -/
def needHoldsSpec : ChangeSpec := { name := "needHolds", fn := fun _ => fun
  | [d1, d2] => { results := [.lit (.bool true)], args := [d1, d2] }
  | _ => none }
def needHoldsRow : OpenClaim := { program := "ytlidemdbimpkaaadoor", sum := "734dc7d03d7b51e9abf4096c11783828e59e3ada7f9c57870e69dbeb20719843", func := "sleuth/sleuthlaw11.NeedHolds", spec := "needHolds", inPlace := ["internal/abi.NoEscape", "internal/bytealg.MakeNoZero"], unfollowed := true, recurses := true, named := ["internal/strconv.uint64pow10", "math/bits.deBruijn32tab", "math/bits.deBruijn64tab"], apart := false, laid := [("math/bits.deBruijn32tab", laid_math_bits_deBruijn32tab), ("math/bits.deBruijn64tab", laid_math_bits_deBruijn64tab), ("internal/strconv.uint64pow10", laid_internal_strconv_uint64pow10)] }
def NeedHoldsSaid : Prop := needHoldsRow.holds Tryd.pinned (OpenSpec.ofChange needHoldsSpec)

/-- ITS FALSE NEIGHBOUR: 'it returns false'. Refute it at one input. -/
def needHoldsWrong : ChangeSpec := { name := "needHolds", fn := fun _ => fun
  | [d1, d2] => { results := [.lit (.bool false)], args := [d1, d2] }
  | _ => none }
def NeedHoldsWrongFalsely : Prop := needHoldsRow.holds Tryd.pinned (OpenSpec.ofChange needHoldsWrong)

/-- 'sleuthlaw11.NeedTrail': WHATEVER THE INPUT: true; the input reads as it did. -/
def needTrailSpec : ChangeSpec := { name := "needTrail", fn := fun _ => fun
  | [d1, d2] => { results := [.lit (.bool true)], args := [d1, d2] }
  | _ => none }
def needTrailRow : OpenClaim := { program := "ytlidemdbimpkaaadoor", sum := "734dc7d03d7b51e9abf4096c11783828e59e3ada7f9c57870e69dbeb20719843", func := "sleuth/sleuthlaw11.NeedTrail", spec := "needTrail", inPlace := ["internal/abi.NoEscape", "internal/bytealg.MakeNoZero"], unfollowed := true, recurses := true, named := ["internal/strconv.uint64pow10", "math/bits.deBruijn32tab", "math/bits.deBruijn64tab"], apart := false, laid := [("math/bits.deBruijn32tab", laid_math_bits_deBruijn32tab), ("math/bits.deBruijn64tab", laid_math_bits_deBruijn64tab), ("internal/strconv.uint64pow10", laid_internal_strconv_uint64pow10)] }
def NeedTrailSaid : Prop := needTrailRow.holds Tryd.pinned (OpenSpec.ofChange needTrailSpec)

/-- ITS FALSE NEIGHBOUR: 'it returns false'. Refute it at one input. -/
def needTrailWrong : ChangeSpec := { name := "needTrail", fn := fun _ => fun
  | [d1, d2] => { results := [.lit (.bool false)], args := [d1, d2] }
  | _ => none }
def NeedTrailWrongFalsely : Prop := needTrailRow.holds Tryd.pinned (OpenSpec.ofChange needTrailWrong)

/-- 'sleuthlaw11.NeedMore': WHATEVER THE INPUT: true; the input reads as it did. -/
def needMoreSpec : ChangeSpec := { name := "needMore", fn := fun _ => fun
  | [d1, d2, d3] => { results := [.lit (.bool true)], args := [d1, d2, d3] }
  | _ => none }
def needMoreRow : OpenClaim := { program := "ytlidemdbimpkaaadoor", sum := "734dc7d03d7b51e9abf4096c11783828e59e3ada7f9c57870e69dbeb20719843", func := "sleuth/sleuthlaw11.NeedMore", spec := "needMore", inPlace := ["internal/abi.NoEscape", "internal/bytealg.MakeNoZero"], unfollowed := true, recurses := true, named := ["internal/strconv.uint64pow10", "math/bits.deBruijn32tab", "math/bits.deBruijn64tab"], apart := false, laid := [("math/bits.deBruijn32tab", laid_math_bits_deBruijn32tab), ("math/bits.deBruijn64tab", laid_math_bits_deBruijn64tab), ("internal/strconv.uint64pow10", laid_internal_strconv_uint64pow10)] }
def NeedMoreSaid : Prop := needMoreRow.holds Tryd.pinned (OpenSpec.ofChange needMoreSpec)

/-- ITS FALSE NEIGHBOUR: 'it returns false'. Refute it at one input. -/
def needMoreWrong : ChangeSpec := { name := "needMore", fn := fun _ => fun
  | [d1, d2, d3] => { results := [.lit (.bool false)], args := [d1, d2, d3] }
  | _ => none }
def NeedMoreWrongFalsely : Prop := needMoreRow.holds Tryd.pinned (OpenSpec.ofChange needMoreWrong)

/-- 'sleuthlaw11.NeedShown': WHATEVER THE INPUT: true; the input reads as it did. -/
def needShownSpec : ChangeSpec := { name := "needShown", fn := fun _ => fun
  | [d1, d2] => { results := [.lit (.bool true)], args := [d1, d2] }
  | _ => none }
def needShownRow : OpenClaim := { program := "ytlidemdbimpkaaadoor", sum := "734dc7d03d7b51e9abf4096c11783828e59e3ada7f9c57870e69dbeb20719843", func := "sleuth/sleuthlaw11.NeedShown", spec := "needShown", inPlace := ["internal/abi.NoEscape", "internal/bytealg.MakeNoZero"], unfollowed := true, recurses := true, named := ["internal/strconv.uint64pow10", "math/bits.deBruijn32tab", "math/bits.deBruijn64tab"], apart := false, laid := [("math/bits.deBruijn32tab", laid_math_bits_deBruijn32tab), ("math/bits.deBruijn64tab", laid_math_bits_deBruijn64tab), ("internal/strconv.uint64pow10", laid_internal_strconv_uint64pow10)] }
def NeedShownSaid : Prop := needShownRow.holds Tryd.pinned (OpenSpec.ofChange needShownSpec)

/-- ITS FALSE NEIGHBOUR: 'it returns false'. Refute it at one input. -/
def needShownWrong : ChangeSpec := { name := "needShown", fn := fun _ => fun
  | [d1, d2] => { results := [.lit (.bool false)], args := [d1, d2] }
  | _ => none }
def NeedShownWrongFalsely : Prop := needShownRow.holds Tryd.pinned (OpenSpec.ofChange needShownWrong)

/-- 'sleuthlaw11.NeedName': WHATEVER THE INPUT: true; the input reads as it did. -/
def needNameSpec : ChangeSpec := { name := "needName", fn := fun _ => fun
  | [d1, d2] => { results := [.lit (.bool true)], args := [d1, d2] }
  | _ => none }
def needNameRow : OpenClaim := { program := "ytlidemdbimpkaaadoor", sum := "734dc7d03d7b51e9abf4096c11783828e59e3ada7f9c57870e69dbeb20719843", func := "sleuth/sleuthlaw11.NeedName", spec := "needName", inPlace := ["internal/abi.NoEscape", "internal/bytealg.MakeNoZero"], unfollowed := true, recurses := true, named := ["internal/strconv.uint64pow10", "math/bits.deBruijn32tab", "math/bits.deBruijn64tab"], apart := false, laid := [("math/bits.deBruijn32tab", laid_math_bits_deBruijn32tab), ("math/bits.deBruijn64tab", laid_math_bits_deBruijn64tab), ("internal/strconv.uint64pow10", laid_internal_strconv_uint64pow10)] }
def NeedNameSaid : Prop := needNameRow.holds Tryd.pinned (OpenSpec.ofChange needNameSpec)

/-- ITS FALSE NEIGHBOUR: 'it returns false'. Refute it at one input. -/
def needNameWrong : ChangeSpec := { name := "needName", fn := fun _ => fun
  | [d1, d2] => { results := [.lit (.bool false)], args := [d1, d2] }
  | _ => none }
def NeedNameWrongFalsely : Prop := needNameRow.holds Tryd.pinned (OpenSpec.ofChange needNameWrong)

/-- 'sleuthlaw11.NeedOnce': WHATEVER THE INPUT: true; the input reads as it did. -/
def needOnceSpec : ChangeSpec := { name := "needOnce", fn := fun _ => fun
  | [d1, d2, d3] => { results := [.lit (.bool true)], args := [d1, d2, d3] }
  | _ => none }
def needOnceRow : OpenClaim := { program := "ytlidemdbimpkaaadoor", sum := "734dc7d03d7b51e9abf4096c11783828e59e3ada7f9c57870e69dbeb20719843", func := "sleuth/sleuthlaw11.NeedOnce", spec := "needOnce", inPlace := ["internal/abi.NoEscape", "internal/bytealg.MakeNoZero"], unfollowed := true, recurses := true, named := ["internal/strconv.uint64pow10", "math/bits.deBruijn32tab", "math/bits.deBruijn64tab"], apart := false, laid := [("math/bits.deBruijn32tab", laid_math_bits_deBruijn32tab), ("math/bits.deBruijn64tab", laid_math_bits_deBruijn64tab), ("internal/strconv.uint64pow10", laid_internal_strconv_uint64pow10)] }
def NeedOnceSaid : Prop := needOnceRow.holds Tryd.pinned (OpenSpec.ofChange needOnceSpec)

/-- ITS FALSE NEIGHBOUR: 'it returns false'. Refute it at one input. -/
def needOnceWrong : ChangeSpec := { name := "needOnce", fn := fun _ => fun
  | [d1, d2, d3] => { results := [.lit (.bool false)], args := [d1, d2, d3] }
  | _ => none }
def NeedOnceWrongFalsely : Prop := needOnceRow.holds Tryd.pinned (OpenSpec.ofChange needOnceWrong)

/-- 'sleuthlaw11.NeedAhead': WHATEVER THE INPUT: true; the input reads as it did. -/
def needAheadSpec : ChangeSpec := { name := "needAhead", fn := fun _ => fun
  | [d1, d2] => { results := [.lit (.bool true)], args := [d1, d2] }
  | _ => none }
def needAheadRow : OpenClaim := { program := "ytlidemdbimpkaaadoor", sum := "734dc7d03d7b51e9abf4096c11783828e59e3ada7f9c57870e69dbeb20719843", func := "sleuth/sleuthlaw11.NeedAhead", spec := "needAhead", inPlace := ["internal/abi.NoEscape", "internal/bytealg.MakeNoZero"], unfollowed := true, recurses := true, named := ["internal/strconv.uint64pow10", "math/bits.deBruijn32tab", "math/bits.deBruijn64tab"], apart := false, laid := [("math/bits.deBruijn32tab", laid_math_bits_deBruijn32tab), ("math/bits.deBruijn64tab", laid_math_bits_deBruijn64tab), ("internal/strconv.uint64pow10", laid_internal_strconv_uint64pow10)] }
def NeedAheadSaid : Prop := needAheadRow.holds Tryd.pinned (OpenSpec.ofChange needAheadSpec)

/-- ITS FALSE NEIGHBOUR: 'it returns false'. Refute it at one input. -/
def needAheadWrong : ChangeSpec := { name := "needAhead", fn := fun _ => fun
  | [d1, d2] => { results := [.lit (.bool false)], args := [d1, d2] }
  | _ => none }
def NeedAheadWrongFalsely : Prop := needAheadRow.holds Tryd.pinned (OpenSpec.ofChange needAheadWrong)

/- THE SECOND FORM. 'bulk': how many values and letters a reading holds, each counted each time it is reached (what is shared counts as often as it is met; a slice's spare places count too). A statement '..UptoSaid' is the law's where the arguments, and the package variables that the reading takes, are together of bulk at most 1048576: NARROWER than '..Said'. Prove '..Said' where nothing that the law and all that it calls make is longer than what came in: it says more and counts as full. Else prove '..UptoSaid'. A law counts once. -/
mutual
def uptoBulk {H : Type} : DataW H → Nat
  | .lit (.string bytes) => bytes.length + 1
  | .lit _ => 1
  | .nil => 1
  | .ptr d => uptoBulk d + 1
  | .slice elems spare => uptoBulkAll elems + uptoBulkAll spare + 1
  | .agg parts => uptoBulkAll parts + 1
  | .iface _ d => uptoBulk d + 1
  | .map entries => uptoBulkEntries entries + 1
  | .held _ => 1
def uptoBulkAll {H : Type} : List (DataW H) → Nat
  | [] => 0
  | d :: r => uptoBulk d + uptoBulkAll r
def uptoBulkEntries {H : Type} : List (Lit × DataW H) → Nat
  | [] => 0
  | x :: r => uptoBulkEntry x + uptoBulkEntries r
def uptoBulkEntry {H : Type} : Lit × DataW H → Nat
  | (.string bytes, d) => bytes.length + uptoBulk d + 1
  | (_, d) => uptoBulk d + 1
 end
def uptoSmall : (H : Type) → List (DataW H) → Bool := fun _ ds => decide (uptoBulkAll ds ≤ 1048576)
def OpenSpec.upto (s : _root_.Go.ChangeSpec) : _root_.Go.OpenSpec := { _root_.Go.OpenSpec.ofChange s with cond := some uptoSmall }

/-- 'sleuthlaw11.Needs', WHERE WHAT IT READS IS OF BULK AT MOST 1048576: true; the input reads as it did. -/
def needsUptoRow : OpenClaim := { program := "ytlidemdbimpkaaadoor", sum := "734dc7d03d7b51e9abf4096c11783828e59e3ada7f9c57870e69dbeb20719843", func := "sleuth/sleuthlaw11.Needs", spec := "needs", inPlace := ["internal/abi.NoEscape", "internal/bytealg.MakeNoZero"], unfollowed := true, recurses := true, named := ["internal/strconv.uint64pow10", "math/bits.deBruijn32tab", "math/bits.deBruijn64tab"], apart := false, laid := [("math/bits.deBruijn32tab", laid_math_bits_deBruijn32tab), ("math/bits.deBruijn64tab", laid_math_bits_deBruijn64tab), ("internal/strconv.uint64pow10", laid_internal_strconv_uint64pow10)], narrowed := true }
def NeedsUptoSaid : Prop := needsUptoRow.holds Tryd.pinned (OpenSpec.upto needsSpec)

/-- 'sleuthlaw11.NeedHolds', WHERE WHAT IT READS IS OF BULK AT MOST 1048576: true; the input reads as it did. -/
def needHoldsUptoRow : OpenClaim := { program := "ytlidemdbimpkaaadoor", sum := "734dc7d03d7b51e9abf4096c11783828e59e3ada7f9c57870e69dbeb20719843", func := "sleuth/sleuthlaw11.NeedHolds", spec := "needHolds", inPlace := ["internal/abi.NoEscape", "internal/bytealg.MakeNoZero"], unfollowed := true, recurses := true, named := ["internal/strconv.uint64pow10", "math/bits.deBruijn32tab", "math/bits.deBruijn64tab"], apart := false, laid := [("math/bits.deBruijn32tab", laid_math_bits_deBruijn32tab), ("math/bits.deBruijn64tab", laid_math_bits_deBruijn64tab), ("internal/strconv.uint64pow10", laid_internal_strconv_uint64pow10)], narrowed := true }
def NeedHoldsUptoSaid : Prop := needHoldsUptoRow.holds Tryd.pinned (OpenSpec.upto needHoldsSpec)

/-- 'sleuthlaw11.NeedTrail', WHERE WHAT IT READS IS OF BULK AT MOST 1048576: true; the input reads as it did. -/
def needTrailUptoRow : OpenClaim := { program := "ytlidemdbimpkaaadoor", sum := "734dc7d03d7b51e9abf4096c11783828e59e3ada7f9c57870e69dbeb20719843", func := "sleuth/sleuthlaw11.NeedTrail", spec := "needTrail", inPlace := ["internal/abi.NoEscape", "internal/bytealg.MakeNoZero"], unfollowed := true, recurses := true, named := ["internal/strconv.uint64pow10", "math/bits.deBruijn32tab", "math/bits.deBruijn64tab"], apart := false, laid := [("math/bits.deBruijn32tab", laid_math_bits_deBruijn32tab), ("math/bits.deBruijn64tab", laid_math_bits_deBruijn64tab), ("internal/strconv.uint64pow10", laid_internal_strconv_uint64pow10)], narrowed := true }
def NeedTrailUptoSaid : Prop := needTrailUptoRow.holds Tryd.pinned (OpenSpec.upto needTrailSpec)

/-- 'sleuthlaw11.NeedMore', WHERE WHAT IT READS IS OF BULK AT MOST 1048576: true; the input reads as it did. -/
def needMoreUptoRow : OpenClaim := { program := "ytlidemdbimpkaaadoor", sum := "734dc7d03d7b51e9abf4096c11783828e59e3ada7f9c57870e69dbeb20719843", func := "sleuth/sleuthlaw11.NeedMore", spec := "needMore", inPlace := ["internal/abi.NoEscape", "internal/bytealg.MakeNoZero"], unfollowed := true, recurses := true, named := ["internal/strconv.uint64pow10", "math/bits.deBruijn32tab", "math/bits.deBruijn64tab"], apart := false, laid := [("math/bits.deBruijn32tab", laid_math_bits_deBruijn32tab), ("math/bits.deBruijn64tab", laid_math_bits_deBruijn64tab), ("internal/strconv.uint64pow10", laid_internal_strconv_uint64pow10)], narrowed := true }
def NeedMoreUptoSaid : Prop := needMoreUptoRow.holds Tryd.pinned (OpenSpec.upto needMoreSpec)

/-- 'sleuthlaw11.NeedShown', WHERE WHAT IT READS IS OF BULK AT MOST 1048576: true; the input reads as it did. -/
def needShownUptoRow : OpenClaim := { program := "ytlidemdbimpkaaadoor", sum := "734dc7d03d7b51e9abf4096c11783828e59e3ada7f9c57870e69dbeb20719843", func := "sleuth/sleuthlaw11.NeedShown", spec := "needShown", inPlace := ["internal/abi.NoEscape", "internal/bytealg.MakeNoZero"], unfollowed := true, recurses := true, named := ["internal/strconv.uint64pow10", "math/bits.deBruijn32tab", "math/bits.deBruijn64tab"], apart := false, laid := [("math/bits.deBruijn32tab", laid_math_bits_deBruijn32tab), ("math/bits.deBruijn64tab", laid_math_bits_deBruijn64tab), ("internal/strconv.uint64pow10", laid_internal_strconv_uint64pow10)], narrowed := true }
def NeedShownUptoSaid : Prop := needShownUptoRow.holds Tryd.pinned (OpenSpec.upto needShownSpec)

/-- 'sleuthlaw11.NeedName', WHERE WHAT IT READS IS OF BULK AT MOST 1048576: true; the input reads as it did. -/
def needNameUptoRow : OpenClaim := { program := "ytlidemdbimpkaaadoor", sum := "734dc7d03d7b51e9abf4096c11783828e59e3ada7f9c57870e69dbeb20719843", func := "sleuth/sleuthlaw11.NeedName", spec := "needName", inPlace := ["internal/abi.NoEscape", "internal/bytealg.MakeNoZero"], unfollowed := true, recurses := true, named := ["internal/strconv.uint64pow10", "math/bits.deBruijn32tab", "math/bits.deBruijn64tab"], apart := false, laid := [("math/bits.deBruijn32tab", laid_math_bits_deBruijn32tab), ("math/bits.deBruijn64tab", laid_math_bits_deBruijn64tab), ("internal/strconv.uint64pow10", laid_internal_strconv_uint64pow10)], narrowed := true }
def NeedNameUptoSaid : Prop := needNameUptoRow.holds Tryd.pinned (OpenSpec.upto needNameSpec)

/-- 'sleuthlaw11.NeedOnce', WHERE WHAT IT READS IS OF BULK AT MOST 1048576: true; the input reads as it did. -/
def needOnceUptoRow : OpenClaim := { program := "ytlidemdbimpkaaadoor", sum := "734dc7d03d7b51e9abf4096c11783828e59e3ada7f9c57870e69dbeb20719843", func := "sleuth/sleuthlaw11.NeedOnce", spec := "needOnce", inPlace := ["internal/abi.NoEscape", "internal/bytealg.MakeNoZero"], unfollowed := true, recurses := true, named := ["internal/strconv.uint64pow10", "math/bits.deBruijn32tab", "math/bits.deBruijn64tab"], apart := false, laid := [("math/bits.deBruijn32tab", laid_math_bits_deBruijn32tab), ("math/bits.deBruijn64tab", laid_math_bits_deBruijn64tab), ("internal/strconv.uint64pow10", laid_internal_strconv_uint64pow10)], narrowed := true }
def NeedOnceUptoSaid : Prop := needOnceUptoRow.holds Tryd.pinned (OpenSpec.upto needOnceSpec)

/-- 'sleuthlaw11.NeedAhead', WHERE WHAT IT READS IS OF BULK AT MOST 1048576: true; the input reads as it did. -/
def needAheadUptoRow : OpenClaim := { program := "ytlidemdbimpkaaadoor", sum := "734dc7d03d7b51e9abf4096c11783828e59e3ada7f9c57870e69dbeb20719843", func := "sleuth/sleuthlaw11.NeedAhead", spec := "needAhead", inPlace := ["internal/abi.NoEscape", "internal/bytealg.MakeNoZero"], unfollowed := true, recurses := true, named := ["internal/strconv.uint64pow10", "math/bits.deBruijn32tab", "math/bits.deBruijn64tab"], apart := false, laid := [("math/bits.deBruijn32tab", laid_math_bits_deBruijn32tab), ("math/bits.deBruijn64tab", laid_math_bits_deBruijn64tab), ("internal/strconv.uint64pow10", laid_internal_strconv_uint64pow10)], narrowed := true }
def NeedAheadUptoSaid : Prop := needAheadUptoRow.holds Tryd.pinned (OpenSpec.upto needAheadSpec)

end Rows
end Go.Proofs.YtlidemdbimpkaaaDoor
