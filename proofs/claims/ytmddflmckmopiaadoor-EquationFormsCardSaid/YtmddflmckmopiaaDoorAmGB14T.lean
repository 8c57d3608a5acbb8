/- Functions of the program, as the abstract machine has them. -/
import Derived.Test.YtmddflmckmopiaaDoorAmJc
namespace Am.T
open Go
/- sleuth/equation.Text -/
def s258 : SFn := .src 21 [0, 1, 2, 3, 4] [.tmp 2, .tmp 3] <|
 .seq (.reg [
  .set 1 (.op (some 1) (.box 0) [(.v 0 none)]),
  .set 2 (.op (some 2) .mov [(.k (.str []))]),
  .set 3 (.op (some 3) .mov [(.k (.int .i64 0))])]) <|
 .seq (.ifr [] (.op (some 6) .notB [(.op (some 5) (.call 269) [(.v 1 none)])])
  (.seq (.reg [
   .set 2 (.op (some 2) .mov [(.k (.str []))]),
   .set 3 (.op (some 3) .mov [(.k (.int .i64 1400))])]) <|
  .ret)
  (.skip)) <|
 .seq (.dreg [7, 8, 9, 10, 11, 12, 13, 14] [
  ⟨(some 5), .fadr 0, [.t 1], none⟩,
  ⟨(some 6), .load1, [.t 5], none⟩,
  ⟨(some 7), .call 29, [.t 6], none⟩,
  ⟨(some 8), .binS .add, [.c (.str [102]), .t 7], none⟩,
  ⟨(some 9), .bslice 0 [(.str [])] 1 [(0, 1)], [.t 8], none⟩,
  ⟨(some 10), .fadr 2, [.t 1], none⟩,
  ⟨(some 11), .load1, [.t 10], none⟩,
  ⟨(some 12), .app 0 1 16, [.t 9, .t 11], none⟩,
  ⟨(some 4), .mov, [.t 12], none⟩]
  [.op 0, .op 1, .op 5, .op 6, .op 2, .chk 6, .op 3, .op 4, .chk 6, .op 7, .op 8]) <|
 .seq (.reg [
  .set 2 (.op (some 2) .mov [(.op (some 20) (.call 42) [(.op (some 19) (.app 0 1 16) [(.v 4 (some 15)), (.op (some 18) (.bslice 0 [(.str []), (.str [])] 2 [(0, 1), (1, 1)]) [(.k (.str [61])), (.op (some 17) .load1 [(.op (some 16) (.fadr 3) [(.v 1 none)])])])]), (.k (.str [32]))])]),
  .set 3 (.op (some 3) .mov [(.k (.int .i64 0))])]) <|
 .ret
/- sleuth/trail.Equation -/
def s269 : SFn := .src 37 [0, 2] [.tmp 1] <|
 .seq (.reg [
  .set 1 (.op (some 2) .mov [(.k (.bool false))])]) <|
 .seq (.reg [
  .set 1 (.op (some 2) .mov [(.and 30 36 (.and 23 29 (.and 15 22 (.and 8 14 (.op (some 7) (.binI .geq) [(.op (some 6) .load1 [(.op (some 5) (.fadr 0) [(.op (some 4) .nilCheck [(.v 0 (some 3))])])]), (.k (.int .i64 0))]) (.op (some 13) (.binI .lss) [(.op (some 12) .load1 [(.op (some 11) (.fadr 0) [(.op (some 10) .nilCheck [(.v 0 (some 9))])])]), (.k (.int .i64 8))])) (.op (some 21) (.binI .leq) [(.op (some 20) .lenL [(.op (some 19) .load1 [(.op (some 18) (.fadr 2) [(.op (some 17) .nilCheck [(.v 0 (some 16))])])])]), (.k (.int .i64 3))])) (.op (some 28) (.call 26) [(.op (some 27) .load1 [(.op (some 26) (.fadr 2) [(.op (some 25) .nilCheck [(.v 0 (some 24))])])])])) (.op (some 35) (.call 17) [(.op (some 34) .load1 [(.op (some 33) (.fadr 3) [(.op (some 32) .nilCheck [(.v 0 (some 31))])])])]))])]) <|
 .ret
end Am.T
