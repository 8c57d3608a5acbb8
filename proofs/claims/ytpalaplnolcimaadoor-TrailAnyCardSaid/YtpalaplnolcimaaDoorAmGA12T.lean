/- Functions of the program, as the abstract machine has them. -/
import Derived.Test.YtpalaplnolcimaaDoorAmJc
namespace Am.T
open Go
/- sleuth/sleuthlaw12.awake -/
def s259 : SFn := .src 60 [0, 1, 2, 3, 4, 5, 6, 7] [.tmp 0] <|
 .seq (.reg [
  .set 0 (.op (some 0) .mov [(.k (.bool false))])]) <|
 .seq (.reg [
  .set 5 (.op (some 5) (.call 260) []),
  .set 6 (.op (some 6) (.call 260) []),
  .set 7 (.op (some 7) (.call 260) []),
  .set 1 (.op (some 1) .mov [(.v 5 none)]),
  .set 2 (.op (some 2) .mov [(.v 6 none)]),
  .set 3 (.op (some 3) .mov [(.v 7 none)])]) <|
 .seq (.reg [
  .ef (.op none (.store 1) [(.op (some 10) (.fadr 1) [(.op (some 9) (.iadr 4) [(.v 1 (some 8)), (.k (.int .i64 1))])]), (.k (.int .i64 1))])]) <|
 .seq (.reg [
  .ef (.op none (.store 1) [(.op (some 13) (.fadr 3) [(.op (some 12) (.iadr 4) [(.v 2 (some 11)), (.k (.int .i64 2))])]), (.k (.str [63]))])]) <|
 .seq (.reg [
  .ef (.op none (.store 1) [(.op (some 16) (.fadr 1) [(.op (some 15) (.iadr 4) [(.v 3 (some 14)), (.k (.int .i64 0))])]), (.k (.int .i64 0))])]) <|
 .seq (.reg [
  .set 4 (.op (some 4) .mov [(.op (some 20) (.bslice 0 [(.int .i64 0), (.int .i64 0), .nils, (.str []), (.int .i64 0), (.int .i64 0), .nils, (.str [])] 2 [(0, 4), (4, 4)]) [(.op (some 17) (.build [(.int .i64 0), (.int .i64 0), .nils, (.str [])] [(1, 1), (3, 1)]) [(.k (.int .i64 (-1))), (.k (.str [57]))]), (.op (some 19) (.build [(.int .i64 0), (.int .i64 0), .nils, (.str [])] [(0, 1), (2, 1), (3, 1)]) [(.k (.int .i64 1)), (.op (some 18) (.bslice 0 [(.str []), (.str [])] 2 [(0, 1), (1, 1)]) [(.k (.str [64, 55, 40, 95, 32, 52, 41])), (.k (.str [53]))]), (.k (.str [57]))])])])]) <|
 .seq (.reg [
  .set 0 (.op (some 0) .mov [(.and 56 59 (.and 53 55 (.and 47 52 (.and 42 46 (.and 38 41 (.and 33 37 (.and 28 32 (.and 23 27 (.op (some 22) (.call 261) [(.op (some 21) (.call 260) [])]) (.op (some 26) .notB [(.op (some 25) (.call 261) [(.v 1 (some 24))])])) (.op (some 31) .notB [(.op (some 30) (.call 261) [(.v 2 (some 29))])])) (.op (some 36) .notB [(.op (some 35) (.call 261) [(.v 3 (some 34))])])) (.op (some 40) .notB [(.op (some 39) (.call 261) [(.k .nils)])])) (.op (some 45) (.call 262) [(.op (some 43) (.call 263) []), (.v 4 (some 44))])) (.op (some 51) .notB [(.op (some 50) (.call 262) [(.op (some 48) (.call 263) []), (.op (some 49) (.call 260) [])])])) (.op (some 54) (.call 18) [(.k (.str [95]))])) (.op (some 58) (.binI .eql) [(.op (some 57) (.call 16) [(.k (.int .i64 0))]), (.k (.int .i64 0))]))])]) <|
 .ret
end Am.T
