/- Functions of the program, as the abstract machine has them. -/
import Derived.Test.YtnhappodbogoaaaDoorAmJc
namespace Am.T
open Go
/- sleuth/sleuthlaw9.awake -/
def s153 : SFn := .src 87 [0, 1, 2, 3, 4, 5, 6, 8, 10, 12, 13, 16, 17, 18, 22, 23, 24, 28, 29, 30, 34, 35, 36, 39, 40, 41, 45, 46] [.tmp 0] <|
 .seq (.reg [
  .set 0 (.op (some 0) .mov [(.k (.bool false))])]) <|
 .seq (.reg [
  .set 10 (.op (some 13) .mov [(.op (some 15) (.call 155) [(.op (some 14) (.call 154) []), (.k (.int .i64 0)), (.k .nils), (.k (.int .i64 50))])]),
  .set 11 (.op (some 16) (.ext 0) [(.v 10 none)]),
  .set 12 (.op (some 17) (.ext 1) [(.v 10 none)]),
  .set 1 (.op (some 1) .mov [(.v 11 none)]),
  .set 2 (.op (some 2) .mov [(.v 12 none)])]) <|
 .seq (.reg [
  .set 13 (.op (some 18) .mov [(.op (some 21) (.call 155) [(.op (some 19) (.call 154) []), (.k (.int .i64 1)), (.op (some 20) (.bslice 0 [(.str []), (.str [])] 2 [(0, 1), (1, 1)]) [(.k (.str [64, 55, 40, 95, 32, 52, 41])), (.k (.str [53]))]), (.k (.int .i64 50))])]),
  .set 14 (.op (some 22) (.ext 0) [(.v 13 none)]),
  .set 15 (.op (some 23) (.ext 1) [(.v 13 none)]),
  .set 3 (.op (some 3) .mov [(.v 14 none)]),
  .set 4 (.op (some 4) .mov [(.v 15 none)])]) <|
 .seq (.reg [
  .set 16 (.op (some 24) .mov [(.op (some 27) (.call 155) [(.op (some 25) (.call 154) []), (.k (.int .i64 1)), (.op (some 26) (.bslice 0 [(.str []), (.str [])] 2 [(0, 1), (1, 1)]) [(.k (.str [64, 55, 40, 49, 32, 33, 41])), (.k (.str [53]))]), (.k (.int .i64 50))])]),
  .set 17 (.op (some 28) (.ext 0) [(.v 16 none)]),
  .set 18 (.op (some 29) (.ext 1) [(.v 16 none)]),
  .set 5 (.op (some 5) .mov [(.v 17 none)]),
  .set 6 (.op (some 6) .mov [(.v 18 none)])]) <|
 .seq (.reg [
  .set 19 (.op (some 30) .mov [(.op (some 33) (.call 155) [(.op (some 31) (.call 154) []), (.k (.int .i64 1)), (.op (some 32) (.bslice 0 [(.str []), (.str [])] 2 [(0, 1), (1, 1)]) [(.k (.str [95])), (.k (.str [53]))]), (.k (.int .i64 50))])]),
  .set 20 (.op (some 34) (.ext 0) [(.v 19 none)]),
  .set 21 (.op (some 35) (.ext 1) [(.v 19 none)]),
  .ef (.v 20 (some 7)),
  .set 7 (.op (some 8) .mov [(.v 21 none)])]) <|
 .seq (.reg [
  .set 22 (.op (some 36) .mov [(.op (some 38) (.call 155) [(.op (some 37) (.call 154) []), (.k (.int .i64 0)), (.k .nils), (.k (.int .i64 3))])]),
  .set 23 (.op (some 39) (.ext 0) [(.v 22 none)]),
  .set 24 (.op (some 40) (.ext 1) [(.v 22 none)]),
  .ef (.v 23 (some 9)),
  .set 8 (.op (some 10) .mov [(.v 24 none)])]) <|
 .seq (.reg [
  .set 25 (.op (some 41) .mov [(.op (some 44) (.call 155) [(.op (some 42) (.call 154) []), (.k (.int .i64 1)), (.op (some 43) (.bslice 0 [(.str [])] 1 [(0, 1)]) [(.k (.str [53]))]), (.k (.int .i64 50))])]),
  .set 26 (.op (some 45) (.ext 0) [(.v 25 none)]),
  .set 27 (.op (some 46) (.ext 1) [(.v 25 none)]),
  .ef (.v 26 (some 11)),
  .set 9 (.op (some 12) .mov [(.v 27 none)])]) <|
 .seq (.reg [
  .set 0 (.op (some 0) .mov [(.and 82 86 (.and 77 81 (.and 72 76 (.and 67 71 (.and 63 66 (.and 58 62 (.and 54 57 (.and 49 53 (.op (some 48) (.binS .eql) [(.v 1 (some 47)), (.k (.str [57]))]) (.op (some 52) (.binI .eql) [(.op (some 51) (.call 16) [(.v 2 (some 50))]), (.k (.int .i64 0))])) (.op (some 56) (.binS .eql) [(.v 3 (some 55)), (.k (.str [57]))])) (.op (some 61) (.binI .eql) [(.op (some 60) (.call 16) [(.v 4 (some 59))]), (.k (.int .i64 0))])) (.op (some 65) (.binS .eql) [(.v 5 (some 64)), (.k (.str [33]))])) (.op (some 70) (.binI .eql) [(.op (some 69) (.call 16) [(.v 6 (some 68))]), (.k (.int .i64 0))])) (.op (some 75) (.binI .eql) [(.op (some 74) (.call 16) [(.v 7 (some 73))]), (.k (.int .i64 902))])) (.op (some 80) (.binI .eql) [(.op (some 79) (.call 16) [(.v 8 (some 78))]), (.k (.int .i64 901))])) (.op (some 85) (.binI .eql) [(.op (some 84) (.call 16) [(.v 9 (some 83))]), (.k (.int .i64 900))]))])]) <|
 .ret
end Am.T
