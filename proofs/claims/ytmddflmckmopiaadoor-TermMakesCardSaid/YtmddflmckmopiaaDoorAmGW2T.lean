/- Functions of the program, as the abstract machine has them. -/
import Derived.Test.YtmddflmckmopiaaDoorAmJc
namespace Am.T
open Go
/- sleuth/sleuthlaw2.awake -/
def s21 : SFn := .src 76 [0, 1, 2, 3, 4, 5, 6, 10, 12, 13, 15, 16, 17, 18, 19, 22, 23, 24, 26, 27, 28, 29, 30, 32, 33] [.tmp 0] <|
 .seq (.reg [
  .set 0 (.op (some 0) .mov [(.k (.bool false))])]) <|
 .seq (.reg [
  .set 9 (.op (some 13) .mov [(.op (some 14) (.call 11) [(.k (.str [64, 49, 50, 40, 45, 55, 32, 64, 48, 32, 95, 41]))])]),
  .set 10 (.op (some 15) (.ext 0) [(.v 9 none)]),
  .set 11 (.op (some 16) (.ext 1) [(.v 9 none)]),
  .set 12 (.op (some 17) (.ext 2) [(.v 9 none)]),
  .set 13 (.op (some 18) (.ext 3) [(.v 9 none)]),
  .set 1 (.op (some 1) .mov [(.v 10 none)]),
  .set 2 (.op (some 2) .mov [(.v 11 none)]),
  .set 3 (.op (some 3) .mov [(.v 12 none)]),
  .set 4 (.op (some 4) .mov [(.v 13 none)])]) <|
 .seq (.reg [
  .set 14 (.op (some 19) .mov [(.op (some 21) (.call 13) [(.k (.int .i64 2)), (.k (.int .i64 12)), (.op (some 20) (.bslice 0 [(.str []), (.str []), (.str [])] 3 [(0, 1), (1, 1), (2, 1)]) [(.k (.str [45, 55])), (.k (.str [64, 48])), (.k (.str [95]))])])]),
  .set 15 (.op (some 22) (.ext 0) [(.v 14 none)]),
  .set 16 (.op (some 23) (.ext 1) [(.v 14 none)]),
  .set 5 (.op (some 5) .mov [(.v 15 none)]),
  .set 6 (.op (some 6) .mov [(.v 16 none)])]) <|
 .seq (.reg [
  .set 17 (.op (some 24) .mov [(.op (some 25) (.call 11) [(.k (.str [64, 49, 40, 41]))])]),
  .set 18 (.op (some 26) (.ext 0) [(.v 17 none)]),
  .set 19 (.op (some 27) (.ext 1) [(.v 17 none)]),
  .set 20 (.op (some 28) (.ext 2) [(.v 17 none)]),
  .set 21 (.op (some 29) (.ext 3) [(.v 17 none)]),
  .ef (.v 18 (some 7)),
  .ef (.v 19 (some 8)),
  .ef (.v 20 (some 9)),
  .set 7 (.op (some 10) .mov [(.v 21 none)])]) <|
 .seq (.reg [
  .set 22 (.op (some 30) .mov [(.op (some 31) (.call 13) [(.k (.int .i64 1)), (.k (.int .i64 32768)), (.k .nils)])]),
  .set 23 (.op (some 32) (.ext 0) [(.v 22 none)]),
  .set 24 (.op (some 33) (.ext 1) [(.v 22 none)]),
  .ef (.v 23 (some 11)),
  .set 8 (.op (some 12) .mov [(.v 24 none)])]) <|
 .seq (.reg [
  .set 0 (.op (some 0) .mov [(.and 72 75 (.and 69 71 (.and 64 68 (.and 59 63 (.and 54 58 (.and 50 53 (.and 45 49 (.and 40 44 (.and 36 39 (.op (some 35) (.binI .eql) [(.v 1 (some 34)), (.k (.int .i64 2))]) (.op (some 38) (.binI .eql) [(.v 2 (some 37)), (.k (.int .i64 12))])) (.op (some 43) (.call 15) [(.v 3 (some 41)), (.op (some 42) (.bslice 0 [(.str []), (.str []), (.str [])] 3 [(0, 1), (1, 1), (2, 1)]) [(.k (.str [45, 55])), (.k (.str [64, 48])), (.k (.str [95]))])])) (.op (some 48) (.binI .eql) [(.op (some 47) (.call 16) [(.v 4 (some 46))]), (.k (.int .i64 0))])) (.op (some 52) (.binS .eql) [(.v 5 (some 51)), (.k (.str [64, 49, 50, 40, 45, 55, 32, 64, 48, 32, 95, 41]))])) (.op (some 57) (.binI .eql) [(.op (some 56) (.call 16) [(.v 6 (some 55))]), (.k (.int .i64 0))])) (.op (some 62) (.binI .eql) [(.op (some 61) (.call 16) [(.v 7 (some 60))]), (.k (.int .i64 200))])) (.op (some 67) (.binI .eql) [(.op (some 66) (.call 16) [(.v 8 (some 65))]), (.k (.int .i64 200))])) (.op (some 70) (.call 17) [(.k (.str [33]))])) (.op (some 74) .notB [(.op (some 73) (.call 17) [(.k (.str [48, 49]))])]))])]) <|
 .ret
end Am.T
