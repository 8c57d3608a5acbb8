/- Functions of the program, as the abstract machine has them. -/
import Derived.Test.YtmddflmckmopiaaDoorAmJc
namespace Am.T
open Go
/- sleuth/sleuthlaw10.awake -/
def s150 : SFn := .src 78 [0, 1, 2, 3, 4, 5, 6, 8, 10, 11, 16, 17, 18, 23, 24, 25, 30, 31, 32, 37, 38, 39, 43, 44] [.tmp 0] <|
 .seq (.reg [
  .set 0 (.op (some 0) .mov [(.k (.bool false))])]) <|
 .seq (.reg [
  .set 9 (.op (some 11) .mov [(.op (some 15) (.call 152) [(.op (some 12) (.call 151) []), (.op (some 14) (.build [(.int .i64 0), (.int .i64 0), .nils, (.str [])] [(0, 1), (2, 1), (3, 1)]) [(.k (.int .i64 1)), (.op (some 13) (.bslice 0 [(.str []), (.str [])] 2 [(0, 1), (1, 1)]) [(.k (.str [64, 55, 40, 95, 32, 52, 41])), (.k (.str [53]))]), (.k (.str [57]))]), (.k (.int .i64 50))])]),
  .set 10 (.op (some 16) (.ext 0) [(.v 9 none)]),
  .set 11 (.op (some 17) (.ext 1) [(.v 9 none)]),
  .set 1 (.op (some 1) .mov [(.v 10 none)]),
  .set 2 (.op (some 2) .mov [(.v 11 none)])]) <|
 .seq (.reg [
  .set 12 (.op (some 18) .mov [(.op (some 22) (.call 152) [(.op (some 19) (.call 151) []), (.op (some 21) (.build [(.int .i64 0), (.int .i64 0), .nils, (.str [])] [(0, 1), (2, 1), (3, 1)]) [(.k (.int .i64 1)), (.op (some 20) (.bslice 0 [(.str []), (.str [])] 2 [(0, 1), (1, 1)]) [(.k (.str [64, 55, 40, 95, 32, 95, 41])), (.k (.str [53]))]), (.k (.str [57]))]), (.k (.int .i64 50))])]),
  .set 13 (.op (some 23) (.ext 0) [(.v 12 none)]),
  .set 14 (.op (some 24) (.ext 1) [(.v 12 none)]),
  .set 3 (.op (some 3) .mov [(.v 13 none)]),
  .set 4 (.op (some 4) .mov [(.v 14 none)])]) <|
 .seq (.reg [
  .set 15 (.op (some 25) .mov [(.op (some 29) (.call 152) [(.op (some 26) (.call 151) []), (.op (some 28) (.build [(.int .i64 0), (.int .i64 0), .nils, (.str [])] [(0, 1), (2, 1), (3, 1)]) [(.k (.int .i64 1)), (.op (some 27) (.bslice 0 [(.str []), (.str [])] 2 [(0, 1), (1, 1)]) [(.k (.str [33])), (.k (.str [53]))]), (.k (.str [33]))]), (.k (.int .i64 50))])]),
  .set 16 (.op (some 30) (.ext 0) [(.v 15 none)]),
  .set 17 (.op (some 31) (.ext 1) [(.v 15 none)]),
  .set 5 (.op (some 5) .mov [(.v 16 none)]),
  .set 6 (.op (some 6) .mov [(.v 17 none)])]) <|
 .seq (.reg [
  .set 18 (.op (some 32) .mov [(.op (some 36) (.call 152) [(.op (some 33) (.call 151) []), (.op (some 35) (.build [(.int .i64 0), (.int .i64 0), .nils, (.str [])] [(0, 1), (2, 1), (3, 1)]) [(.k (.int .i64 1)), (.op (some 34) (.bslice 0 [(.str []), (.str [])] 2 [(0, 1), (1, 1)]) [(.k (.str [51])), (.k (.str [53]))]), (.k (.str [56]))]), (.k (.int .i64 2))])]),
  .set 19 (.op (some 37) (.ext 0) [(.v 18 none)]),
  .set 20 (.op (some 38) (.ext 1) [(.v 18 none)]),
  .ef (.v 19 (some 7)),
  .set 7 (.op (some 8) .mov [(.v 20 none)])]) <|
 .seq (.reg [
  .set 21 (.op (some 39) .mov [(.op (some 42) (.call 152) [(.op (some 40) (.call 151) []), (.op (some 41) (.build [(.int .i64 0), (.int .i64 0), .nils, (.str [])] [(0, 1)]) [(.k (.int .i64 2))]), (.k (.int .i64 50))])]),
  .set 22 (.op (some 43) (.ext 0) [(.v 21 none)]),
  .set 23 (.op (some 44) (.ext 1) [(.v 21 none)]),
  .ef (.v 22 (some 9)),
  .set 8 (.op (some 10) .mov [(.v 23 none)])]) <|
 .seq (.reg [
  .set 0 (.op (some 0) .mov [(.and 73 77 (.and 68 72 (.and 63 67 (.and 60 62 (.and 55 59 (.and 51 54 (.and 46 50 (.v 1 (some 45)) (.op (some 49) (.binI .eql) [(.op (some 48) (.call 16) [(.v 2 (some 47))]), (.k (.int .i64 0))])) (.op (some 53) .notB [(.v 3 (some 52))])) (.op (some 58) (.binI .eql) [(.op (some 57) (.call 16) [(.v 4 (some 56))]), (.k (.int .i64 0))])) (.v 5 (some 61))) (.op (some 66) (.binI .eql) [(.op (some 65) (.call 16) [(.v 6 (some 64))]), (.k (.int .i64 0))])) (.op (some 71) (.binI .eql) [(.op (some 70) (.call 16) [(.v 7 (some 69))]), (.k (.int .i64 1001))])) (.op (some 76) (.binI .eql) [(.op (some 75) (.call 16) [(.v 8 (some 74))]), (.k (.int .i64 1000))]))])]) <|
 .ret
end Am.T
