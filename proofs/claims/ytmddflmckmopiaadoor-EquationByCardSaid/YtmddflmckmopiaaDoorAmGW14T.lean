/- Functions of the program, as the abstract machine has them. -/
import Derived.Test.YtmddflmckmopiaaDoorAmJc
namespace Am.T
open Go
/- sleuth/sleuthlaw14.awake -/
def s256 : SFn := .src 47 [0, 1, 2, 3, 4, 6, 7, 12, 13, 14, 19, 20, 21, 24, 25] [.tmp 0] <|
 .seq (.reg [
  .set 0 (.op (some 0) .mov [(.k (.bool false))])]) <|
 .seq (.reg [
  .set 6 (.op (some 7) .mov [(.op (some 11) (.call 258) [(.op (some 10) (.loadN 4) [(.op (some 9) (.iadr 4) [(.op (some 8) (.call 257) []), (.k (.int .i64 1))])])])]),
  .set 7 (.op (some 12) (.ext 0) [(.v 6 none)]),
  .set 8 (.op (some 13) (.ext 1) [(.v 6 none)]),
  .set 1 (.op (some 1) .mov [(.v 7 none)]),
  .set 2 (.op (some 2) .mov [(.v 8 none)])]) <|
 .seq (.reg [
  .set 9 (.op (some 14) .mov [(.op (some 18) (.call 258) [(.op (some 17) (.loadN 4) [(.op (some 16) (.iadr 4) [(.op (some 15) (.call 257) []), (.k (.int .i64 0))])])])]),
  .set 10 (.op (some 19) (.ext 0) [(.v 9 none)]),
  .set 11 (.op (some 20) (.ext 1) [(.v 9 none)]),
  .set 3 (.op (some 3) .mov [(.v 10 none)]),
  .set 4 (.op (some 4) .mov [(.v 11 none)])]) <|
 .seq (.reg [
  .set 12 (.op (some 21) .mov [(.op (some 23) (.call 258) [(.op (some 22) (.build [(.int .i64 0), (.int .i64 0), .nils, (.str [])] []) [])])]),
  .set 13 (.op (some 24) (.ext 0) [(.v 12 none)]),
  .set 14 (.op (some 25) (.ext 1) [(.v 12 none)]),
  .ef (.v 13 (some 5)),
  .set 5 (.op (some 6) .mov [(.v 14 none)])]) <|
 .seq (.reg [
  .set 0 (.op (some 0) .mov [(.and 42 46 (.and 37 41 (.and 33 36 (.and 28 32 (.op (some 27) (.binS .eql) [(.v 1 (some 26)), (.k (.str [102, 49, 32, 64, 55, 40, 95, 32, 52, 41, 32, 53, 32, 61, 32, 57]))]) (.op (some 31) (.binI .eql) [(.op (some 30) (.call 16) [(.v 2 (some 29))]), (.k (.int .i64 0))])) (.op (some 35) (.binS .eql) [(.v 3 (some 34)), (.k (.str [102, 48, 32, 61, 32, 57]))])) (.op (some 40) (.binI .eql) [(.op (some 39) (.call 16) [(.v 4 (some 38))]), (.k (.int .i64 0))])) (.op (some 45) (.binI .eql) [(.op (some 44) (.call 16) [(.v 5 (some 43))]), (.k (.int .i64 1400))]))])]) <|
 .ret
end Am.T
