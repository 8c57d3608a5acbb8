/- Functions of the program, as the abstract machine has them. -/
import Derived.Test.YtmddflmckmopiaaDoorAmJc
namespace Am.T
open Go
/- sleuth/sleuthlaw2.TermForms -/
def s5 : SFn := .src 43 [0, 2, 3, 4, 5, 6, 7, 15, 18, 19, 20, 21] [.tmp 1] <|
 .seq (.reg [
  .set 1 (.op (some 2) .mov [(.k (.bool false))])]) <|
 .seq (.ifr [] (.op (some 9) .notB [(.op (some 8) (.call 21) [])])
  (.seq (.reg [
   .set 1 (.op (some 2) .mov [(.k (.bool false))])]) <|
  .ret)
  (.skip)) <|
 .seq (.reg [
  .set 2 (.op (some 3) .mov [(.op (some 14) .load1 [(.op (some 13) (.iadr 1) [(.op (some 10) (.bslice 0 [(.str []), (.str []), (.str []), (.str []), (.str []), (.str []), (.str []), (.str []), (.str []), (.str []), (.str []), (.str []), (.str []), (.str []), (.str []), (.str []), (.str []), (.str []), (.str []), (.str []), (.str []), (.str []), (.str []), (.str []), (.str []), (.str []), (.str []), (.str []), (.str []), (.str []), (.str []), (.str [])] 32 [(0, 1), (1, 1), (2, 1), (3, 1), (4, 1), (5, 1), (6, 1), (7, 1), (8, 1), (9, 1), (10, 1), (11, 1), (12, 1), (13, 1), (14, 1), (15, 1), (16, 1), (17, 1), (18, 1), (19, 1), (20, 1), (21, 1), (22, 1), (23, 1), (24, 1), (25, 1), (26, 1), (27, 1), (28, 1), (29, 1), (30, 1), (31, 1)]) [(.k (.str [])), (.k (.str [32])), (.k (.str [95, 95])), (.k (.str [33, 49])), (.k (.str [48, 49])), (.k (.str [45, 48])), (.k (.str [45, 48, 49])), (.k (.str [43, 49])), (.k (.str [51, 50, 55, 54, 56])), (.k (.str [45, 51, 50, 55, 54, 57])), (.k (.str [57, 57, 57, 57, 57, 57, 57, 57, 57, 57, 57, 57, 57, 57, 57, 57, 57, 57, 57, 57])), (.k (.str [64])), (.k (.str [64, 48, 49])), (.k (.str [64, 49, 48, 48])), (.k (.str [64, 45, 49])), (.k (.str [64, 49, 40, 41])), (.k (.str [64, 49, 40, 49])), (.k (.str [64, 49, 40, 49, 32, 41])), (.k (.str [64, 49, 40, 32, 49, 41])), (.k (.str [64, 49, 40, 49, 32, 32, 50, 41])), (.k (.str [64, 49, 40, 49, 44, 50, 41])), (.k (.str [64, 49, 40, 49, 32, 50, 32, 51, 32, 52, 41])), (.k (.str [64, 49, 40, 49, 41, 120])), (.k (.str [64, 49, 32, 40, 49, 41])), (.k (.str [40, 49, 41])), (.k (.str [64, 49, 40, 64, 41])), (.k (.str [64, 49, 40, 48, 49, 41])), (.k (.str [49, 32])), (.k (.str [95, 32])), (.k (.str [64, 49, 40, 95, 33, 41])), (.k (.str [120])), (.k (.str [64, 49, 40, 49, 41, 41]))]), (.op (some 12) (.binI .and) [(.v 0 (some 11)), (.k (.int .i64 31))])])])])]) <|
 .seq (.reg [
  .set 7 (.op (some 15) .mov [(.op (some 17) (.call 11) [(.v 2 (some 16))])]),
  .set 8 (.op (some 18) (.ext 0) [(.v 7 none)]),
  .set 9 (.op (some 19) (.ext 1) [(.v 7 none)]),
  .set 10 (.op (some 20) (.ext 2) [(.v 7 none)]),
  .set 11 (.op (some 21) (.ext 3) [(.v 7 none)]),
  .set 3 (.op (some 4) .mov [(.v 8 none)]),
  .set 4 (.op (some 5) .mov [(.v 9 none)]),
  .set 5 (.op (some 6) .mov [(.v 10 none)]),
  .set 6 (.op (some 7) .mov [(.v 11 none)])]) <|
 .seq (.reg [
  .set 1 (.op (some 2) .mov [(.and 38 42 (.and 33 37 (.and 29 32 (.and 25 28 (.op (some 24) .notB [(.op (some 23) (.call 17) [(.v 2 (some 22))])]) (.op (some 27) (.binI .eql) [(.v 3 (some 26)), (.k (.int .i64 0))])) (.op (some 31) (.binI .eql) [(.v 4 (some 30)), (.k (.int .i64 0))])) (.op (some 36) (.binI .eql) [(.op (some 35) .lenL [(.v 5 (some 34))]), (.k (.int .i64 0))])) (.op (some 41) (.binI .eql) [(.op (some 40) (.call 16) [(.v 6 (some 39))]), (.k (.int .i64 200))]))])]) <|
 .ret
/- sleuth/sleuthlaw2.TermMakes -/
def s6 : SFn := .src 70 [0, 1, 4, 5, 6, 7, 8, 9, 10, 11, 12, 56, 61, 62] [.tmp 2] <|
 .seq (.reg [
  .set 2 (.op (some 4) .mov [(.k (.bool false))])]) <|
 .seq (.ifr [] (.op (some 14) .notB [(.op (some 13) (.call 21) [])])
  (.seq (.reg [
   .set 2 (.op (some 4) .mov [(.k (.bool false))])]) <|
  .ret)
  (.skip)) <|
 .seq (.reg [
  .set 3 (.op (some 5) .mov [(.op (some 17) (.binI .add) [(.k (.int .i64 1)), (.op (some 16) (.binI .and) [(.v 1 (some 15)), (.k (.int .i64 1023))])])])]) <|
 .seq (.reg [
  .set 4 (.op (some 6) .mov [(.op (some 18) (.bslice 0 [(.str [])] 1 [(0, 1)]) [(.k (.str [49]))])])]) <|
 .seq (.reg [
  .set 5 (.op (some 7) .mov [(.op (some 20) (.binI .and) [(.v 0 (some 19)), (.k (.int .i64 15))])])]) <|
 .seq (.reg [
  .set 6 (.op (some 8) .mov [(.op (some 28) .load1 [(.op (some 27) (.iadr 1) [(.op (some 25) (.bslice 0 [(.int .i64 0), (.int .i64 0), (.int .i64 0), (.int .i64 0), (.int .i64 0), (.int .i64 0), (.int .i64 0), (.int .i64 0), (.int .i64 0), (.int .i64 0), (.int .i64 0), (.int .i64 0), (.int .i64 0), (.int .i64 0), (.int .i64 0), (.int .i64 0)] 16 [(0, 1), (1, 1), (2, 1), (3, 1), (4, 1), (5, 1), (6, 1), (7, 1), (8, 1), (9, 1), (10, 1), (11, 1), (12, 1), (13, 1), (14, 1), (15, 1)]) [(.op (some 22) .negI [(.v 3 (some 21))]), (.op (some 24) (.binI .add) [(.k (.int .i64 3)), (.v 3 (some 23))]), (.k (.int .i64 0)), (.k (.int .i64 3)), (.k (.int .i64 1)), (.k (.int .i64 1)), (.k (.int .i64 1)), (.k (.int .i64 0)), (.k (.int .i64 2)), (.k (.int .i64 2)), (.k (.int .i64 2)), (.k (.int .i64 2)), (.k (.int .i64 2)), (.k (.int .i64 2)), (.k (.int .i64 2)), (.k (.int .i64 3))]), (.v 5 (some 26))])])])]) <|
 .seq (.reg [
  .set 7 (.op (some 9) .mov [(.op (some 43) .load1 [(.op (some 42) (.iadr 1) [(.op (some 40) (.bslice 0 [(.int .i64 0), (.int .i64 0), (.int .i64 0), (.int .i64 0), (.int .i64 0), (.int .i64 0), (.int .i64 0), (.int .i64 0), (.int .i64 0), (.int .i64 0), (.int .i64 0), (.int .i64 0), (.int .i64 0), (.int .i64 0), (.int .i64 0), (.int .i64 0)] 16 [(0, 1), (1, 1), (2, 1), (3, 1), (4, 1), (5, 1), (6, 1), (7, 1), (8, 1), (9, 1), (10, 1), (11, 1), (12, 1), (13, 1), (14, 1), (15, 1)]) [(.k (.int .i64 0)), (.k (.int .i64 0)), (.v 3 (some 29)), (.op (some 31) .negI [(.v 3 (some 30))]), (.op (some 33) (.binI .add) [(.k (.int .i64 32767)), (.v 3 (some 32))]), (.op (some 35) (.binI .sub) [(.k (.int .i64 (-32768))), (.v 3 (some 34))]), (.k (.int .i64 0)), (.k (.int .i64 0)), (.op (some 37) .negI [(.v 3 (some 36))]), (.op (some 39) (.binI .add) [(.k (.int .i64 99)), (.v 3 (some 38))]), (.k (.int .i64 0)), (.k (.int .i64 0)), (.k (.int .i64 0)), (.k (.int .i64 0)), (.k (.int .i64 0)), (.k (.int .i64 0))]), (.v 5 (some 41))])])])]) <|
 .seq (.reg [
  .set 8 (.op (some 10) .mov [(.op (some 55) .load1 [(.op (some 54) (.iadr 1) [(.op (some 52) (.bslice 0 [.nils, .nils, .nils, .nils, .nils, .nils, .nils, .nils, .nils, .nils, .nils, .nils, .nils, .nils, .nils, .nils] 16 [(0, 1), (1, 1), (2, 1), (3, 1), (4, 1), (5, 1), (6, 1), (7, 1), (8, 1), (9, 1), (10, 1), (11, 1), (12, 1), (13, 1), (14, 1), (15, 1)]) [(.k .nils), (.k .nils), (.k .nils), (.k .nils), (.k .nils), (.k .nils), (.v 4 (some 44)), (.v 4 (some 45)), (.k .nils), (.k .nils), (.op (some 46) (.bslice 0 [(.str [])] 1 [(0, 1)]) [(.k (.str []))]), (.op (some 47) (.bslice 0 [(.str [])] 1 [(0, 1)]) [(.k (.str [49, 32, 50]))]), (.op (some 48) (.bslice 0 [(.str []), (.str []), (.str []), (.str [])] 4 [(0, 1), (1, 1), (2, 1), (3, 1)]) [(.k (.str [49])), (.k (.str [50])), (.k (.str [51])), (.k (.str [52]))]), (.op (some 49) (.bslice 0 [(.str [])] 1 [(0, 1)]) [(.k (.str [49, 41]))]), (.op (some 50) (.bslice 0 [(.str [])] 1 [(0, 1)]) [(.k (.str [48, 49]))]), (.v 4 (some 51))]), (.v 5 (some 53))])])])]) <|
 .seq (.reg [
  .set 11 (.op (some 56) .mov [(.op (some 60) (.call 13) [(.v 6 (some 57)), (.v 7 (some 58)), (.v 8 (some 59))])]),
  .set 12 (.op (some 61) (.ext 0) [(.v 11 none)]),
  .set 13 (.op (some 62) (.ext 1) [(.v 11 none)]),
  .set 9 (.op (some 11) .mov [(.v 12 none)]),
  .set 10 (.op (some 12) .mov [(.v 13 none)])]) <|
 .seq (.reg [
  .set 2 (.op (some 4) .mov [(.and 65 69 (.op (some 64) (.binS .eql) [(.v 9 (some 63)), (.k (.str []))]) (.op (some 68) (.binI .eql) [(.op (some 67) (.call 16) [(.v 10 (some 66))]), (.k (.int .i64 200))]))])]) <|
 .ret
end Am.T
