/- Functions of the program, as the abstract machine has them. -/
import Derived.Test.YtnhappodbogoaaaGreatDoorAmJc
namespace Am.T
open Go
/- sleuth/sleuthlaw9.NameTable -/
def s238 : SFn := .src 42 [0, 2, 3, 4, 5, 6, 7, 22, 26, 27] [.tmp 1] <|
 .seq (.reg [
  .set 1 (.op (some 2) .mov [(.k (.bool false))])]) <|
 .seq (.ifr [] (.op (some 9) .notB [(.op (some 8) (.call 153) [])])
  (.seq (.reg [
   .set 1 (.op (some 2) .mov [(.k (.bool false))])]) <|
  .ret)
  (.skip)) <|
 .seq (.reg [
  .set 2 (.op (some 3) .mov [(.op (some 13) (.conv .i64) [(.op (some 12) (.binI .rem) [(.op (some 11) (.conv .u64) [(.v 0 (some 10))]), (.k (.int .u64 24))])])])]) <|
 .seq (.reg [
  .set 3 (.op (some 4) .mov [(.op (some 17) .load1 [(.op (some 16) (.iadr 1) [(.op (some 14) (.bslice 0 [(.str []), (.str []), (.str []), (.str []), (.str []), (.str []), (.str []), (.str []), (.str []), (.str []), (.str []), (.str []), (.str []), (.str []), (.str []), (.str []), (.str []), (.str []), (.str []), (.str []), (.str []), (.str []), (.str []), (.str [])] 24 [(0, 1), (1, 1), (2, 1), (3, 1), (4, 1), (5, 1), (6, 1), (7, 1), (8, 1), (9, 1), (10, 1), (11, 1), (12, 1), (13, 1), (14, 1), (15, 1), (16, 1), (17, 1), (18, 1), (19, 1), (20, 1), (21, 1), (22, 1), (23, 1)]) [(.k (.str [51])), (.k (.str [40, 43, 32, 49, 32, 50, 41])), (.k (.str [40, 45, 32, 49, 32, 50, 41])), (.k (.str [40, 42, 32, 50, 48, 48, 32, 50, 48, 48, 41])), (.k (.str [40, 61, 32, 50, 32, 50, 41])), (.k (.str [40, 60, 32, 50, 32, 49, 41])), (.k (.str [101, 114, 114, 111, 114])), (.k (.str [40, 43, 32, 101, 114, 114, 111, 114, 32, 49, 41])), (.k (.str [40, 43, 32, 64, 49, 32, 101, 114, 114, 111, 114, 41])), (.k (.str [40, 43, 32, 49, 32, 64, 49, 41])), (.k (.str [64, 53])), (.k (.str [40, 64, 53, 32, 101, 114, 114, 111, 114, 32, 40, 43, 32, 49, 32, 49, 41, 41])), (.k (.str [40, 108, 101, 116, 32, 101, 114, 114, 111, 114, 32, 52, 41])), (.k (.str [40, 108, 101, 116, 32, 52, 32, 40, 43, 32, 36, 48, 32, 36, 48, 41, 41])), (.k (.str [40, 108, 101, 116, 32, 52, 32, 40, 108, 101, 116, 32, 53, 32, 40, 45, 32, 36, 49, 32, 36, 48, 41, 41, 41])), (.k (.str [40, 99, 97, 115, 101, 32, 64, 49, 32, 64, 49, 32, 48, 32, 56, 32, 57, 41])), (.k (.str [40, 99, 97, 115, 101, 32, 64, 49, 32, 64, 50, 32, 48, 32, 56, 32, 57, 41])), (.k (.str [40, 99, 97, 115, 101, 32, 40, 64, 49, 32, 50, 41, 32, 64, 49, 32, 48, 32, 56, 32, 57, 41])), (.k (.str [40, 99, 97, 115, 101, 32, 40, 64, 49, 32, 50, 32, 51, 41, 32, 64, 49, 32, 50, 32, 40, 45, 32, 36, 48, 32, 36, 49, 41, 32, 57, 41])), (.k (.str [40, 99, 97, 115, 101, 32, 49, 32, 64, 49, 32, 48, 32, 56, 32, 57, 41])), (.k (.str [40, 99, 97, 115, 101, 32, 101, 114, 114, 111, 114, 32, 64, 49, 32, 48, 32, 56, 32, 57, 41])), (.k (.str [40, 102, 51, 32, 101, 114, 114, 111, 114, 32, 54, 41])), (.k (.str [40, 102, 49, 32, 40, 64, 55, 32, 101, 114, 114, 111, 114, 32, 52, 41, 32, 53, 41])), (.k (.str [40, 99, 97, 115, 101, 32, 40, 64, 49, 32, 101, 114, 114, 111, 114, 41, 32, 64, 49, 32, 49, 32, 55, 32, 57, 41]))]), (.v 2 (some 15))])])])]) <|
 .seq (.reg [
  .set 4 (.op (some 5) .mov [(.op (some 21) .load1 [(.op (some 20) (.iadr 1) [(.op (some 18) (.bslice 0 [(.str []), (.str []), (.str []), (.str []), (.str []), (.str []), (.str []), (.str []), (.str []), (.str []), (.str []), (.str []), (.str []), (.str []), (.str []), (.str []), (.str []), (.str []), (.str []), (.str []), (.str []), (.str []), (.str []), (.str [])] 24 [(0, 1), (1, 1), (2, 1), (3, 1), (4, 1), (5, 1), (6, 1), (7, 1), (8, 1), (9, 1), (10, 1), (11, 1), (12, 1), (13, 1), (14, 1), (15, 1), (16, 1), (17, 1), (18, 1), (19, 1), (20, 1), (21, 1), (22, 1), (23, 1)]) [(.k (.str [51])), (.k (.str [51])), (.k (.str [45, 49])), (.k (.str [45, 50, 53, 53, 51, 54])), (.k (.str [49])), (.k (.str [48])), (.k (.str [33])), (.k (.str [33])), (.k (.str [33])), (.k (.str [33])), (.k (.str [64, 53])), (.k (.str [64, 53, 40, 95, 32, 95, 41])), (.k (.str [52])), (.k (.str [56])), (.k (.str [49])), (.k (.str [56])), (.k (.str [57])), (.k (.str [57])), (.k (.str [45, 49])), (.k (.str [57])), (.k (.str [33])), (.k (.str [54])), (.k (.str [57])), (.k (.str [55]))]), (.v 2 (some 19))])])])]) <|
 .seq (.reg [
  .set 7 (.op (some 22) .mov [(.op (some 25) (.call 155) [(.op (some 24) (.call 245) [(.v 3 (some 23))]), (.k (.int .i64 0)), (.k .nils), (.k (.int .i64 60))])]),
  .set 8 (.op (some 26) (.ext 0) [(.v 7 none)]),
  .set 9 (.op (some 27) (.ext 1) [(.v 7 none)]),
  .set 5 (.op (some 6) .mov [(.v 8 none)]),
  .set 6 (.op (some 7) .mov [(.v 9 none)])]) <|
 .seq (.reg [
  .set 1 (.op (some 2) .mov [(.and 36 41 (.and 31 35 (.op (some 30) (.binI .eql) [(.op (some 29) (.call 16) [(.v 6 (some 28))]), (.k (.int .i64 0))]) (.op (some 34) (.binS .eql) [(.v 5 (some 32)), (.v 4 (some 33))])) (.op (some 40) (.binI .eql) [(.op (some 39) .lenL [(.op (some 38) (.fld1 0) [(.op (some 37) (.call 154) [])])]), (.k (.int .i64 2))]))])]) <|
 .ret
/- sleuth/sleuthlaw9.NameSteps -/
def s241 : SFn := .src 54 [0, 2, 3, 4, 5, 6, 7, 9, 22, 29, 30, 31, 37, 38] [.tmp 1] <|
 .seq (.reg [
  .set 1 (.op (some 2) .mov [(.k (.bool false))])]) <|
 .seq (.ifr [] (.op (some 11) .notB [(.op (some 10) (.call 153) [])])
  (.seq (.reg [
   .set 1 (.op (some 2) .mov [(.k (.bool false))])]) <|
  .ret)
  (.skip)) <|
 .seq (.reg [
  .set 2 (.op (some 3) .mov [(.op (some 13) (.binI .and) [(.v 0 (some 12)), (.k (.int .i64 7))])])]) <|
 .seq (.reg [
  .set 3 (.op (some 4) .mov [(.k (.str [49]))])]) <|
 .seq (.seq (.reg [
  .set 4 (.op (some 5) .mov [(.k (.int .i64 0))])]) <|
 .block 0 <|
  .loop [2, 3, 4] <|
   .seq (.ifr [] (.op (some 16) (.binI .lss) [(.v 4 (some 14)), (.v 2 (some 15))])
    (.skip)
    (.exit 0)) <|
   .seq (.block 1 <|
    .reg [
     .set 3 (.op (some 4) .mov [(.op (some 21) (.binS .add) [(.op (some 20) (.binS .add) [(.k (.str [40, 43, 32])), (.v 3 (some 19))]), (.k (.str [32, 49, 41]))])])]) <|
   .reg [
    .set 4 (.op (some 5) .mov [(.op (some 18) (.binI .add) [(.v 4 (some 17)), (.k (.int .i64 1))])])]) <|
 .seq (.reg [
  .set 8 (.op (some 22) .mov [(.op (some 28) (.call 155) [(.op (some 24) (.call 245) [(.v 3 (some 23))]), (.k (.int .i64 0)), (.k .nils), (.op (some 27) (.binI .add) [(.op (some 26) (.binI .mul) [(.k (.int .i64 2)), (.v 2 (some 25))]), (.k (.int .i64 1))])])]),
  .set 9 (.op (some 29) (.ext 0) [(.v 8 none)]),
  .set 10 (.op (some 30) (.ext 1) [(.v 8 none)]),
  .set 5 (.op (some 6) .mov [(.v 9 none)]),
  .set 6 (.op (some 7) .mov [(.v 10 none)])]) <|
 .seq (.reg [
  .set 11 (.op (some 31) .mov [(.op (some 36) (.call 155) [(.op (some 33) (.call 245) [(.v 3 (some 32))]), (.k (.int .i64 0)), (.k .nils), (.op (some 35) (.binI .mul) [(.k (.int .i64 2)), (.v 2 (some 34))])])]),
  .set 12 (.op (some 37) (.ext 0) [(.v 11 none)]),
  .set 13 (.op (some 38) (.ext 1) [(.v 11 none)]),
  .ef (.v 12 (some 8)),
  .set 7 (.op (some 9) .mov [(.v 13 none)])]) <|
 .seq (.reg [
  .set 1 (.op (some 2) .mov [(.and 49 53 (.and 42 48 (.op (some 41) (.binI .eql) [(.op (some 40) (.call 16) [(.v 6 (some 39))]), (.k (.int .i64 0))]) (.op (some 47) (.binS .eql) [(.v 5 (some 43)), (.op (some 46) (.call 22) [(.op (some 45) (.binI .add) [(.v 2 (some 44)), (.k (.int .i64 1))])])])) (.op (some 52) (.binI .eql) [(.op (some 51) (.call 16) [(.v 7 (some 50))]), (.k (.int .i64 901))]))])]) <|
 .ret
end Am.T
