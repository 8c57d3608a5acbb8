/- Functions of the program, as the abstract machine has them. -/
import Derived.Test.YtnhappodbogoaaaGreatDoorAmJc
namespace Am.T
open Go
/- sleuth/sleuthlaw9.NameSteps -/
def s241 : SFn := .src 54 [0, 2, 3, 4, 5, 6, 7, 9, 22, 29, 30, 31, 37, 38] [.tmp 1] <|
 .seq (.reg [
  .set 1 (.op (some 2) .mov [(.k (.bool false))])]) <|
 .seq (.ifr [] (.op (some 11) .notB [(.op (some 10) (.call 153) [])])
  (.seq (.reg [
   .set 1 (.op (some 2) .mov [(.k (.bool false))])]) <|
  .ret)
  (.skip)) <|
 .seq (.reg [
  .set 2 (.op (some 3) .mov [(.op (some 13) (.binI .and) [(.v 0 (some 12)), (.k (.int .i64 7))])])]) <|
 .seq (.reg [
  .set 3 (.op (some 4) .mov [(.k (.str [49]))])]) <|
 .seq (.seq (.reg [
  .set 4 (.op (some 5) .mov [(.k (.int .i64 0))])]) <|
 .block 0 <|
  .loop [2, 3, 4] <|
   .seq (.ifr [] (.op (some 16) (.binI .lss) [(.v 4 (some 14)), (.v 2 (some 15))])
    (.skip)
    (.exit 0)) <|
   .seq (.block 1 <|
    .reg [
     .set 3 (.op (some 4) .mov [(.op (some 21) (.binS .add) [(.op (some 20) (.binS .add) [(.k (.str [40, 43, 32])), (.v 3 (some 19))]), (.k (.str [32, 49, 41]))])])]) <|
   .reg [
    .set 4 (.op (some 5) .mov [(.op (some 18) (.binI .add) [(.v 4 (some 17)), (.k (.int .i64 1))])])]) <|
 .seq (.reg [
  .set 8 (.op (some 22) .mov [(.op (some 28) (.call 155) [(.op (some 24) (.call 245) [(.v 3 (some 23))]), (.k (.int .i64 0)), (.k .nils), (.op (some 27) (.binI .add) [(.op (some 26) (.binI .mul) [(.k (.int .i64 2)), (.v 2 (some 25))]), (.k (.int .i64 1))])])]),
  .set 9 (.op (some 29) (.ext 0) [(.v 8 none)]),
  .set 10 (.op (some 30) (.ext 1) [(.v 8 none)]),
  .set 5 (.op (some 6) .mov [(.v 9 none)]),
  .set 6 (.op (some 7) .mov [(.v 10 none)])]) <|
 .seq (.reg [
  .set 11 (.op (some 31) .mov [(.op (some 36) (.call 155) [(.op (some 33) (.call 245) [(.v 3 (some 32))]), (.k (.int .i64 0)), (.k .nils), (.op (some 35) (.binI .mul) [(.k (.int .i64 2)), (.v 2 (some 34))])])]),
  .set 12 (.op (some 37) (.ext 0) [(.v 11 none)]),
  .set 13 (.op (some 38) (.ext 1) [(.v 11 none)]),
  .ef (.v 12 (some 8)),
  .set 7 (.op (some 9) .mov [(.v 13 none)])]) <|
 .seq (.reg [
  .set 1 (.op (some 2) .mov [(.and 49 53 (.and 42 48 (.op (some 41) (.binI .eql) [(.op (some 40) (.call 16) [(.v 6 (some 39))]), (.k (.int .i64 0))]) (.op (some 47) (.binS .eql) [(.v 5 (some 43)), (.op (some 46) (.call 22) [(.op (some 45) (.binI .add) [(.v 2 (some 44)), (.k (.int .i64 1))])])])) (.op (some 52) (.binI .eql) [(.op (some 51) (.call 16) [(.v 7 (some 50))]), (.k (.int .i64 901))]))])]) <|
 .ret
end Am.T
