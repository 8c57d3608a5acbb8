/- Functions of the program, as the abstract machine has them. -/
import Derived.Test.YtnhappodbogoaaaDoorAmJc
namespace Am.T
open Go
/- sleuth/sleuthlaw9.NameForms -/
def s134 : SFn := .src 78 [0, 1, 4, 5, 6, 7, 8, 9, 10, 11, 17, 21, 49, 51, 63, 69, 70] [.tmp 2] <|
 .seq (.reg [
  .set 2 (.op (some 4) .mov [(.k (.bool false))])]) <|
 .seq (.ifr [] (.op (some 13) .notB [(.op (some 12) (.call 153) [])])
  (.seq (.reg [
   .set 2 (.op (some 4) .mov [(.k (.bool false))])]) <|
  .ret)
  (.skip)) <|
 .seq (.reg [
  .set 3 (.op (some 5) .mov [(.op (some 16) (.binI .add) [(.k (.int .i64 1)), (.op (some 15) (.binI .and) [(.v 1 (some 14)), (.k (.int .i64 1023))])])])]) <|
 .seq (.reg [
  .set 10 (.op (some 17) (.call 154) []),
  .set 4 (.op (some 6) (.alloc 0 [.nils]) []),
  .ef (.op none (.store 1) [(.v 4 none), (.v 10 none)])]) <|
 .seq (.reg [
  .set 5 (.op (some 7) .mov [(.k (.int .i64 1))]),
  .set 6 (.op (some 8) .mov [(.k (.int .i64 50))])]) <|
 .seq (.reg [
  .set 7 (.op (some 9) .mov [(.op (some 18) (.bslice 0 [(.str []), (.str [])] 2 [(0, 1), (1, 1)]) [(.k (.str [49])), (.k (.str [50]))])])]) <|
 .seq (.seq (.reg [
  .set 11 (.op (some 21) (.binI .rem) [(.op (some 20) (.conv .u64) [(.v 0 (some 19))]), (.k (.int .u64 8))])]) <|
 .block 0 <|
  .ifr [] (.op (some 24) .mov [(.op (some 25) (.binI .eql) [(.v 11 none), (.k (.int .u64 0))])])
   (.reg [
    .ef (.op none (.store 1) [(.op (some 29) (.fadr 0) [(.op (some 28) (.iadr 2) [(.op (some 27) .load1 [(.op (some 26) (.fadr 0) [(.v 4 none)])]), (.k (.int .i64 1))])]), (.k (.int .i64 1))])])
   (.ifr [] (.op (some 30) .mov [(.op (some 31) (.binI .eql) [(.v 11 none), (.k (.int .u64 1))])])
    (.reg [
     .set 5 (.op (some 7) .mov [(.op (some 33) .negI [(.v 3 (some 32))])])])
    (.ifr [] (.op (some 34) .mov [(.op (some 35) (.binI .eql) [(.v 11 none), (.k (.int .u64 2))])])
     (.reg [
      .set 5 (.op (some 7) .mov [(.op (some 37) (.binI .add) [(.k (.int .i64 1)), (.v 3 (some 36))])])])
     (.ifr [] (.op (some 38) .mov [(.op (some 39) (.binI .eql) [(.v 11 none), (.k (.int .u64 3))])])
      (.reg [
       .set 7 (.op (some 9) .mov [(.op (some 41) (.slL 1 true false false) [(.v 7 (some 40)), (.k (.int .i64 1))])])])
      (.ifr [] (.op (some 42) .mov [(.op (some 43) (.binI .eql) [(.v 11 none), (.k (.int .u64 4))])])
       (.reg [
        .set 7 (.op (some 9) .mov [(.op (some 46) (.app 0 1 16) [(.v 7 (some 44)), (.op (some 45) (.bslice 0 [(.str [])] 1 [(0, 1)]) [(.k (.str [51]))])])])])
       (.ifr [] (.op (some 47) .mov [(.op (some 48) (.binI .eql) [(.v 11 none), (.k (.int .u64 5))])])
        (.reg [
         .set 12 (.op (some 49) .mov [(.v 7 none)]),
         .set 13 (.op (some 51) (.binI .and) [(.v 1 (some 50)), (.k (.int .i64 1))]),
         .ef (.opr none (.store 1) (.op (some 58) (.iadr 1) [(.v 12 none), (.v 13 none)]) (.op (some 57) .load1 [(.op (some 56) (.iadr 1) [(.op (some 52) (.bslice 0 [(.str []), (.str []), (.str []), (.str [])] 4 [(0, 1), (1, 1), (2, 1), (3, 1)]) [(.k (.str [])), (.k (.str [48, 49])), (.k (.str [64, 49, 40])), (.k (.str [120]))]), (.op (some 55) (.binI .and) [(.op (some 54) (.binI .shr) [(.v 1 (some 53)), (.k (.int .u64 1))]), (.k (.int .i64 3))])])]))])
        (.ifr [] (.op (some 59) .mov [(.op (some 60) (.binI .eql) [(.v 11 none), (.k (.int .u64 6))])])
         (.reg [
          .set 6 (.op (some 8) .mov [(.op (some 62) .negI [(.v 3 (some 61))])])])
         (.reg [
          .set 6 (.op (some 8) .mov [(.op (some 23) (.binI .add) [(.k (.int .i64 400)), (.v 3 (some 22))])])])))))))) <|
 .seq (.reg [
  .set 14 (.op (some 63) .mov [(.op (some 68) (.call 155) [(.op (some 64) (.loadN 1) [(.v 4 none)]), (.v 5 (some 65)), (.v 7 (some 66)), (.v 6 (some 67))])]),
  .set 15 (.op (some 69) (.ext 0) [(.v 14 none)]),
  .set 16 (.op (some 70) (.ext 1) [(.v 14 none)]),
  .set 8 (.op (some 10) .mov [(.v 15 none)]),
  .set 9 (.op (some 11) .mov [(.v 16 none)])]) <|
 .seq (.reg [
  .set 2 (.op (some 4) .mov [(.and 73 77 (.op (some 72) (.binS .eql) [(.v 8 (some 71)), (.k (.str []))]) (.op (some 76) (.binI .eql) [(.op (some 75) (.call 16) [(.v 9 (some 74))]), (.k (.int .i64 900))]))])]) <|
 .ret
end Am.T
