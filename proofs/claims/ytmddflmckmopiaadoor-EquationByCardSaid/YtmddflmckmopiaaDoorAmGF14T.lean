/- Functions of the program, as the abstract machine has them. -/
import Derived.Test.YtmddflmckmopiaaDoorAmJc
namespace Am.T
open Go
/- sleuth/sleuthlaw14.EquationForms -/
def s248 : SFn := .src 57 [0, 1, 4, 5, 6, 7, 8, 16, 19, 45, 48, 49] [.tmp 2] <|
 .seq (.reg [
  .set 2 (.op (some 4) .mov [(.k (.bool false))])]) <|
 .seq (.ifr [] (.op (some 10) .notB [(.op (some 9) (.call 256) [])])
  (.seq (.reg [
   .set 2 (.op (some 4) .mov [(.k (.bool false))])]) <|
  .ret)
  (.skip)) <|
 .seq (.reg [
  .set 3 (.op (some 5) .mov [(.op (some 13) (.binI .add) [(.k (.int .i64 1)), (.op (some 12) (.binI .and) [(.v 1 (some 11)), (.k (.int .i64 1023))])])])]) <|
 .seq (.reg [
  .set 7 (.op (some 16) (.loadN 4) [(.op (some 15) (.iadr 4) [(.op (some 14) (.call 257) []), (.k (.int .i64 1))])]),
  .set 4 (.op (some 6) (.alloc 0 [(.int .i64 0), (.int .i64 0), .nils, (.str [])]) []),
  .ef (.op none (.store 4) [(.v 4 none), (.v 7 none)])]) <|
 .seq (.seq (.reg [
  .set 8 (.op (some 19) (.binI .rem) [(.op (some 18) (.conv .u64) [(.v 0 (some 17))]), (.k (.int .u64 6))])]) <|
 .block 0 <|
  .ifr [] (.op (some 21) .mov [(.op (some 22) (.binI .eql) [(.v 8 none), (.k (.int .u64 0))])])
   (.reg [
    .ef (.opr none (.store 1) (.op (some 25) (.fadr 0) [(.v 4 none)]) (.op (some 24) .negI [(.v 3 (some 23))]))])
   (.ifr [] (.op (some 26) .mov [(.op (some 27) (.binI .eql) [(.v 8 none), (.k (.int .u64 1))])])
    (.reg [
     .ef (.opr none (.store 1) (.op (some 30) (.fadr 0) [(.v 4 none)]) (.op (some 29) (.binI .add) [(.k (.int .i64 7)), (.v 3 (some 28))]))])
    (.ifr [] (.op (some 31) .mov [(.op (some 32) (.binI .eql) [(.v 8 none), (.k (.int .u64 2))])])
     (.reg [
      .ef (.opr none (.store 1) (.op (some 34) (.fadr 2) [(.v 4 none)]) (.op (some 33) (.bslice 0 [(.str []), (.str []), (.str []), (.str [])] 4 [(0, 1), (1, 1), (2, 1), (3, 1)]) [(.k (.str [49])), (.k (.str [50])), (.k (.str [51])), (.k (.str [52]))]))])
     (.ifr [] (.op (some 35) .mov [(.op (some 36) (.binI .eql) [(.v 8 none), (.k (.int .u64 3))])])
      (.reg [
       .ef (.op none (.store 1) [(.op (some 39) (.iadr 1) [(.op (some 38) .load1 [(.op (some 37) (.fadr 2) [(.v 4 none)])]), (.k (.int .i64 0))]), (.k (.str [49, 32, 50]))])])
      (.ifr [] (.op (some 40) .mov [(.op (some 41) (.binI .eql) [(.v 8 none), (.k (.int .u64 4))])])
       (.reg [
        .ef (.op none (.store 1) [(.op (some 44) (.iadr 1) [(.op (some 43) .load1 [(.op (some 42) (.fadr 2) [(.v 4 none)])]), (.k (.int .i64 1))]), (.k (.str []))])])
       (.reg [
        .ef (.op none (.store 1) [(.op (some 20) (.fadr 3) [(.v 4 none)]), (.k (.str [61, 32, 57]))])])))))) <|
 .seq (.reg [
  .set 9 (.op (some 45) .mov [(.op (some 47) (.call 258) [(.op (some 46) (.loadN 4) [(.v 4 none)])])]),
  .set 10 (.op (some 48) (.ext 0) [(.v 9 none)]),
  .set 11 (.op (some 49) (.ext 1) [(.v 9 none)]),
  .set 5 (.op (some 7) .mov [(.v 10 none)]),
  .set 6 (.op (some 8) .mov [(.v 11 none)])]) <|
 .seq (.reg [
  .set 2 (.op (some 4) .mov [(.and 52 56 (.op (some 51) (.binS .eql) [(.v 5 (some 50)), (.k (.str []))]) (.op (some 55) (.binI .eql) [(.op (some 54) (.call 16) [(.v 6 (some 53))]), (.k (.int .i64 1400))]))])]) <|
 .ret
/- sleuth/sleuthlaw14.EquationBy -/
def s249 : SFn := .src 53 [0, 1, 4, 5, 6, 7, 8, 9, 27, 33, 34] [.tmp 2] <|
 .seq (.reg [
  .set 2 (.op (some 4) .mov [(.k (.bool false))])]) <|
 .seq (.ifr [] (.op (some 11) .notB [(.op (some 10) (.call 256) [])])
  (.seq (.reg [
   .set 2 (.op (some 4) .mov [(.k (.bool false))])]) <|
  .ret)
  (.skip)) <|
 .seq (.reg [
  .set 3 (.op (some 5) .mov [(.op (some 13) (.binI .and) [(.v 0 (some 12)), (.k (.int .i64 7))])])]) <|
 .seq (.reg [
  .set 4 (.op (some 6) .mov [(.op (some 21) .load1 [(.op (some 20) (.iadr 1) [(.op (some 17) (.bslice 0 [.nils, .nils, .nils, .nils] 4 [(0, 1), (1, 1), (2, 1), (3, 1)]) [(.k .nils), (.op (some 14) (.bslice 0 [(.str [])] 1 [(0, 1)]) [(.k (.str [49]))]), (.op (some 15) (.bslice 0 [(.str []), (.str [])] 2 [(0, 1), (1, 1)]) [(.k (.str [95])), (.k (.str [33]))]), (.op (some 16) (.bslice 0 [(.str []), (.str []), (.str [])] 3 [(0, 1), (1, 1), (2, 1)]) [(.k (.str [64, 49, 40, 50, 32, 51, 41])), (.k (.str [45, 52])), (.k (.str [95]))])]), (.op (some 19) (.binI .and) [(.v 1 (some 18)), (.k (.int .i64 3))])])])])]) <|
 .seq (.reg [
  .set 5 (.op (some 7) .mov [(.op (some 26) .load1 [(.op (some 25) (.iadr 1) [(.op (some 22) (.bslice 0 [(.str []), (.str []), (.str []), (.str [])] 4 [(0, 1), (1, 1), (2, 1), (3, 1)]) [(.k (.str [])), (.k (.str [32, 49])), (.k (.str [32, 95, 32, 33])), (.k (.str [32, 64, 49, 40, 50, 32, 51, 41, 32, 45, 52, 32, 95]))]), (.op (some 24) (.binI .and) [(.v 1 (some 23)), (.k (.int .i64 3))])])])])]) <|
 .seq (.reg [
  .set 8 (.op (some 27) .mov [(.op (some 32) (.call 258) [(.op (some 31) (.build [(.int .i64 0), (.int .i64 0), .nils, (.str [])] [(0, 1), (1, 1), (2, 1), (3, 1)]) [(.v 3 (some 28)), (.v 1 (some 29)), (.v 4 (some 30)), (.k (.str [64, 57]))])])]),
  .set 9 (.op (some 33) (.ext 0) [(.v 8 none)]),
  .set 10 (.op (some 34) (.ext 1) [(.v 8 none)]),
  .set 6 (.op (some 8) .mov [(.v 9 none)]),
  .set 7 (.op (some 9) .mov [(.v 10 none)])]) <|
 .seq (.reg [
  .set 2 (.op (some 4) .mov [(.and 48 52 (.and 38 47 (.op (some 37) (.binI .eql) [(.op (some 36) (.call 16) [(.v 7 (some 35))]), (.k (.int .i64 0))]) (.op (some 46) (.binS .eql) [(.v 6 (some 39)), (.op (some 45) (.binS .add) [(.op (some 44) (.binS .add) [(.op (some 42) (.binS .add) [(.k (.str [102])), (.op (some 41) (.call 22) [(.v 3 (some 40))])]), (.v 5 (some 43))]), (.k (.str [32, 61, 32, 64, 57]))])])) (.op (some 51) (.binI .eql) [(.op (some 50) .lenL [(.op (some 49) (.call 257) [])]), (.k (.int .i64 5))]))])]) <|
 .ret
end Am.T
