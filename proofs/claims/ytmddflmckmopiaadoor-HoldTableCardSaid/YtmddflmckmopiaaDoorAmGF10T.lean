/- Functions of the program, as the abstract machine has them. -/
import Derived.Test.YtmddflmckmopiaaDoorAmJc
namespace Am.T
open Go
/- sleuth/sleuthlaw10.HoldForms -/
def s130 : SFn := .src 75 [0, 1, 4, 5, 6, 7, 8, 9, 10, 16, 19, 22, 61, 66, 67] [.tmp 2] <|
 .seq (.reg [
  .set 2 (.op (some 4) .mov [(.k (.bool false))])]) <|
 .seq (.ifr [] (.op (some 12) .notB [(.op (some 11) (.call 150) [])])
  (.seq (.reg [
   .set 2 (.op (some 4) .mov [(.k (.bool false))])]) <|
  .ret)
  (.skip)) <|
 .seq (.reg [
  .set 3 (.op (some 5) .mov [(.op (some 15) (.binI .add) [(.k (.int .i64 1)), (.op (some 14) (.binI .and) [(.v 1 (some 13)), (.k (.int .i64 1023))])])])]) <|
 .seq (.reg [
  .set 9 (.op (some 16) (.call 151) []),
  .set 4 (.op (some 6) (.alloc 0 [.nils]) []),
  .ef (.op none (.store 1) [(.v 4 none), (.v 9 none)])]) <|
 .seq (.reg [
  .set 10 (.op (some 19) (.build [(.int .i64 0), (.int .i64 0), .nils, (.str [])] [(0, 1), (1, 1), (2, 1), (3, 1)]) [(.k (.int .i64 1)), (.v 1 (some 17)), (.op (some 18) (.bslice 0 [(.str []), (.str [])] 2 [(0, 1), (1, 1)]) [(.k (.str [49])), (.k (.str [50]))]), (.k (.str [51]))]),
  .set 5 (.op (some 7) (.alloc 0 [(.int .i64 0), (.int .i64 0), .nils, (.str [])]) []),
  .ef (.op none (.store 4) [(.v 5 none), (.v 10 none)])]) <|
 .seq (.reg [
  .set 6 (.op (some 8) .mov [(.k (.int .i64 50))])]) <|
 .seq (.seq (.reg [
  .set 11 (.op (some 22) (.binI .rem) [(.op (some 21) (.conv .u64) [(.v 0 (some 20))]), (.k (.int .u64 8))])]) <|
 .block 0 <|
  .ifr [] (.op (some 25) .mov [(.op (some 26) (.binI .eql) [(.v 11 none), (.k (.int .u64 0))])])
   (.reg [
    .ef (.op none (.store 1) [(.op (some 30) (.fadr 0) [(.op (some 29) (.iadr 2) [(.op (some 28) .load1 [(.op (some 27) (.fadr 0) [(.v 4 none)])]), (.k (.int .i64 0))])]), (.k (.int .i64 1))])])
   (.ifr [] (.op (some 31) .mov [(.op (some 32) (.binI .eql) [(.v 11 none), (.k (.int .u64 1))])])
    (.reg [
     .ef (.opr none (.store 1) (.op (some 35) (.fadr 0) [(.v 5 none)]) (.op (some 34) .negI [(.v 3 (some 33))]))])
    (.ifr [] (.op (some 36) .mov [(.op (some 37) (.binI .eql) [(.v 11 none), (.k (.int .u64 2))])])
     (.reg [
      .ef (.opr none (.store 1) (.op (some 40) (.fadr 0) [(.v 5 none)]) (.op (some 39) (.binI .add) [(.k (.int .i64 1)), (.v 3 (some 38))]))])
     (.ifr [] (.op (some 41) .mov [(.op (some 42) (.binI .eql) [(.v 11 none), (.k (.int .u64 3))])])
      (.reg [
       .ef (.op none (.store 1) [(.op (some 43) (.fadr 2) [(.v 5 none)]), (.k .nils)])])
      (.ifr [] (.op (some 44) .mov [(.op (some 45) (.binI .eql) [(.v 11 none), (.k (.int .u64 4))])])
       (.reg [
        .ef (.op none (.store 1) [(.op (some 48) (.iadr 1) [(.op (some 47) .load1 [(.op (some 46) (.fadr 2) [(.v 5 none)])]), (.k (.int .i64 1))]), (.k (.str [48, 50]))])])
       (.ifr [] (.op (some 49) .mov [(.op (some 50) (.binI .eql) [(.v 11 none), (.k (.int .u64 5))])])
        (.reg [
         .ef (.opr none (.store 1) (.op (some 56) (.fadr 3) [(.v 5 none)]) (.op (some 55) .load1 [(.op (some 54) (.iadr 1) [(.op (some 51) (.bslice 0 [(.str []), (.str []), (.str []), (.str [])] 4 [(0, 1), (1, 1), (2, 1), (3, 1)]) [(.k (.str [])), (.k (.str [48, 49])), (.k (.str [64])), (.k (.str [51, 32]))]), (.op (some 53) (.binI .and) [(.v 1 (some 52)), (.k (.int .i64 3))])])]))])
        (.ifr [] (.op (some 57) .mov [(.op (some 58) (.binI .eql) [(.v 11 none), (.k (.int .u64 6))])])
         (.reg [
          .set 6 (.op (some 8) .mov [(.op (some 60) .negI [(.v 3 (some 59))])])])
         (.reg [
          .set 6 (.op (some 8) .mov [(.op (some 24) (.binI .add) [(.k (.int .i64 400)), (.v 3 (some 23))])])])))))))) <|
 .seq (.reg [
  .set 12 (.op (some 61) .mov [(.op (some 65) (.call 152) [(.op (some 62) (.loadN 1) [(.v 4 none)]), (.op (some 63) (.loadN 4) [(.v 5 none)]), (.v 6 (some 64))])]),
  .set 13 (.op (some 66) (.ext 0) [(.v 12 none)]),
  .set 14 (.op (some 67) (.ext 1) [(.v 12 none)]),
  .set 7 (.op (some 9) .mov [(.v 13 none)]),
  .set 8 (.op (some 10) .mov [(.v 14 none)])]) <|
 .seq (.reg [
  .set 2 (.op (some 4) .mov [(.and 70 74 (.op (some 69) .notB [(.v 7 (some 68))]) (.op (some 73) (.binI .eql) [(.op (some 72) (.call 16) [(.v 8 (some 71))]), (.k (.int .i64 1000))]))])]) <|
 .ret
/- sleuth/sleuthlaw10.HoldTable -/
def s132 : SFn := .src 57 [0, 2, 3, 4, 5, 6, 7, 8, 41, 47, 48] [.tmp 1] <|
 .seq (.reg [
  .set 1 (.op (some 2) .mov [(.k (.bool false))])]) <|
 .seq (.ifr [] (.op (some 10) .notB [(.op (some 9) (.call 150) [])])
  (.seq (.reg [
   .set 1 (.op (some 2) .mov [(.k (.bool false))])]) <|
  .ret)
  (.skip)) <|
 .seq (.reg [
  .set 2 (.op (some 3) .mov [(.op (some 12) (.binI .and) [(.v 0 (some 11)), (.k (.int .i64 15))])])]) <|
 .seq (.reg [
  .set 3 (.op (some 4) .mov [(.op (some 32) .load1 [(.op (some 31) (.iadr 1) [(.op (some 29) (.bslice 0 [.nils, .nils, .nils, .nils, .nils, .nils, .nils, .nils, .nils, .nils, .nils, .nils, .nils, .nils, .nils, .nils] 16 [(0, 1), (1, 1), (2, 1), (3, 1), (4, 1), (5, 1), (6, 1), (7, 1), (8, 1), (9, 1), (10, 1), (11, 1), (12, 1), (13, 1), (14, 1), (15, 1)]) [(.op (some 13) (.bslice 0 [(.str []), (.str [])] 2 [(0, 1), (1, 1)]) [(.k (.str [49])), (.k (.str [50]))]), (.op (some 14) (.bslice 0 [(.str []), (.str [])] 2 [(0, 1), (1, 1)]) [(.k (.str [49])), (.k (.str [50]))]), (.op (some 15) (.bslice 0 [(.str []), (.str [])] 2 [(0, 1), (1, 1)]) [(.k (.str [49])), (.k (.str [50]))]), (.op (some 16) (.bslice 0 [(.str []), (.str [])] 2 [(0, 1), (1, 1)]) [(.k (.str [49])), (.k (.str [50]))]), (.op (some 17) (.bslice 0 [(.str []), (.str [])] 2 [(0, 1), (1, 1)]) [(.k (.str [95])), (.k (.str [50]))]), (.op (some 18) (.bslice 0 [(.str []), (.str [])] 2 [(0, 1), (1, 1)]) [(.k (.str [95])), (.k (.str [50]))]), (.op (some 19) (.bslice 0 [(.str []), (.str [])] 2 [(0, 1), (1, 1)]) [(.k (.str [49])), (.k (.str [95]))]), (.op (some 20) (.bslice 0 [(.str []), (.str [])] 2 [(0, 1), (1, 1)]) [(.k (.str [64, 55, 40, 95, 32, 49, 41])), (.k (.str [49]))]), (.op (some 21) (.bslice 0 [(.str []), (.str [])] 2 [(0, 1), (1, 1)]) [(.k (.str [64, 55, 40, 49, 32, 95, 41])), (.k (.str [49]))]), (.op (some 22) (.bslice 0 [(.str []), (.str [])] 2 [(0, 1), (1, 1)]) [(.k (.str [64, 55, 40, 49, 41])), (.k (.str [49]))]), (.op (some 23) (.bslice 0 [(.str []), (.str [])] 2 [(0, 1), (1, 1)]) [(.k (.str [64, 55, 40, 49, 32, 64, 50, 41])), (.k (.str [49]))]), (.op (some 24) (.bslice 0 [(.str []), (.str [])] 2 [(0, 1), (1, 1)]) [(.k (.str [33])), (.k (.str [95]))]), (.op (some 25) (.bslice 0 [(.str []), (.str [])] 2 [(0, 1), (1, 1)]) [(.k (.str [64, 51])), (.k (.str [33]))]), (.op (some 26) (.bslice 0 [(.str []), (.str [])] 2 [(0, 1), (1, 1)]) [(.k (.str [49])), (.k (.str [33]))]), (.op (some 27) (.bslice 0 [(.str []), (.str [])] 2 [(0, 1), (1, 1)]) [(.k (.str [64, 55, 40, 33, 32, 51, 41])), (.k (.str [45, 51]))]), (.op (some 28) (.bslice 0 [(.str []), (.str [])] 2 [(0, 1), (1, 1)]) [(.k (.str [51, 50, 55, 54, 55])), (.k (.str [49]))])]), (.v 2 (some 30))])])])]) <|
 .seq (.reg [
  .set 4 (.op (some 5) .mov [(.op (some 36) .load1 [(.op (some 35) (.iadr 1) [(.op (some 33) (.bslice 0 [(.str []), (.str []), (.str []), (.str []), (.str []), (.str []), (.str []), (.str []), (.str []), (.str []), (.str []), (.str []), (.str []), (.str []), (.str []), (.str [])] 16 [(0, 1), (1, 1), (2, 1), (3, 1), (4, 1), (5, 1), (6, 1), (7, 1), (8, 1), (9, 1), (10, 1), (11, 1), (12, 1), (13, 1), (14, 1), (15, 1)]) [(.k (.str [51])), (.k (.str [52])), (.k (.str [95])), (.k (.str [33])), (.k (.str [51])), (.k (.str [95])), (.k (.str [49])), (.k (.str [50])), (.k (.str [50])), (.k (.str [33])), (.k (.str [33])), (.k (.str [33])), (.k (.str [33])), (.k (.str [33])), (.k (.str [48])), (.k (.str [45, 51, 50, 55, 54, 56]))]), (.v 2 (some 34))])])])]) <|
 .seq (.reg [
  .set 5 (.op (some 6) .mov [(.op (some 40) .load1 [(.op (some 39) (.iadr 1) [(.op (some 37) (.bslice 0 [(.bool false), (.bool false), (.bool false), (.bool false), (.bool false), (.bool false), (.bool false), (.bool false), (.bool false), (.bool false), (.bool false), (.bool false), (.bool false), (.bool false), (.bool false), (.bool false)] 16 [(0, 1), (1, 1), (2, 1), (3, 1), (4, 1), (5, 1), (6, 1), (7, 1), (8, 1), (9, 1), (10, 1), (11, 1), (12, 1), (13, 1), (14, 1), (15, 1)]) [(.k (.bool true)), (.k (.bool false)), (.k (.bool true)), (.k (.bool false)), (.k (.bool false)), (.k (.bool true)), (.k (.bool false)), (.k (.bool true)), (.k (.bool false)), (.k (.bool true)), (.k (.bool true)), (.k (.bool true)), (.k (.bool true)), (.k (.bool true)), (.k (.bool true)), (.k (.bool true))]), (.v 2 (some 38))])])])]) <|
 .seq (.reg [
  .set 8 (.op (some 41) .mov [(.op (some 46) (.call 152) [(.op (some 42) (.call 151) []), (.op (some 45) (.build [(.int .i64 0), (.int .i64 0), .nils, (.str [])] [(0, 1), (2, 1), (3, 1)]) [(.k (.int .i64 1)), (.v 3 (some 43)), (.v 4 (some 44))]), (.k (.int .i64 60))])]),
  .set 9 (.op (some 47) (.ext 0) [(.v 8 none)]),
  .set 10 (.op (some 48) (.ext 1) [(.v 8 none)]),
  .set 6 (.op (some 7) .mov [(.v 9 none)]),
  .set 7 (.op (some 8) .mov [(.v 10 none)])]) <|
 .seq (.reg [
  .set 1 (.op (some 2) .mov [(.and 52 56 (.op (some 51) (.binI .eql) [(.op (some 50) (.call 16) [(.v 7 (some 49))]), (.k (.int .i64 0))]) (.op (some 55) (.eqB false) [(.v 6 (some 53)), (.v 5 (some 54))]))])]) <|
 .ret
end Am.T
