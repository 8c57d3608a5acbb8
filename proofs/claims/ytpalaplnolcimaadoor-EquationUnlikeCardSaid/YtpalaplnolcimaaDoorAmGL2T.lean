/- Functions of the program, as the abstract machine has them. -/
import Derived.Test.YtpalaplnolcimaaDoorAmJc
namespace Am.T
open Go
/- sleuth/sleuthlaw2.Terms -/
def s4_sleuthlaw2_Terms : SFn := .src 118 [0, 1, 2, 3, 8, 9, 10, 11, 12, 13, 14, 15, 16, 17, 18, 19, 20, 21, 22, 23, 26, 29, 30, 31, 32, 33, 36, 37, 38, 39, 40, 45, 46, 47, 52, 53, 95, 100, 101] [.tmp 4] <|
 .seq (.reg [
  .set 4 (.op (some 8) .mov [(.k (.bool false))])]) <|
 .seq (.reg [
  .set 5 (.op (some 9) .mov [(.op (some 25) (.call 10) [(.v 3 (some 24))])])]) <|
 .seq (.reg [
  .set 20 (.op (some 26) .mov [(.op (some 28) (.call 11) [(.v 0 (some 27))])]),
  .set 21 (.op (some 29) (.ext 0) [(.v 20 none)]),
  .set 22 (.op (some 30) (.ext 1) [(.v 20 none)]),
  .set 23 (.op (some 31) (.ext 2) [(.v 20 none)]),
  .set 24 (.op (some 32) (.ext 3) [(.v 20 none)]),
  .set 6 (.op (some 10) .mov [(.v 21 none)]),
  .set 7 (.op (some 11) .mov [(.v 22 none)]),
  .set 8 (.op (some 12) .mov [(.v 23 none)]),
  .set 9 (.op (some 13) .mov [(.v 24 none)])]) <|
 .seq (.reg [
  .set 25 (.op (some 33) .mov [(.op (some 35) (.call 12) [(.v 0 (some 34))])]),
  .set 26 (.op (some 36) (.ext 0) [(.v 25 none)]),
  .set 27 (.op (some 37) (.ext 1) [(.v 25 none)]),
  .set 28 (.op (some 38) (.ext 2) [(.v 25 none)]),
  .set 29 (.op (some 39) (.ext 3) [(.v 25 none)]),
  .set 10 (.op (some 14) .mov [(.v 26 none)]),
  .set 11 (.op (some 15) .mov [(.v 27 none)]),
  .set 12 (.op (some 16) .mov [(.v 28 none)]),
  .set 13 (.op (some 17) .mov [(.v 29 none)])]) <|
 .seq (.reg [
  .set 30 (.op (some 40) .mov [(.op (some 44) (.call 13) [(.v 1 (some 41)), (.v 2 (some 42)), (.v 5 (some 43))])]),
  .set 31 (.op (some 45) (.ext 0) [(.v 30 none)]),
  .set 32 (.op (some 46) (.ext 1) [(.v 30 none)]),
  .set 14 (.op (some 18) .mov [(.v 31 none)]),
  .set 15 (.op (some 19) .mov [(.v 32 none)])]) <|
 .seq (.reg [
  .set 33 (.op (some 47) .mov [(.op (some 51) (.call 14) [(.v 1 (some 48)), (.v 2 (some 49)), (.v 3 (some 50))])]),
  .set 34 (.op (some 52) (.ext 0) [(.v 33 none)]),
  .set 35 (.op (some 53) (.ext 1) [(.v 33 none)]),
  .set 16 (.op (some 20) .mov [(.v 34 none)]),
  .set 17 (.op (some 21) .mov [(.v 35 none)])]) <|
 .seq (.ifr [] (.or 85 91 (.or 79 84 (.or 74 78 (.or 68 73 (.or 62 67 (.or 57 61 (.op (some 56) (.binI .neq) [(.v 6 (some 54)), (.v 10 (some 55))]) (.op (some 60) (.binI .neq) [(.v 7 (some 58)), (.v 11 (some 59))])) (.op (some 66) .notB [(.op (some 65) (.call 15) [(.v 8 (some 63)), (.v 12 (some 64))])])) (.op (some 72) (.binI .neq) [(.op (some 70) (.call 16) [(.v 9 (some 69))]), (.v 13 (some 71))])) (.op (some 77) (.binS .neq) [(.v 14 (some 75)), (.v 16 (some 76))])) (.op (some 83) (.binI .neq) [(.op (some 81) (.call 16) [(.v 15 (some 80))]), (.v 17 (some 82))])) (.op (some 90) (.eqB true) [(.op (some 87) (.call 17) [(.v 0 (some 86))]), (.op (some 89) (.call 18) [(.v 0 (some 88))])]))
  (.seq (.reg [
   .set 4 (.op (some 8) .mov [(.k (.bool false))])]) <|
  .ret)
  (.skip)) <|
 .seq (.ifr [] (.op (some 94) (.binI .eql) [(.op (some 93) (.call 16) [(.v 9 (some 92))]), (.k (.int .i64 0))])
  (.seq (.reg [
   .set 36 (.op (some 95) .mov [(.op (some 99) (.call 13) [(.v 6 (some 96)), (.v 7 (some 97)), (.v 8 (some 98))])]),
   .set 37 (.op (some 100) (.ext 0) [(.v 36 none)]),
   .set 38 (.op (some 101) (.ext 1) [(.v 36 none)]),
   .set 18 (.op (some 22) .mov [(.v 37 none)]),
   .set 19 (.op (some 23) .mov [(.v 38 none)])]) <|
  .ifr [] (.or 105 109 (.op (some 104) (.binS .neq) [(.v 18 (some 102)), (.v 0 (some 103))]) (.op (some 108) (.binI .neq) [(.op (some 107) (.call 16) [(.v 19 (some 106))]), (.k (.int .i64 0))]))
   (.seq (.reg [
    .set 4 (.op (some 8) .mov [(.k (.bool false))])]) <|
   .ret)
   (.skip))
  (.skip)) <|
 .seq (.reg [
  .ef (.op (some 111) (.call 19) [(.v 8 (some 110))])]) <|
 .seq (.reg [
  .set 4 (.op (some 8) .mov [(.and 115 117 (.op (some 114) (.call 20) [(.v 5 (some 112)), (.v 3 (some 113))]) (.op (some 116) (.call 21) []))])]) <|
 .ret

/- sleuth/sleuthlaw2.TermLong -/
def s7_sleuthlaw2_TermLong : SFn := .src 46 [0, 2, 3, 4, 5, 6, 7] [.tmp 1] <|
 .seq (.reg [
  .set 1 (.op (some 2) .mov [(.k (.bool false))])]) <|
 .seq (.ifr [] (.op (some 9) .notB [(.op (some 8) (.call 21) [])])
  (.seq (.reg [
   .set 1 (.op (some 2) .mov [(.k (.bool false))])]) <|
  .ret)
  (.skip)) <|
 .seq (.reg [
  .set 2 (.op (some 3) .mov [(.k (.str []))]),
  .set 3 (.op (some 4) .mov [(.k (.str []))])]) <|
 .seq (.seq (.reg [
  .set 4 (.op (some 5) .mov [(.k (.int .i64 0))])]) <|
 .block 0 <|
  .loop [0, 2, 3, 4] <|
   .seq (.ifr [] (.op (some 11) (.binI .lss) [(.v 4 (some 10)), (.k (.int .i64 254))])
    (.skip)
    (.exit 0)) <|
   .seq (.block 1 <|
    .seq (.reg [
     .set 2 (.op (some 3) .mov [(.op (some 15) (.binS .add) [(.v 2 (some 14)), (.k (.str [64, 49, 40]))])])]) <|
    .reg [
     .set 3 (.op (some 4) .mov [(.op (some 17) (.binS .add) [(.v 3 (some 16)), (.k (.str [41]))])])]) <|
   .reg [
    .set 4 (.op (some 5) .mov [(.op (some 13) (.binI .add) [(.v 4 (some 12)), (.k (.int .i64 1))])])]) <|
 .seq (.reg [
  .set 5 (.op (some 6) .mov [(.op (some 19) (.binI .and) [(.v 0 (some 18)), (.k (.int .i64 15))])])]) <|
 .seq (.reg [
  .set 6 (.op (some 7) .mov [(.op (some 27) (.binS .add) [(.op (some 25) (.binS .add) [(.v 2 (some 20)), (.op (some 24) .load1 [(.op (some 23) (.iadr 1) [(.op (some 21) (.bslice 0 [(.str []), (.str []), (.str []), (.str []), (.str []), (.str []), (.str []), (.str []), (.str []), (.str []), (.str []), (.str []), (.str []), (.str []), (.str []), (.str [])] 16 [(0, 1), (1, 1), (2, 1), (3, 1), (4, 1), (5, 1), (6, 1), (7, 1), (8, 1), (9, 1), (10, 1), (11, 1), (12, 1), (13, 1), (14, 1), (15, 1)]) [(.k (.str [49])), (.k (.str [49, 50])), (.k (.str [49, 50, 51])), (.k (.str [49, 50, 51, 52])), (.k (.str [49, 50, 51, 52, 53])), (.k (.str [45, 49, 50, 51, 52, 53])), (.k (.str [64, 49, 40, 49, 50, 51, 41])), (.k (.str [64, 49, 40, 49, 50, 51, 52, 41])), (.k (.str [64, 49, 40, 49, 50, 51, 52, 53, 41])), (.k (.str [64, 49, 40, 49, 32, 50, 32, 51, 41])), (.k (.str [64, 49, 40, 45, 49, 50, 51, 52, 53, 41])), (.k (.str [64, 49, 40, 49, 32, 50, 41])), (.k (.str [64, 57, 57, 40, 49, 41])), (.k (.str [64, 57, 57, 40, 49, 50, 41])), (.k (.str [64, 57, 57, 40, 49, 50, 51, 41])), (.k (.str [64, 57, 57, 40, 49, 50, 51, 52, 41]))]), (.v 5 (some 22))])])]), (.v 3 (some 26))])])]) <|
 .seq (.reg [
  .set 1 (.op (some 2) .mov [(.and 38 45 (.and 30 37 (.op (some 29) (.binI .eql) [(.op (some 28) (.call 16) [(.k (.int .i64 0))]), (.k (.int .i64 0))]) (.op (some 36) (.eqB false) [(.op (some 32) (.call 17) [(.v 6 (some 31))]), (.op (some 35) (.binI .leq) [(.op (some 34) .lenS [(.v 6 (some 33))]), (.k (.int .i64 1024))])])) (.op (some 44) (.eqB false) [(.op (some 40) (.call 18) [(.v 6 (some 39))]), (.op (some 43) (.binI .leq) [(.op (some 42) .lenS [(.v 6 (some 41))]), (.k (.int .i64 1024))])]))])]) <|
 .ret

/- sleuth/sleuthlaw2.TermNumbers -/
def s8_sleuthlaw2_TermNumbers : SFn := .src 118 [0, 1, 4, 5, 6, 7, 8, 9, 10, 11, 12, 13, 14, 15, 16, 17, 18, 23, 27, 28, 31, 32, 33, 36, 37, 38, 39, 40, 45, 46, 47, 50, 51, 52, 53] [.tmp 2] <|
 .seq (.reg [
  .set 2 (.op (some 4) .mov [(.k (.bool false))])]) <|
 .seq (.ifr [] (.op (some 20) .notB [(.op (some 19) (.call 21) [])])
  (.seq (.reg [
   .set 2 (.op (some 4) .mov [(.k (.bool false))])]) <|
  .ret)
  (.skip)) <|
 .seq (.reg [
  .set 17 (.op (some 23) (.binI .sub) [(.op (some 22) (.binI .and) [(.v 0 (some 21)), (.k (.int .i64 65535))]), (.k (.int .i64 32768))]),
  .set 18 (.op (some 27) (.conv .i64) [(.op (some 26) (.binI .rem) [(.op (some 25) (.conv .u64) [(.v 1 (some 24))]), (.k (.int .u64 100))])]),
  .set 3 (.op (some 5) .mov [(.v 17 none)]),
  .set 4 (.op (some 6) .mov [(.v 18 none)])]) <|
 .seq (.reg [
  .set 19 (.op (some 28) .mov [(.op (some 30) (.call 13) [(.k (.int .i64 1)), (.v 3 (some 29)), (.k .nils)])]),
  .set 20 (.op (some 31) (.ext 0) [(.v 19 none)]),
  .set 21 (.op (some 32) (.ext 1) [(.v 19 none)]),
  .set 5 (.op (some 7) .mov [(.v 20 none)]),
  .set 6 (.op (some 8) .mov [(.v 21 none)])]) <|
 .seq (.reg [
  .set 22 (.op (some 33) .mov [(.op (some 35) (.call 11) [(.v 5 (some 34))])]),
  .set 23 (.op (some 36) (.ext 0) [(.v 22 none)]),
  .set 24 (.op (some 37) (.ext 1) [(.v 22 none)]),
  .set 25 (.op (some 38) (.ext 2) [(.v 22 none)]),
  .set 26 (.op (some 39) (.ext 3) [(.v 22 none)]),
  .set 7 (.op (some 9) .mov [(.v 23 none)]),
  .set 8 (.op (some 10) .mov [(.v 24 none)]),
  .set 9 (.op (some 11) .mov [(.v 25 none)]),
  .set 10 (.op (some 12) .mov [(.v 26 none)])]) <|
 .seq (.reg [
  .set 27 (.op (some 40) .mov [(.op (some 44) (.call 13) [(.k (.int .i64 2)), (.v 4 (some 41)), (.op (some 43) (.bslice 0 [(.str [])] 1 [(0, 1)]) [(.v 5 (some 42))])])]),
  .set 28 (.op (some 45) (.ext 0) [(.v 27 none)]),
  .set 29 (.op (some 46) (.ext 1) [(.v 27 none)]),
  .set 11 (.op (some 13) .mov [(.v 28 none)]),
  .set 12 (.op (some 14) .mov [(.v 29 none)])]) <|
 .seq (.reg [
  .set 30 (.op (some 47) .mov [(.op (some 49) (.call 11) [(.v 11 (some 48))])]),
  .set 31 (.op (some 50) (.ext 0) [(.v 30 none)]),
  .set 32 (.op (some 51) (.ext 1) [(.v 30 none)]),
  .set 33 (.op (some 52) (.ext 2) [(.v 30 none)]),
  .set 34 (.op (some 53) (.ext 3) [(.v 30 none)]),
  .set 13 (.op (some 15) .mov [(.v 31 none)]),
  .set 14 (.op (some 16) .mov [(.v 32 none)]),
  .set 15 (.op (some 17) .mov [(.v 33 none)]),
  .set 16 (.op (some 18) .mov [(.v 34 none)])]) <|
 .seq (.reg [
  .set 2 (.op (some 4) .mov [(.and 107 117 (.and 101 106 (.and 96 100 (.and 92 95 (.and 87 91 (.and 82 86 (.and 76 81 (.and 71 75 (.and 66 70 (.and 62 65 (.and 57 61 (.op (some 56) (.binI .eql) [(.op (some 55) (.call 16) [(.v 6 (some 54))]), (.k (.int .i64 0))]) (.op (some 60) (.binI .eql) [(.op (some 59) (.call 16) [(.v 10 (some 58))]), (.k (.int .i64 0))])) (.op (some 64) (.binI .eql) [(.v 7 (some 63)), (.k (.int .i64 1))])) (.op (some 69) (.binI .eql) [(.v 8 (some 67)), (.v 3 (some 68))])) (.op (some 74) (.binI .eql) [(.op (some 73) .lenL [(.v 9 (some 72))]), (.k (.int .i64 0))])) (.op (some 80) (.binS .eql) [(.v 5 (some 77)), (.op (some 79) (.call 22) [(.v 3 (some 78))])])) (.op (some 85) (.binI .eql) [(.op (some 84) (.call 16) [(.v 12 (some 83))]), (.k (.int .i64 0))])) (.op (some 90) (.binI .eql) [(.op (some 89) (.call 16) [(.v 16 (some 88))]), (.k (.int .i64 0))])) (.op (some 94) (.binI .eql) [(.v 13 (some 93)), (.k (.int .i64 2))])) (.op (some 99) (.binI .eql) [(.v 14 (some 97)), (.v 4 (some 98))])) (.op (some 105) (.call 15) [(.v 15 (some 102)), (.op (some 104) (.bslice 0 [(.str [])] 1 [(0, 1)]) [(.v 5 (some 103))])])) (.op (some 116) (.binS .eql) [(.v 11 (some 108)), (.op (some 115) (.binS .add) [(.op (some 114) (.binS .add) [(.op (some 112) (.binS .add) [(.op (some 111) (.binS .add) [(.k (.str [64])), (.op (some 110) (.call 22) [(.v 4 (some 109))])]), (.k (.str [40]))]), (.v 5 (some 113))]), (.k (.str [41]))])]))])]) <|
 .ret

/- sleuth/sleuthlaw2.TermParts -/
def s9_sleuthlaw2_TermParts : SFn := .src 78 [0, 2, 3, 4, 5, 6, 7, 10, 13, 14, 15, 16] [.tmp 1] <|
 .seq (.reg [
  .set 1 (.op (some 2) .mov [(.k (.bool false))])]) <|
 .seq (.ifr [] (.op (some 9) .notB [(.op (some 8) (.call 21) [])])
  (.seq (.reg [
   .set 1 (.op (some 2) .mov [(.k (.bool false))])]) <|
  .ret)
  (.skip)) <|
 .seq (.reg [
  .set 7 (.op (some 10) .mov [(.op (some 12) (.call 11) [(.v 0 (some 11))])]),
  .set 8 (.op (some 13) (.ext 0) [(.v 7 none)]),
  .set 9 (.op (some 14) (.ext 1) [(.v 7 none)]),
  .set 10 (.op (some 15) (.ext 2) [(.v 7 none)]),
  .set 11 (.op (some 16) (.ext 3) [(.v 7 none)]),
  .set 2 (.op (some 3) .mov [(.v 8 none)]),
  .set 3 (.op (some 4) .mov [(.v 9 none)]),
  .set 4 (.op (some 5) .mov [(.v 10 none)]),
  .set 5 (.op (some 6) .mov [(.v 11 none)])]) <|
 .seq (.ifr [] (.op (some 19) (.binI .neq) [(.op (some 18) (.call 16) [(.v 5 (some 17))]), (.k (.int .i64 0))])
  (.seq (.reg [
   .set 1 (.op (some 2) .mov [(.and 31 35 (.and 26 30 (.and 22 25 (.op (some 21) (.binI .eql) [(.v 2 (some 20)), (.k (.int .i64 0))]) (.op (some 24) (.binI .eql) [(.v 3 (some 23)), (.k (.int .i64 0))])) (.op (some 29) (.binI .eql) [(.op (some 28) .lenL [(.v 4 (some 27))]), (.k (.int .i64 0))])) (.op (some 34) .notB [(.op (some 33) (.call 17) [(.v 0 (some 32))])]))])]) <|
  .ret)
  (.skip)) <|
 .seq (.seq (.reg [
  .set 6 (.op (some 7) .mov [(.k (.int .i64 0))])]) <|
 .block 0 <|
  .loop [0, 2, 4, 6] <|
   .seq (.ifr [] (.op (some 39) (.binI .lss) [(.v 6 (some 36)), (.op (some 38) .lenL [(.v 4 (some 37))])])
    (.skip)
    (.exit 0)) <|
   .seq (.block 1 <|
    .ifr [] (.or 58 65 (.or 48 57 (.op (some 47) .notB [(.op (some 46) (.call 17) [(.op (some 45) .load1 [(.op (some 44) (.iadr 1) [(.v 4 (some 42)), (.v 6 (some 43))])])])]) (.op (some 56) (.binI .geq) [(.op (some 53) .lenS [(.op (some 52) .load1 [(.op (some 51) (.iadr 1) [(.v 4 (some 49)), (.v 6 (some 50))])])]), (.op (some 55) .lenS [(.v 0 (some 54))])])) (.op (some 64) .notB [(.op (some 63) (.call 18) [(.op (some 62) .load1 [(.op (some 61) (.iadr 1) [(.v 4 (some 59)), (.v 6 (some 60))])])])]))
     (.seq (.reg [
      .set 1 (.op (some 2) .mov [(.k (.bool false))])]) <|
     .ret)
     (.skip)) <|
   .reg [
    .set 6 (.op (some 7) .mov [(.op (some 41) (.binI .add) [(.v 6 (some 40)), (.k (.int .i64 1))])])]) <|
 .seq (.reg [
  .set 1 (.op (some 2) .mov [(.and 73 77 (.or 68 72 (.op (some 67) (.binI .eql) [(.v 2 (some 66)), (.k (.int .i64 2))]) (.op (some 71) (.binI .eql) [(.op (some 70) .lenL [(.v 4 (some 69))]), (.k (.int .i64 0))])) (.op (some 76) (.binI .leq) [(.op (some 75) .lenL [(.v 4 (some 74))]), (.k (.int .i64 3))]))])]) <|
 .ret

/- sleuth/sleuthlaw2.awake -/
def s21_sleuthlaw2_awake : SFn := .src 76 [0, 1, 2, 3, 4, 5, 6, 10, 12, 13, 15, 16, 17, 18, 19, 22, 23, 24, 26, 27, 28, 29, 30, 32, 33] [.tmp 0] <|
 .seq (.reg [
  .set 0 (.op (some 0) .mov [(.k (.bool false))])]) <|
 .seq (.reg [
  .set 9 (.op (some 13) .mov [(.op (some 14) (.call 11) [(.k (.str [64, 49, 50, 40, 45, 55, 32, 64, 48, 32, 95, 41]))])]),
  .set 10 (.op (some 15) (.ext 0) [(.v 9 none)]),
  .set 11 (.op (some 16) (.ext 1) [(.v 9 none)]),
  .set 12 (.op (some 17) (.ext 2) [(.v 9 none)]),
  .set 13 (.op (some 18) (.ext 3) [(.v 9 none)]),
  .set 1 (.op (some 1) .mov [(.v 10 none)]),
  .set 2 (.op (some 2) .mov [(.v 11 none)]),
  .set 3 (.op (some 3) .mov [(.v 12 none)]),
  .set 4 (.op (some 4) .mov [(.v 13 none)])]) <|
 .seq (.reg [
  .set 14 (.op (some 19) .mov [(.op (some 21) (.call 13) [(.k (.int .i64 2)), (.k (.int .i64 12)), (.op (some 20) (.bslice 0 [(.str []), (.str []), (.str [])] 3 [(0, 1), (1, 1), (2, 1)]) [(.k (.str [45, 55])), (.k (.str [64, 48])), (.k (.str [95]))])])]),
  .set 15 (.op (some 22) (.ext 0) [(.v 14 none)]),
  .set 16 (.op (some 23) (.ext 1) [(.v 14 none)]),
  .set 5 (.op (some 5) .mov [(.v 15 none)]),
  .set 6 (.op (some 6) .mov [(.v 16 none)])]) <|
 .seq (.reg [
  .set 17 (.op (some 24) .mov [(.op (some 25) (.call 11) [(.k (.str [64, 49, 40, 41]))])]),
  .set 18 (.op (some 26) (.ext 0) [(.v 17 none)]),
  .set 19 (.op (some 27) (.ext 1) [(.v 17 none)]),
  .set 20 (.op (some 28) (.ext 2) [(.v 17 none)]),
  .set 21 (.op (some 29) (.ext 3) [(.v 17 none)]),
  .ef (.v 18 (some 7)),
  .ef (.v 19 (some 8)),
  .ef (.v 20 (some 9)),
  .set 7 (.op (some 10) .mov [(.v 21 none)])]) <|
 .seq (.reg [
  .set 22 (.op (some 30) .mov [(.op (some 31) (.call 13) [(.k (.int .i64 1)), (.k (.int .i64 32768)), (.k .nils)])]),
  .set 23 (.op (some 32) (.ext 0) [(.v 22 none)]),
  .set 24 (.op (some 33) (.ext 1) [(.v 22 none)]),
  .ef (.v 23 (some 11)),
  .set 8 (.op (some 12) .mov [(.v 24 none)])]) <|
 .seq (.reg [
  .set 0 (.op (some 0) .mov [(.and 72 75 (.and 69 71 (.and 64 68 (.and 59 63 (.and 54 58 (.and 50 53 (.and 45 49 (.and 40 44 (.and 36 39 (.op (some 35) (.binI .eql) [(.v 1 (some 34)), (.k (.int .i64 2))]) (.op (some 38) (.binI .eql) [(.v 2 (some 37)), (.k (.int .i64 12))])) (.op (some 43) (.call 15) [(.v 3 (some 41)), (.op (some 42) (.bslice 0 [(.str []), (.str []), (.str [])] 3 [(0, 1), (1, 1), (2, 1)]) [(.k (.str [45, 55])), (.k (.str [64, 48])), (.k (.str [95]))])])) (.op (some 48) (.binI .eql) [(.op (some 47) (.call 16) [(.v 4 (some 46))]), (.k (.int .i64 0))])) (.op (some 52) (.binS .eql) [(.v 5 (some 51)), (.k (.str [64, 49, 50, 40, 45, 55, 32, 64, 48, 32, 95, 41]))])) (.op (some 57) (.binI .eql) [(.op (some 56) (.call 16) [(.v 6 (some 55))]), (.k (.int .i64 0))])) (.op (some 62) (.binI .eql) [(.op (some 61) (.call 16) [(.v 7 (some 60))]), (.k (.int .i64 200))])) (.op (some 67) (.binI .eql) [(.op (some 66) (.call 16) [(.v 8 (some 65))]), (.k (.int .i64 200))])) (.op (some 70) (.call 17) [(.k (.str [33]))])) (.op (some 74) .notB [(.op (some 73) (.call 17) [(.k (.str [48, 49]))])]))])]) <|
 .ret
end Am.T
