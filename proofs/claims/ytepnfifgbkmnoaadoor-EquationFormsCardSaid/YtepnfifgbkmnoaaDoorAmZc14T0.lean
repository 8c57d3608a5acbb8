/- Functions of the program, as the abstract machine has them. -/
import Derived.Test.YtepnfifgbkmnoaaDoorAmSrc2
namespace Am.T
open Go
/- sleuth/sleuthlaw0.Num -/
def s16_sleuthlaw0_Num : SFn := .src 4 [0, 2] [.tmp 1] <|
 .seq (.reg [
  .set 1 (.op (some 2) .mov [(.k (.int .i64 0))])]) <|
 .seq (.reg [
  .set 1 (.op (some 2) .mov [(.v 0 (some 3))])]) <|
 .ret

/- sleuth/term.May -/
def s17_term_May : SFn := .src 24 [0, 2, 6, 7, 11, 14, 15, 16, 17, 18] [.tmp 1] <|
 .seq (.reg [
  .set 1 (.op (some 2) .mov [(.k (.bool false))])]) <|
 .seq (.ifr [] (.op (some 10) (.binI .gtr) [(.op (some 9) .lenS [(.v 0 (some 8))]), (.k (.int .i64 1024))])
  (.seq (.reg [
   .set 1 (.op (some 2) .mov [(.k (.bool false))])]) <|
  .ret)
  (.skip)) <|
 .seq (.reg [
  .set 4 (.op (some 11) .mov [(.op (some 13) (.call 24) [(.v 0 (some 12))])]),
  .set 5 (.op (some 14) (.ext 0) [(.v 4 none)]),
  .set 6 (.op (some 15) (.ext 1) [(.v 4 none)]),
  .set 7 (.op (some 16) (.ext 2) [(.v 4 none)]),
  .set 8 (.op (some 17) (.ext 3) [(.v 4 none)]),
  .set 9 (.op (some 18) (.ext 4) [(.v 4 none)]),
  .ef (.v 5 (some 3)),
  .ef (.v 6 (some 4)),
  .ef (.v 7 (some 5)),
  .set 2 (.op (some 6) .mov [(.v 8 none)]),
  .set 3 (.op (some 7) .mov [(.v 9 none)])]) <|
 .seq (.reg [
  .set 1 (.op (some 2) .mov [(.and 20 23 (.v 3 (some 19)) (.op (some 22) (.binS .eql) [(.v 2 (some 21)), (.k (.str []))]))])]) <|
 .ret

/- sleuth/sleuthref0.Decimal -/
def s22_sleuthref0_Decimal : SFn := .src 37 [0, 2, 3, 4] [.tmp 1] <|
 .seq (.reg [
  .set 1 (.op (some 2) .mov [(.k (.str []))])]) <|
 .seq (.reg [
  .set 2 (.op (some 3) .mov [(.op (some 6) (.conv .u64) [(.v 0 (some 5))])])]) <|
 .seq (.ifr [] (.op (some 8) (.binI .lss) [(.v 0 (some 7)), (.k (.int .i64 0))])
  (.reg [
   .set 2 (.op (some 3) .mov [(.op (some 13) (.binI .add) [(.op (some 12) (.conv .u64) [(.op (some 11) .negI [(.op (some 10) (.binI .add) [(.v 0 (some 9)), (.k (.int .i64 1))])])]), (.k (.int .u64 1))])])])
  (.skip)) <|
 .seq (.reg [
  .set 3 (.op (some 4) .mov [(.k .nils)])]) <|
 .seq (.block 0 <|
  .loop [0, 2, 3] <|
   .seq (.ifr [] (.or 16 20 (.op (some 15) (.binI .gtr) [(.v 2 (some 14)), (.k (.int .u64 0))]) (.op (some 19) (.binI .eql) [(.op (some 18) .lenL [(.v 3 (some 17))]), (.k (.int .i64 0))]))
    (.skip)
    (.exit 0)) <|
   .block 1 <|
    .seq (.reg [
     .set 3 (.op (some 4) .mov [(.op (some 27) (.app 0 1 1) [(.op (some 25) (.bslice 0 [(.int .u8 0)] 1 [(0, 1)]) [(.op (some 24) (.conv .u8) [(.op (some 23) (.binI .add) [(.k (.int .u64 48)), (.op (some 22) (.binI .rem) [(.v 2 (some 21)), (.k (.int .u64 10))])])])]), (.v 3 (some 26))])])]) <|
    .reg [
     .set 2 (.op (some 3) .mov [(.op (some 29) (.binI .quo) [(.v 2 (some 28)), (.k (.int .u64 10))])])]) <|
 .seq (.ifr [] (.op (some 31) (.binI .lss) [(.v 0 (some 30)), (.k (.int .i64 0))])
  (.reg [
   .set 3 (.op (some 4) .mov [(.op (some 34) (.app 0 1 1) [(.op (some 32) (.bslice 0 [(.int .u8 0)] 1 [(0, 1)]) [(.k (.int .u8 45))]), (.v 3 (some 33))])])])
  (.skip)) <|
 .seq (.reg [
  .set 1 (.op (some 2) .mov [(.op (some 36) .b2s [(.v 3 (some 35))])])]) <|
 .ret

/- sleuth/term.cut -/
def s24_term_cut : SFn := .src 94 [0, 2, 3, 4, 5, 6, 7, 8, 9, 10, 11, 12, 13, 14, 18, 19, 20, 21, 22, 25, 26, 29, 32, 33, 36, 37, 39, 40, 41, 44, 45, 53, 54, 55, 61, 64, 65, 66, 67, 68, 80, 81, 85, 88, 89, 90, 91, 92, 93] [.tmp 1, .tmp 2, .tmp 3, .tmp 4, .tmp 5] <|
 .seq (.reg [
  .set 1 (.op (some 2) .mov [(.k (.int .i64 0))]),
  .set 2 (.op (some 3) .mov [(.k (.int .i64 0))]),
  .set 3 (.op (some 4) .mov [(.k .nils)]),
  .set 4 (.op (some 5) .mov [(.k (.str []))]),
  .set 5 (.op (some 6) .mov [(.k (.bool false))])]) <|
 .seq (.reg [
  .set 18 (.op (some 22) .mov [(.op (some 24) (.call 33) [(.v 0 (some 23))])]),
  .set 19 (.op (some 25) (.ext 0) [(.v 18 none)]),
  .set 20 (.op (some 26) (.ext 1) [(.v 18 none)]),
  .set 6 (.op (some 7) .mov [(.v 19 none)]),
  .set 7 (.op (some 8) .mov [(.v 20 none)])]) <|
 .seq (.ifr [] (.op (some 28) (.binS .eql) [(.v 6 (some 27)), (.k (.str [95]))])
  (.seq (.reg [
   .set 21 (.op (some 29) .mov [(.v 7 none)]),
   .set 1 (.op (some 2) .mov [(.k (.int .i64 0))]),
   .set 2 (.op (some 3) .mov [(.k (.int .i64 0))]),
   .set 3 (.op (some 4) .mov [(.k .nils)]),
   .set 4 (.op (some 5) .mov [(.v 21 none)]),
   .set 5 (.op (some 6) .mov [(.k (.bool true))])]) <|
  .ret)
  (.skip)) <|
 .seq (.ifr [] (.op (some 31) (.binS .eql) [(.v 6 (some 30)), (.k (.str [33]))])
  (.seq (.reg [
   .set 22 (.op (some 32) .mov [(.v 7 none)]),
   .set 1 (.op (some 2) .mov [(.k (.int .i64 3))]),
   .set 2 (.op (some 3) .mov [(.k (.int .i64 0))]),
   .set 3 (.op (some 4) .mov [(.k .nils)]),
   .set 4 (.op (some 5) .mov [(.v 22 none)]),
   .set 5 (.op (some 6) .mov [(.k (.bool true))])]) <|
  .ret)
  (.skip)) <|
 .seq (.seq (.reg [
  .set 23 (.op (some 33) .mov [(.op (some 35) (.call 34) [(.v 6 (some 34))])]),
  .set 24 (.op (some 36) (.ext 0) [(.v 23 none)]),
  .set 25 (.op (some 37) (.ext 1) [(.v 23 none)]),
  .set 8 (.op (some 9) .mov [(.v 24 none)]),
  .set 9 (.op (some 10) .mov [(.v 25 none)])]) <|
 .ifr [] (.v 9 (some 38))
  (.seq (.reg [
   .set 26 (.op (some 39) .mov [(.v 8 none)]),
   .set 27 (.op (some 40) .mov [(.v 7 none)]),
   .set 1 (.op (some 2) .mov [(.k (.int .i64 1))]),
   .set 2 (.op (some 3) .mov [(.v 26 none)]),
   .set 3 (.op (some 4) .mov [(.k .nils)]),
   .set 4 (.op (some 5) .mov [(.v 27 none)]),
   .set 5 (.op (some 6) .mov [(.k (.bool true))])]) <|
  .ret)
  (.skip)) <|
 .seq (.reg [
  .set 28 (.op (some 41) .mov [(.op (some 43) (.call 35) [(.v 6 (some 42))])]),
  .set 29 (.op (some 44) (.ext 0) [(.v 28 none)]),
  .set 30 (.op (some 45) (.ext 1) [(.v 28 none)]),
  .set 10 (.op (some 11) .mov [(.v 29 none)]),
  .set 11 (.op (some 12) .mov [(.v 30 none)])]) <|
 .seq (.ifr [] (.or 48 52 (.op (some 47) .notB [(.v 11 (some 46))]) (.op (some 51) .notB [(.op (some 50) (.call 36) [(.v 7 (some 49)), (.k (.str [40]))])]))
  (.seq (.reg [
   .set 31 (.op (some 53) .mov [(.v 10 none)]),
   .set 32 (.op (some 54) .mov [(.v 7 none)]),
   .set 33 (.op (some 55) .mov [(.v 11 none)]),
   .set 1 (.op (some 2) .mov [(.k (.int .i64 2))]),
   .set 2 (.op (some 3) .mov [(.v 31 none)]),
   .set 3 (.op (some 4) .mov [(.k .nils)]),
   .set 4 (.op (some 5) .mov [(.v 32 none)]),
   .set 5 (.op (some 6) .mov [(.v 33 none)])]) <|
  .ret)
  (.skip)) <|
 .seq (.reg [
  .set 12 (.op (some 13) .mov [(.k .nils)])]) <|
 .seq (.block 0 <|
  .loop [7, 10, 12] <|
   .seq (.ifr [] (.op (some 58) (.binI .lss) [(.op (some 57) .lenL [(.v 12 (some 56))]), (.k (.int .i64 3))])
    (.skip)
    (.exit 0)) <|
   .block 1 <|
    .seq (.reg [
     .set 13 (.op (some 14) .mov [(.op (some 60) (.slS true false) [(.v 7 (some 59)), (.k (.int .i64 1))])])]) <|
    .seq (.reg [
     .set 34 (.op (some 61) .mov [(.op (some 63) (.call 24) [(.v 13 (some 62))])]),
     .set 35 (.op (some 64) (.ext 0) [(.v 34 none)]),
     .set 36 (.op (some 65) (.ext 1) [(.v 34 none)]),
     .set 37 (.op (some 66) (.ext 2) [(.v 34 none)]),
     .set 38 (.op (some 67) (.ext 3) [(.v 34 none)]),
     .set 39 (.op (some 68) (.ext 4) [(.v 34 none)]),
     .ef (.v 35 (some 15)),
     .ef (.v 36 (some 16)),
     .ef (.v 37 (some 17)),
     .set 14 (.op (some 18) .mov [(.v 38 none)]),
     .set 15 (.op (some 19) .mov [(.v 39 none)])]) <|
    .seq (.ifr [] (.op (some 70) .notB [(.v 15 (some 69))])
     (.seq (.reg [
      .set 1 (.op (some 2) .mov [(.k (.int .i64 0))]),
      .set 2 (.op (some 3) .mov [(.k (.int .i64 0))]),
      .set 3 (.op (some 4) .mov [(.k .nils)]),
      .set 4 (.op (some 5) .mov [(.k (.str []))]),
      .set 5 (.op (some 6) .mov [(.k (.bool false))])]) <|
     .ret)
     (.skip)) <|
    .seq (.reg [
     .set 40 (.op (some 80) (.app 0 1 16) [(.v 12 (some 71)), (.op (some 79) (.bslice 0 [(.str [])] 1 [(0, 1)]) [(.op (some 78) (.slS false true) [(.v 13 (some 72)), (.op (some 77) (.binI .sub) [(.op (some 74) .lenS [(.v 13 (some 73))]), (.op (some 76) .lenS [(.v 14 (some 75))])])])])]),
     .set 41 (.op (some 81) .mov [(.v 14 none)]),
     .set 12 (.op (some 13) .mov [(.v 40 none)]),
     .set 7 (.op (some 8) .mov [(.v 41 none)])]) <|
    .ifr [] (.op (some 84) .notB [(.op (some 83) (.call 36) [(.v 7 (some 82)), (.k (.str [32]))])])
     (.exit 0)
     (.skip)) <|
 .seq (.reg [
  .set 42 (.op (some 85) .mov [(.op (some 87) (.call 37) [(.v 7 (some 86)), (.k (.str [41]))])]),
  .set 43 (.op (some 88) (.ext 0) [(.v 42 none)]),
  .set 44 (.op (some 89) (.ext 1) [(.v 42 none)]),
  .set 16 (.op (some 20) .mov [(.v 43 none)]),
  .set 17 (.op (some 21) .mov [(.v 44 none)])]) <|
 .seq (.reg [
  .set 45 (.op (some 90) .mov [(.v 10 none)]),
  .set 46 (.op (some 91) .mov [(.v 12 none)]),
  .set 47 (.op (some 92) .mov [(.v 16 none)]),
  .set 48 (.op (some 93) .mov [(.v 17 none)]),
  .set 1 (.op (some 2) .mov [(.k (.int .i64 2))]),
  .set 2 (.op (some 3) .mov [(.v 45 none)]),
  .set 3 (.op (some 4) .mov [(.v 46 none)]),
  .set 4 (.op (some 5) .mov [(.v 47 none)]),
  .set 5 (.op (some 6) .mov [(.v 48 none)])]) <|
 .ret

/- sleuth/term.All -/
def s26_term_All : SFn := .src 15 [0, 2, 4, 5, 6, 7, 8] [.tmp 1] <|
 .seq (.reg [
  .set 1 (.op (some 2) .mov [(.k (.bool false))])]) <|
 .seq (.seq (.reg [
  .set 3 (.op (some 5) .mov [(.v 0 none)]),
  .set 4 (.op (some 6) .lenL [(.v 3 none)]),
  .set 5 (.op (some 7) .mov [(.k (.int .i64 0))])]) <|
 .block 0 <|
  .loop [3, 4, 5] <|
   .seq (.reg [
    .set 6 (.op (some 8) (.binI .lss) [(.v 5 none), (.v 4 none)])]) <|
   .seq (.cond (.t 6)
    (.skip)
    (.exit 0)) <|
   .seq (.block 1 <|
    .seq (.reg [
     .set 2 (.op (some 4) .mov [(.op (some 10) .load1 [(.op (some 9) (.iadr 1) [(.v 3 none), (.v 5 none)])])])]) <|
    .ifr [] (.op (some 13) .notB [(.op (some 12) (.call 17) [(.v 2 (some 11))])])
     (.seq (.reg [
      .set 1 (.op (some 2) .mov [(.k (.bool false))])]) <|
     .ret)
     (.skip)) <|
   .reg [
    .set 5 (.op (some 7) .mov [(.op (some 14) (.binI .add) [(.v 5 none), (.k (.int .i64 1))])])]) <|
 .seq (.reg [
  .set 1 (.op (some 2) .mov [(.k (.bool true))])]) <|
 .ret

/- sleuth/prim.May -/
def s28_prim_May : SFn := .src 9 [0, 2] [.tmp 1] <|
 .seq (.reg [
  .set 1 (.op (some 2) .mov [(.k (.bool false))])]) <|
 .seq (.reg [
  .set 1 (.op (some 2) .mov [(.and 5 8 (.op (some 4) (.binI .geq) [(.v 0 (some 3)), (.k (.int .i64 (-32768)))]) (.op (some 7) (.binI .leq) [(.v 0 (some 6)), (.k (.int .i64 32767))]))])]) <|
 .ret

/- sleuth/term.word -/
def s33_term_word : SFn := .src 17 [0, 2, 3, 4] [.tmp 1, .tmp 2] <|
 .seq (.reg [
  .set 1 (.op (some 2) .mov [(.k (.str []))]),
  .set 2 (.op (some 3) .mov [(.k (.str []))])]) <|
 .seq (.reg [
  .set 3 (.op (some 4) .mov [(.op (some 6) (.call 44) [(.v 0 (some 5)), (.k (.str [32, 40, 41]))])])]) <|
 .seq (.ifr [] (.op (some 8) (.binI .lss) [(.v 3 (some 7)), (.k (.int .i64 0))])
  (.reg [
   .set 3 (.op (some 4) .mov [(.op (some 10) .lenS [(.v 0 (some 9))])])])
  (.skip)) <|
 .seq (.dreg [11, 12, 13, 14, 15, 16] [
  ⟨(some 4), .mov, [.t 0], none⟩,
  ⟨(some 5), .mov, [.t 3], none⟩,
  ⟨(some 6), .slS false true, [.t 4, .t 5], none⟩,
  ⟨(some 7), .mov, [.t 0], none⟩,
  ⟨(some 8), .mov, [.t 3], none⟩,
  ⟨(some 9), .slS true false, [.t 7, .t 8], none⟩,
  ⟨(some 1), .mov, [.t 6], none⟩,
  ⟨(some 2), .mov, [.t 9], none⟩]
  [.op 0, .op 1, .op 2, .op 3, .op 4, .op 5, .op 6, .op 7]) <|
 .ret

/- sleuth/term.Number -/
def s34_term_Number : SFn := .src 24 [0, 2, 3, 4, 5, 6, 9, 10, 11, 23] [.tmp 1, .tmp 2] <|
 .seq (.reg [
  .set 1 (.op (some 2) .mov [(.k (.int .i64 0))]),
  .set 2 (.op (some 3) .mov [(.k (.bool false))])]) <|
 .seq (.reg [
  .set 5 (.op (some 6) .mov [(.op (some 8) (.call 45) [(.v 0 (some 7))])]),
  .set 6 (.op (some 9) (.ext 0) [(.v 5 none)]),
  .set 7 (.op (some 10) (.ext 1) [(.v 5 none)]),
  .set 3 (.op (some 4) .mov [(.v 6 none)]),
  .set 4 (.op (some 5) .mov [(.v 7 none)])]) <|
 .seq (.reg [
  .set 8 (.op (some 11) .mov [(.v 3 none)]),
  .set 9 (.and 18 23 (.and 14 17 (.op (some 13) (.isNil .ifc false) [(.v 4 (some 12))]) (.op (some 16) (.call 28) [(.v 3 (some 15))])) (.op (some 22) (.binS .eql) [(.op (some 20) (.call 29) [(.v 3 (some 19))]), (.v 0 (some 21))])),
  .set 1 (.op (some 2) .mov [(.v 8 none)]),
  .set 2 (.op (some 3) .mov [(.v 9 none)])]) <|
 .ret

/- sleuth/term.Tag -/
def s35_term_Tag : SFn := .src 23 [0, 2, 3, 4, 5, 6, 7, 8, 11, 12, 13, 16, 17, 18, 22] [.tmp 1, .tmp 2] <|
 .seq (.reg [
  .set 1 (.op (some 2) .mov [(.k (.int .i64 0))]),
  .set 2 (.op (some 3) .mov [(.k (.bool false))])]) <|
 .seq (.reg [
  .set 7 (.op (some 8) .mov [(.op (some 10) (.call 37) [(.v 0 (some 9)), (.k (.str [64]))])]),
  .set 8 (.op (some 11) (.ext 0) [(.v 7 none)]),
  .set 9 (.op (some 12) (.ext 1) [(.v 7 none)]),
  .set 3 (.op (some 4) .mov [(.v 8 none)]),
  .set 4 (.op (some 5) .mov [(.v 9 none)])]) <|
 .seq (.reg [
  .set 10 (.op (some 13) .mov [(.op (some 15) (.call 46) [(.v 3 (some 14)), (.k (.int .i64 99))])]),
  .set 11 (.op (some 16) (.ext 0) [(.v 10 none)]),
  .set 12 (.op (some 17) (.ext 1) [(.v 10 none)]),
  .set 5 (.op (some 6) .mov [(.v 11 none)]),
  .set 6 (.op (some 7) .mov [(.v 12 none)])]) <|
 .seq (.reg [
  .set 13 (.op (some 18) .mov [(.v 5 none)]),
  .set 14 (.and 20 22 (.v 4 (some 19)) (.v 6 (some 21))),
  .set 1 (.op (some 2) .mov [(.v 13 none)]),
  .set 2 (.op (some 3) .mov [(.v 14 none)])]) <|
 .ret

/- strings.HasPrefix -/
def s36_strings_HasPrefix : SFn := .src 8 [0, 1, 4] [.tmp 2] <|
 .seq (.reg [
  .set 2 (.op (some 4) .mov [(.k (.bool false))])]) <|
 .seq (.reg [
  .set 2 (.op (some 4) .mov [(.op (some 7) (.call 47) [(.v 0 (some 5)), (.v 1 (some 6))])])]) <|
 .ret

/- strings.CutPrefix -/
def s37_strings_CutPrefix : SFn := .src 11 [0, 1, 4, 5, 8, 9, 10] [.tmp 2, .tmp 3] <|
 .seq (.reg [
  .set 2 (.op (some 4) .mov [(.k (.str []))]),
  .set 3 (.op (some 5) .mov [(.k (.bool false))])]) <|
 .seq (.reg [
  .set 4 (.op (some 8) (.call 48) [(.v 0 (some 6)), (.v 1 (some 7))]),
  .set 5 (.op (some 9) (.ext 0) [(.v 4 none)]),
  .set 6 (.op (some 10) (.ext 1) [(.v 4 none)]),
  .set 2 (.op (some 4) .mov [(.v 5 none)]),
  .set 3 (.op (some 5) .mov [(.v 6 none)])]) <|
 .ret

/- sleuth/term.Digits -/
def s46_term_Digits : SFn := .src 31 [0, 1, 4, 5, 6, 7, 8, 11, 12, 13, 30] [.tmp 2, .tmp 3] <|
 .seq (.reg [
  .set 2 (.op (some 4) .mov [(.k (.int .i64 0))]),
  .set 3 (.op (some 5) .mov [(.k (.bool false))])]) <|
 .seq (.reg [
  .set 6 (.op (some 8) .mov [(.op (some 10) (.call 45) [(.v 0 (some 9))])]),
  .set 7 (.op (some 11) (.ext 0) [(.v 6 none)]),
  .set 8 (.op (some 12) (.ext 1) [(.v 6 none)]),
  .set 4 (.op (some 6) .mov [(.v 7 none)]),
  .set 5 (.op (some 7) .mov [(.v 8 none)])]) <|
 .seq (.reg [
  .set 9 (.op (some 13) .mov [(.v 4 none)]),
  .set 10 (.and 25 30 (.and 20 24 (.and 16 19 (.op (some 15) (.isNil .ifc false) [(.v 5 (some 14))]) (.op (some 18) (.binI .geq) [(.v 4 (some 17)), (.k (.int .i64 0))])) (.op (some 23) (.binI .leq) [(.v 4 (some 21)), (.v 1 (some 22))])) (.op (some 29) (.binS .eql) [(.op (some 27) (.call 29) [(.v 4 (some 26))]), (.v 0 (some 28))])),
  .set 2 (.op (some 4) .mov [(.v 9 none)]),
  .set 3 (.op (some 5) .mov [(.v 10 none)])]) <|
 .ret

/- internal/stringslite.HasPrefix -/
def s47_internal_stringslite_HasPrefix : SFn := .src 18 [0, 1, 4] [.tmp 2] <|
 .seq (.reg [
  .set 2 (.op (some 4) .mov [(.k (.bool false))])]) <|
 .seq (.reg [
  .set 2 (.op (some 4) .mov [(.and 10 17 (.op (some 9) (.binI .geq) [(.op (some 6) .lenS [(.v 0 (some 5))]), (.op (some 8) .lenS [(.v 1 (some 7))])]) (.op (some 16) (.binS .eql) [(.op (some 14) (.slS false true) [(.v 0 (some 11)), (.op (some 13) .lenS [(.v 1 (some 12))])]), (.v 1 (some 15))]))])]) <|
 .ret

/- internal/stringslite.CutPrefix -/
def s48_internal_stringslite_CutPrefix : SFn := .src 15 [0, 1, 4, 5] [.tmp 2, .tmp 3] <|
 .seq (.reg [
  .set 2 (.op (some 4) .mov [(.k (.str []))]),
  .set 3 (.op (some 5) .mov [(.k (.bool false))])]) <|
 .seq (.ifr [] (.op (some 9) .notB [(.op (some 8) (.call 47) [(.v 0 (some 6)), (.v 1 (some 7))])])
  (.seq (.reg [
   .set 2 (.op (some 4) .mov [(.v 0 (some 10))]),
   .set 3 (.op (some 5) .mov [(.k (.bool false))])]) <|
  .ret)
  (.skip)) <|
 .seq (.reg [
  .set 2 (.op (some 4) .mov [(.op (some 14) (.slS true false) [(.v 0 (some 11)), (.op (some 13) .lenS [(.v 1 (some 12))])])]),
  .set 3 (.op (some 5) .mov [(.k (.bool true))])]) <|
 .ret

/- sleuth/sleuthlaw14.EquationForms -/
def s248_sleuthlaw14_EquationForms : SFn := .src 57 [0, 1, 4, 5, 6, 7, 8, 16, 19, 45, 48, 49] [.tmp 2] <|
 .seq (.reg [
  .set 2 (.op (some 4) .mov [(.k (.bool false))])]) <|
 .seq (.ifr [] (.op (some 10) .notB [(.op (some 9) (.call 256) [])])
  (.seq (.reg [
   .set 2 (.op (some 4) .mov [(.k (.bool false))])]) <|
  .ret)
  (.skip)) <|
 .seq (.reg [
  .set 3 (.op (some 5) .mov [(.op (some 13) (.binI .add) [(.k (.int .i64 1)), (.op (some 12) (.binI .and) [(.v 1 (some 11)), (.k (.int .i64 1023))])])])]) <|
 .seq (.reg [
  .set 7 (.op (some 16) (.loadN 4) [(.op (some 15) (.iadr 4) [(.op (some 14) (.call 257) []), (.k (.int .i64 1))])]),
  .set 4 (.op (some 6) (.alloc 0 [(.int .i64 0), (.int .i64 0), .nils, (.str [])]) []),
  .ef (.op none (.store 4) [(.v 4 none), (.v 7 none)])]) <|
 .seq (.seq (.reg [
  .set 8 (.op (some 19) (.binI .rem) [(.op (some 18) (.conv .u64) [(.v 0 (some 17))]), (.k (.int .u64 6))])]) <|
 .block 0 <|
  .ifr [] (.op (some 21) .mov [(.op (some 22) (.binI .eql) [(.v 8 none), (.k (.int .u64 0))])])
   (.reg [
    .ef (.opr none (.store 1) (.op (some 25) (.fadr 0) [(.v 4 none)]) (.op (some 24) .negI [(.v 3 (some 23))]))])
   (.ifr [] (.op (some 26) .mov [(.op (some 27) (.binI .eql) [(.v 8 none), (.k (.int .u64 1))])])
    (.reg [
     .ef (.opr none (.store 1) (.op (some 30) (.fadr 0) [(.v 4 none)]) (.op (some 29) (.binI .add) [(.k (.int .i64 7)), (.v 3 (some 28))]))])
    (.ifr [] (.op (some 31) .mov [(.op (some 32) (.binI .eql) [(.v 8 none), (.k (.int .u64 2))])])
     (.reg [
      .ef (.opr none (.store 1) (.op (some 34) (.fadr 2) [(.v 4 none)]) (.op (some 33) (.bslice 0 [(.str []), (.str []), (.str []), (.str [])] 4 [(0, 1), (1, 1), (2, 1), (3, 1)]) [(.k (.str [49])), (.k (.str [50])), (.k (.str [51])), (.k (.str [52]))]))])
     (.ifr [] (.op (some 35) .mov [(.op (some 36) (.binI .eql) [(.v 8 none), (.k (.int .u64 3))])])
      (.reg [
       .ef (.op none (.store 1) [(.op (some 39) (.iadr 1) [(.op (some 38) .load1 [(.op (some 37) (.fadr 2) [(.v 4 none)])]), (.k (.int .i64 0))]), (.k (.str [49, 32, 50]))])])
      (.ifr [] (.op (some 40) .mov [(.op (some 41) (.binI .eql) [(.v 8 none), (.k (.int .u64 4))])])
       (.reg [
        .ef (.op none (.store 1) [(.op (some 44) (.iadr 1) [(.op (some 43) .load1 [(.op (some 42) (.fadr 2) [(.v 4 none)])]), (.k (.int .i64 1))]), (.k (.str []))])])
       (.reg [
        .ef (.op none (.store 1) [(.op (some 20) (.fadr 3) [(.v 4 none)]), (.k (.str [61, 32, 57]))])])))))) <|
 .seq (.reg [
  .set 9 (.op (some 45) .mov [(.op (some 47) (.call 258) [(.op (some 46) (.loadN 4) [(.v 4 none)])])]),
  .set 10 (.op (some 48) (.ext 0) [(.v 9 none)]),
  .set 11 (.op (some 49) (.ext 1) [(.v 9 none)]),
  .set 5 (.op (some 7) .mov [(.v 10 none)]),
  .set 6 (.op (some 8) .mov [(.v 11 none)])]) <|
 .seq (.reg [
  .set 2 (.op (some 4) .mov [(.and 52 56 (.op (some 51) (.binS .eql) [(.v 5 (some 50)), (.k (.str []))]) (.op (some 55) (.binI .eql) [(.op (some 54) (.call 16) [(.v 6 (some 53))]), (.k (.int .i64 1400))]))])]) <|
 .ret

/- sleuth/sleuthlaw14.EquationBy -/
def s249_sleuthlaw14_EquationBy : SFn := .src 53 [0, 1, 4, 5, 6, 7, 8, 9, 27, 33, 34] [.tmp 2] <|
 .seq (.reg [
  .set 2 (.op (some 4) .mov [(.k (.bool false))])]) <|
 .seq (.ifr [] (.op (some 11) .notB [(.op (some 10) (.call 256) [])])
  (.seq (.reg [
   .set 2 (.op (some 4) .mov [(.k (.bool false))])]) <|
  .ret)
  (.skip)) <|
 .seq (.reg [
  .set 3 (.op (some 5) .mov [(.op (some 13) (.binI .and) [(.v 0 (some 12)), (.k (.int .i64 7))])])]) <|
 .seq (.reg [
  .set 4 (.op (some 6) .mov [(.op (some 21) .load1 [(.op (some 20) (.iadr 1) [(.op (some 17) (.bslice 0 [.nils, .nils, .nils, .nils] 4 [(0, 1), (1, 1), (2, 1), (3, 1)]) [(.k .nils), (.op (some 14) (.bslice 0 [(.str [])] 1 [(0, 1)]) [(.k (.str [49]))]), (.op (some 15) (.bslice 0 [(.str []), (.str [])] 2 [(0, 1), (1, 1)]) [(.k (.str [95])), (.k (.str [33]))]), (.op (some 16) (.bslice 0 [(.str []), (.str []), (.str [])] 3 [(0, 1), (1, 1), (2, 1)]) [(.k (.str [64, 49, 40, 50, 32, 51, 41])), (.k (.str [45, 52])), (.k (.str [95]))])]), (.op (some 19) (.binI .and) [(.v 1 (some 18)), (.k (.int .i64 3))])])])])]) <|
 .seq (.reg [
  .set 5 (.op (some 7) .mov [(.op (some 26) .load1 [(.op (some 25) (.iadr 1) [(.op (some 22) (.bslice 0 [(.str []), (.str []), (.str []), (.str [])] 4 [(0, 1), (1, 1), (2, 1), (3, 1)]) [(.k (.str [])), (.k (.str [32, 49])), (.k (.str [32, 95, 32, 33])), (.k (.str [32, 64, 49, 40, 50, 32, 51, 41, 32, 45, 52, 32, 95]))]), (.op (some 24) (.binI .and) [(.v 1 (some 23)), (.k (.int .i64 3))])])])])]) <|
 .seq (.reg [
  .set 8 (.op (some 27) .mov [(.op (some 32) (.call 258) [(.op (some 31) (.build [(.int .i64 0), (.int .i64 0), .nils, (.str [])] [(0, 1), (1, 1), (2, 1), (3, 1)]) [(.v 3 (some 28)), (.v 1 (some 29)), (.v 4 (some 30)), (.k (.str [64, 57]))])])]),
  .set 9 (.op (some 33) (.ext 0) [(.v 8 none)]),
  .set 10 (.op (some 34) (.ext 1) [(.v 8 none)]),
  .set 6 (.op (some 8) .mov [(.v 9 none)]),
  .set 7 (.op (some 9) .mov [(.v 10 none)])]) <|
 .seq (.reg [
  .set 2 (.op (some 4) .mov [(.and 48 52 (.and 38 47 (.op (some 37) (.binI .eql) [(.op (some 36) (.call 16) [(.v 7 (some 35))]), (.k (.int .i64 0))]) (.op (some 46) (.binS .eql) [(.v 6 (some 39)), (.op (some 45) (.binS .add) [(.op (some 44) (.binS .add) [(.op (some 42) (.binS .add) [(.k (.str [102])), (.op (some 41) (.call 22) [(.v 3 (some 40))])]), (.v 5 (some 43))]), (.k (.str [32, 61, 32, 64, 57]))])])) (.op (some 51) (.binI .eql) [(.op (some 50) .lenL [(.op (some 49) (.call 257) [])]), (.k (.int .i64 5))]))])]) <|
 .ret

/- sleuth/sleuthlaw14.awake -/
def s256_sleuthlaw14_awake : SFn := .src 47 [0, 1, 2, 3, 4, 6, 7, 12, 13, 14, 19, 20, 21, 24, 25] [.tmp 0] <|
 .seq (.reg [
  .set 0 (.op (some 0) .mov [(.k (.bool false))])]) <|
 .seq (.reg [
  .set 6 (.op (some 7) .mov [(.op (some 11) (.call 258) [(.op (some 10) (.loadN 4) [(.op (some 9) (.iadr 4) [(.op (some 8) (.call 257) []), (.k (.int .i64 1))])])])]),
  .set 7 (.op (some 12) (.ext 0) [(.v 6 none)]),
  .set 8 (.op (some 13) (.ext 1) [(.v 6 none)]),
  .set 1 (.op (some 1) .mov [(.v 7 none)]),
  .set 2 (.op (some 2) .mov [(.v 8 none)])]) <|
 .seq (.reg [
  .set 9 (.op (some 14) .mov [(.op (some 18) (.call 258) [(.op (some 17) (.loadN 4) [(.op (some 16) (.iadr 4) [(.op (some 15) (.call 257) []), (.k (.int .i64 0))])])])]),
  .set 10 (.op (some 19) (.ext 0) [(.v 9 none)]),
  .set 11 (.op (some 20) (.ext 1) [(.v 9 none)]),
  .set 3 (.op (some 3) .mov [(.v 10 none)]),
  .set 4 (.op (some 4) .mov [(.v 11 none)])]) <|
 .seq (.reg [
  .set 12 (.op (some 21) .mov [(.op (some 23) (.call 258) [(.op (some 22) (.build [(.int .i64 0), (.int .i64 0), .nils, (.str [])] []) [])])]),
  .set 13 (.op (some 24) (.ext 0) [(.v 12 none)]),
  .set 14 (.op (some 25) (.ext 1) [(.v 12 none)]),
  .ef (.v 13 (some 5)),
  .set 5 (.op (some 6) .mov [(.v 14 none)])]) <|
 .seq (.reg [
  .set 0 (.op (some 0) .mov [(.and 42 46 (.and 37 41 (.and 33 36 (.and 28 32 (.op (some 27) (.binS .eql) [(.v 1 (some 26)), (.k (.str [102, 49, 32, 64, 55, 40, 95, 32, 52, 41, 32, 53, 32, 61, 32, 57]))]) (.op (some 31) (.binI .eql) [(.op (some 30) (.call 16) [(.v 2 (some 29))]), (.k (.int .i64 0))])) (.op (some 35) (.binS .eql) [(.v 3 (some 34)), (.k (.str [102, 48, 32, 61, 32, 57]))])) (.op (some 40) (.binI .eql) [(.op (some 39) (.call 16) [(.v 4 (some 38))]), (.k (.int .i64 0))])) (.op (some 45) (.binI .eql) [(.op (some 44) (.call 16) [(.v 5 (some 43))]), (.k (.int .i64 1400))]))])]) <|
 .ret

/- sleuth/sleuthlaw14.some -/
def s257_sleuthlaw14_some : SFn := .src 10 [0] [.tmp 0] <|
 .seq (.reg [
  .set 0 (.op (some 0) .mov [(.k .nils)])]) <|
 .seq (.reg [
  .set 0 (.op (some 0) .mov [(.op (some 9) (.bslice 0 [(.int .i64 0), (.int .i64 0), .nils, (.str []), (.int .i64 0), (.int .i64 0), .nils, (.str []), (.int .i64 0), (.int .i64 0), .nils, (.str []), (.int .i64 0), (.int .i64 0), .nils, (.str []), (.int .i64 0), (.int .i64 0), .nils, (.str [])] 5 [(0, 4), (4, 4), (8, 4), (12, 4), (16, 4)]) [(.op (some 1) (.build [(.int .i64 0), (.int .i64 0), .nils, (.str [])] [(1, 1), (3, 1)]) [(.k (.int .i64 (-1))), (.k (.str [57]))]), (.op (some 3) (.build [(.int .i64 0), (.int .i64 0), .nils, (.str [])] [(0, 1), (1, 1), (2, 1), (3, 1)]) [(.k (.int .i64 1)), (.k (.int .i64 0)), (.op (some 2) (.bslice 0 [(.str []), (.str [])] 2 [(0, 1), (1, 1)]) [(.k (.str [64, 55, 40, 95, 32, 52, 41])), (.k (.str [53]))]), (.k (.str [57]))]), (.op (some 4) (.build [(.int .i64 0), (.int .i64 0), .nils, (.str [])] [(0, 1), (1, 1), (3, 1)]) [(.k (.int .i64 2)), (.k (.int .i64 0)), (.k (.str [33]))]), (.op (some 6) (.build [(.int .i64 0), (.int .i64 0), .nils, (.str [])] [(0, 1), (1, 1), (2, 1), (3, 1)]) [(.k (.int .i64 1)), (.k (.int .i64 1)), (.op (some 5) (.bslice 0 [(.str []), (.str [])] 2 [(0, 1), (1, 1)]) [(.k (.str [49])), (.k (.str [95]))]), (.k (.str [95]))]), (.op (some 8) (.build [(.int .i64 0), (.int .i64 0), .nils, (.str [])] [(0, 1), (1, 1), (2, 1), (3, 1)]) [(.k (.int .i64 1)), (.k (.int .i64 2)), (.op (some 7) (.bslice 0 [(.str []), (.str [])] 2 [(0, 1), (1, 1)]) [(.k (.str [49])), (.k (.str [95]))]), (.k (.str [95]))])])])]) <|
 .ret

/- sleuth/equation.Text -/
def s258_equation_Text : SFn := .src 21 [0, 1, 2, 3, 4] [.tmp 2, .tmp 3] <|
 .seq (.reg [
  .set 1 (.op (some 1) (.box 0) [(.v 0 none)]),
  .set 2 (.op (some 2) .mov [(.k (.str []))]),
  .set 3 (.op (some 3) .mov [(.k (.int .i64 0))])]) <|
 .seq (.ifr [] (.op (some 6) .notB [(.op (some 5) (.call 269) [(.v 1 none)])])
  (.seq (.reg [
   .set 2 (.op (some 2) .mov [(.k (.str []))]),
   .set 3 (.op (some 3) .mov [(.k (.int .i64 1400))])]) <|
  .ret)
  (.skip)) <|
 .seq (.dreg [7, 8, 9, 10, 11, 12, 13, 14] [
  ⟨(some 5), .fadr 0, [.t 1], none⟩,
  ⟨(some 6), .load1, [.t 5], none⟩,
  ⟨(some 7), .call 29, [.t 6], none⟩,
  ⟨(some 8), .binS .add, [.c (.str [102]), .t 7], none⟩,
  ⟨(some 9), .bslice 0 [(.str [])] 1 [(0, 1)], [.t 8], none⟩,
  ⟨(some 10), .fadr 2, [.t 1], none⟩,
  ⟨(some 11), .load1, [.t 10], none⟩,
  ⟨(some 12), .app 0 1 16, [.t 9, .t 11], none⟩,
  ⟨(some 4), .mov, [.t 12], none⟩]
  [.op 0, .op 1, .op 5, .op 6, .op 2, .chk 6, .op 3, .op 4, .chk 6, .op 7, .op 8]) <|
 .seq (.reg [
  .set 2 (.op (some 2) .mov [(.op (some 20) (.call 42) [(.op (some 19) (.app 0 1 16) [(.v 4 (some 15)), (.op (some 18) (.bslice 0 [(.str []), (.str [])] 2 [(0, 1), (1, 1)]) [(.k (.str [61])), (.op (some 17) .load1 [(.op (some 16) (.fadr 3) [(.v 1 none)])])])]), (.k (.str [32]))])]),
  .set 3 (.op (some 3) .mov [(.k (.int .i64 0))])]) <|
 .ret

/- sleuth/trail.Equation -/
def s269_trail_Equation : SFn := .src 37 [0, 2] [.tmp 1] <|
 .seq (.reg [
  .set 1 (.op (some 2) .mov [(.k (.bool false))])]) <|
 .seq (.reg [
  .set 1 (.op (some 2) .mov [(.and 30 36 (.and 23 29 (.and 15 22 (.and 8 14 (.op (some 7) (.binI .geq) [(.op (some 6) .load1 [(.op (some 5) (.fadr 0) [(.op (some 4) .nilCheck [(.v 0 (some 3))])])]), (.k (.int .i64 0))]) (.op (some 13) (.binI .lss) [(.op (some 12) .load1 [(.op (some 11) (.fadr 0) [(.op (some 10) .nilCheck [(.v 0 (some 9))])])]), (.k (.int .i64 8))])) (.op (some 21) (.binI .leq) [(.op (some 20) .lenL [(.op (some 19) .load1 [(.op (some 18) (.fadr 2) [(.op (some 17) .nilCheck [(.v 0 (some 16))])])])]), (.k (.int .i64 3))])) (.op (some 28) (.call 26) [(.op (some 27) .load1 [(.op (some 26) (.fadr 2) [(.op (some 25) .nilCheck [(.v 0 (some 24))])])])])) (.op (some 35) (.call 17) [(.op (some 34) .load1 [(.op (some 33) (.fadr 3) [(.op (some 32) .nilCheck [(.v 0 (some 31))])])])]))])]) <|
 .ret

end Am.T
