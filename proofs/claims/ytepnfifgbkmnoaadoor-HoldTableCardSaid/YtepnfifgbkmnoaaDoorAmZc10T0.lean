/- Functions of the program, as the abstract machine has them. -/
import Derived.Test.YtepnfifgbkmnoaaDoorAmSrc2
namespace Am.T
open Go
/- sleuth/term.Cut -/
def s11_term_Cut : SFn := .src 25 [0, 2, 3, 4, 5, 6, 7, 8, 14, 17, 18, 19, 20, 21, 22, 23, 24] [.tmp 1, .tmp 2, .tmp 3, .tmp 4] <|
 .seq (.reg [
  .set 1 (.op (some 2) .mov [(.k (.int .i64 0))]),
  .set 2 (.op (some 3) .mov [(.k (.int .i64 0))]),
  .set 3 (.op (some 4) .mov [(.k .nils)]),
  .set 4 (.op (some 5) .mov [(.k (.int .i64 0))])]) <|
 .seq (.ifr [] (.op (some 13) .notB [(.op (some 12) (.call 17) [(.v 0 (some 11))])])
  (.seq (.reg [
   .set 1 (.op (some 2) .mov [(.k (.int .i64 0))]),
   .set 2 (.op (some 3) .mov [(.k (.int .i64 0))]),
   .set 3 (.op (some 4) .mov [(.k .nils)]),
   .set 4 (.op (some 5) .mov [(.k (.int .i64 200))])]) <|
  .ret)
  (.skip)) <|
 .seq (.reg [
  .set 8 (.op (some 14) .mov [(.op (some 16) (.call 24) [(.v 0 (some 15))])]),
  .set 9 (.op (some 17) (.ext 0) [(.v 8 none)]),
  .set 10 (.op (some 18) (.ext 1) [(.v 8 none)]),
  .set 11 (.op (some 19) (.ext 2) [(.v 8 none)]),
  .set 12 (.op (some 20) (.ext 3) [(.v 8 none)]),
  .set 13 (.op (some 21) (.ext 4) [(.v 8 none)]),
  .set 5 (.op (some 6) .mov [(.v 9 none)]),
  .set 6 (.op (some 7) .mov [(.v 10 none)]),
  .set 7 (.op (some 8) .mov [(.v 11 none)]),
  .ef (.v 12 (some 9)),
  .ef (.v 13 (some 10))]) <|
 .seq (.reg [
  .set 14 (.op (some 22) .mov [(.v 5 none)]),
  .set 15 (.op (some 23) .mov [(.v 6 none)]),
  .set 16 (.op (some 24) .mov [(.v 7 none)]),
  .set 1 (.op (some 2) .mov [(.v 14 none)]),
  .set 2 (.op (some 3) .mov [(.v 15 none)]),
  .set 3 (.op (some 4) .mov [(.v 16 none)]),
  .set 4 (.op (some 5) .mov [(.k (.int .i64 0))])]) <|
 .ret

/- sleuth/sleuthlaw0.Num -/
def s16_sleuthlaw0_Num : SFn := .src 4 [0, 2] [.tmp 1] <|
 .seq (.reg [
  .set 1 (.op (some 2) .mov [(.k (.int .i64 0))])]) <|
 .seq (.reg [
  .set 1 (.op (some 2) .mov [(.v 0 (some 3))])]) <|
 .ret

/- sleuth/term.May -/
def s17_term_May : SFn := .src 24 [0, 2, 6, 7, 11, 14, 15, 16, 17, 18] [.tmp 1] <|
 .seq (.reg [
  .set 1 (.op (some 2) .mov [(.k (.bool false))])]) <|
 .seq (.ifr [] (.op (some 10) (.binI .gtr) [(.op (some 9) .lenS [(.v 0 (some 8))]), (.k (.int .i64 1024))])
  (.seq (.reg [
   .set 1 (.op (some 2) .mov [(.k (.bool false))])]) <|
  .ret)
  (.skip)) <|
 .seq (.reg [
  .set 4 (.op (some 11) .mov [(.op (some 13) (.call 24) [(.v 0 (some 12))])]),
  .set 5 (.op (some 14) (.ext 0) [(.v 4 none)]),
  .set 6 (.op (some 15) (.ext 1) [(.v 4 none)]),
  .set 7 (.op (some 16) (.ext 2) [(.v 4 none)]),
  .set 8 (.op (some 17) (.ext 3) [(.v 4 none)]),
  .set 9 (.op (some 18) (.ext 4) [(.v 4 none)]),
  .ef (.v 5 (some 3)),
  .ef (.v 6 (some 4)),
  .ef (.v 7 (some 5)),
  .set 2 (.op (some 6) .mov [(.v 8 none)]),
  .set 3 (.op (some 7) .mov [(.v 9 none)])]) <|
 .seq (.reg [
  .set 1 (.op (some 2) .mov [(.and 20 23 (.v 3 (some 19)) (.op (some 22) (.binS .eql) [(.v 2 (some 21)), (.k (.str []))]))])]) <|
 .ret

/- sleuth/term.cut -/
def s24_term_cut : SFn := .src 94 [0, 2, 3, 4, 5, 6, 7, 8, 9, 10, 11, 12, 13, 14, 18, 19, 20, 21, 22, 25, 26, 29, 32, 33, 36, 37, 39, 40, 41, 44, 45, 53, 54, 55, 61, 64, 65, 66, 67, 68, 80, 81, 85, 88, 89, 90, 91, 92, 93] [.tmp 1, .tmp 2, .tmp 3, .tmp 4, .tmp 5] <|
 .seq (.reg [
  .set 1 (.op (some 2) .mov [(.k (.int .i64 0))]),
  .set 2 (.op (some 3) .mov [(.k (.int .i64 0))]),
  .set 3 (.op (some 4) .mov [(.k .nils)]),
  .set 4 (.op (some 5) .mov [(.k (.str []))]),
  .set 5 (.op (some 6) .mov [(.k (.bool false))])]) <|
 .seq (.reg [
  .set 18 (.op (some 22) .mov [(.op (some 24) (.call 33) [(.v 0 (some 23))])]),
  .set 19 (.op (some 25) (.ext 0) [(.v 18 none)]),
  .set 20 (.op (some 26) (.ext 1) [(.v 18 none)]),
  .set 6 (.op (some 7) .mov [(.v 19 none)]),
  .set 7 (.op (some 8) .mov [(.v 20 none)])]) <|
 .seq (.ifr [] (.op (some 28) (.binS .eql) [(.v 6 (some 27)), (.k (.str [95]))])
  (.seq (.reg [
   .set 21 (.op (some 29) .mov [(.v 7 none)]),
   .set 1 (.op (some 2) .mov [(.k (.int .i64 0))]),
   .set 2 (.op (some 3) .mov [(.k (.int .i64 0))]),
   .set 3 (.op (some 4) .mov [(.k .nils)]),
   .set 4 (.op (some 5) .mov [(.v 21 none)]),
   .set 5 (.op (some 6) .mov [(.k (.bool true))])]) <|
  .ret)
  (.skip)) <|
 .seq (.ifr [] (.op (some 31) (.binS .eql) [(.v 6 (some 30)), (.k (.str [33]))])
  (.seq (.reg [
   .set 22 (.op (some 32) .mov [(.v 7 none)]),
   .set 1 (.op (some 2) .mov [(.k (.int .i64 3))]),
   .set 2 (.op (some 3) .mov [(.k (.int .i64 0))]),
   .set 3 (.op (some 4) .mov [(.k .nils)]),
   .set 4 (.op (some 5) .mov [(.v 22 none)]),
   .set 5 (.op (some 6) .mov [(.k (.bool true))])]) <|
  .ret)
  (.skip)) <|
 .seq (.seq (.reg [
  .set 23 (.op (some 33) .mov [(.op (some 35) (.call 34) [(.v 6 (some 34))])]),
  .set 24 (.op (some 36) (.ext 0) [(.v 23 none)]),
  .set 25 (.op (some 37) (.ext 1) [(.v 23 none)]),
  .set 8 (.op (some 9) .mov [(.v 24 none)]),
  .set 9 (.op (some 10) .mov [(.v 25 none)])]) <|
 .ifr [] (.v 9 (some 38))
  (.seq (.reg [
   .set 26 (.op (some 39) .mov [(.v 8 none)]),
   .set 27 (.op (some 40) .mov [(.v 7 none)]),
   .set 1 (.op (some 2) .mov [(.k (.int .i64 1))]),
   .set 2 (.op (some 3) .mov [(.v 26 none)]),
   .set 3 (.op (some 4) .mov [(.k .nils)]),
   .set 4 (.op (some 5) .mov [(.v 27 none)]),
   .set 5 (.op (some 6) .mov [(.k (.bool true))])]) <|
  .ret)
  (.skip)) <|
 .seq (.reg [
  .set 28 (.op (some 41) .mov [(.op (some 43) (.call 35) [(.v 6 (some 42))])]),
  .set 29 (.op (some 44) (.ext 0) [(.v 28 none)]),
  .set 30 (.op (some 45) (.ext 1) [(.v 28 none)]),
  .set 10 (.op (some 11) .mov [(.v 29 none)]),
  .set 11 (.op (some 12) .mov [(.v 30 none)])]) <|
 .seq (.ifr [] (.or 48 52 (.op (some 47) .notB [(.v 11 (some 46))]) (.op (some 51) .notB [(.op (some 50) (.call 36) [(.v 7 (some 49)), (.k (.str [40]))])]))
  (.seq (.reg [
   .set 31 (.op (some 53) .mov [(.v 10 none)]),
   .set 32 (.op (some 54) .mov [(.v 7 none)]),
   .set 33 (.op (some 55) .mov [(.v 11 none)]),
   .set 1 (.op (some 2) .mov [(.k (.int .i64 2))]),
   .set 2 (.op (some 3) .mov [(.v 31 none)]),
   .set 3 (.op (some 4) .mov [(.k .nils)]),
   .set 4 (.op (some 5) .mov [(.v 32 none)]),
   .set 5 (.op (some 6) .mov [(.v 33 none)])]) <|
  .ret)
  (.skip)) <|
 .seq (.reg [
  .set 12 (.op (some 13) .mov [(.k .nils)])]) <|
 .seq (.block 0 <|
  .loop [7, 10, 12] <|
   .seq (.ifr [] (.op (some 58) (.binI .lss) [(.op (some 57) .lenL [(.v 12 (some 56))]), (.k (.int .i64 3))])
    (.skip)
    (.exit 0)) <|
   .block 1 <|
    .seq (.reg [
     .set 13 (.op (some 14) .mov [(.op (some 60) (.slS true false) [(.v 7 (some 59)), (.k (.int .i64 1))])])]) <|
    .seq (.reg [
     .set 34 (.op (some 61) .mov [(.op (some 63) (.call 24) [(.v 13 (some 62))])]),
     .set 35 (.op (some 64) (.ext 0) [(.v 34 none)]),
     .set 36 (.op (some 65) (.ext 1) [(.v 34 none)]),
     .set 37 (.op (some 66) (.ext 2) [(.v 34 none)]),
     .set 38 (.op (some 67) (.ext 3) [(.v 34 none)]),
     .set 39 (.op (some 68) (.ext 4) [(.v 34 none)]),
     .ef (.v 35 (some 15)),
     .ef (.v 36 (some 16)),
     .ef (.v 37 (some 17)),
     .set 14 (.op (some 18) .mov [(.v 38 none)]),
     .set 15 (.op (some 19) .mov [(.v 39 none)])]) <|
    .seq (.ifr [] (.op (some 70) .notB [(.v 15 (some 69))])
     (.seq (.reg [
      .set 1 (.op (some 2) .mov [(.k (.int .i64 0))]),
      .set 2 (.op (some 3) .mov [(.k (.int .i64 0))]),
      .set 3 (.op (some 4) .mov [(.k .nils)]),
      .set 4 (.op (some 5) .mov [(.k (.str []))]),
      .set 5 (.op (some 6) .mov [(.k (.bool false))])]) <|
     .ret)
     (.skip)) <|
    .seq (.reg [
     .set 40 (.op (some 80) (.app 0 1 16) [(.v 12 (some 71)), (.op (some 79) (.bslice 0 [(.str [])] 1 [(0, 1)]) [(.op (some 78) (.slS false true) [(.v 13 (some 72)), (.op (some 77) (.binI .sub) [(.op (some 74) .lenS [(.v 13 (some 73))]), (.op (some 76) .lenS [(.v 14 (some 75))])])])])]),
     .set 41 (.op (some 81) .mov [(.v 14 none)]),
     .set 12 (.op (some 13) .mov [(.v 40 none)]),
     .set 7 (.op (some 8) .mov [(.v 41 none)])]) <|
    .ifr [] (.op (some 84) .notB [(.op (some 83) (.call 36) [(.v 7 (some 82)), (.k (.str [32]))])])
     (.exit 0)
     (.skip)) <|
 .seq (.reg [
  .set 42 (.op (some 85) .mov [(.op (some 87) (.call 37) [(.v 7 (some 86)), (.k (.str [41]))])]),
  .set 43 (.op (some 88) (.ext 0) [(.v 42 none)]),
  .set 44 (.op (some 89) (.ext 1) [(.v 42 none)]),
  .set 16 (.op (some 20) .mov [(.v 43 none)]),
  .set 17 (.op (some 21) .mov [(.v 44 none)])]) <|
 .seq (.reg [
  .set 45 (.op (some 90) .mov [(.v 10 none)]),
  .set 46 (.op (some 91) .mov [(.v 12 none)]),
  .set 47 (.op (some 92) .mov [(.v 16 none)]),
  .set 48 (.op (some 93) .mov [(.v 17 none)]),
  .set 1 (.op (some 2) .mov [(.k (.int .i64 2))]),
  .set 2 (.op (some 3) .mov [(.v 45 none)]),
  .set 3 (.op (some 4) .mov [(.v 46 none)]),
  .set 4 (.op (some 5) .mov [(.v 47 none)]),
  .set 5 (.op (some 6) .mov [(.v 48 none)])]) <|
 .ret

/- sleuth/term.All -/
def s26_term_All : SFn := .src 15 [0, 2, 4, 5, 6, 7, 8] [.tmp 1] <|
 .seq (.reg [
  .set 1 (.op (some 2) .mov [(.k (.bool false))])]) <|
 .seq (.seq (.reg [
  .set 3 (.op (some 5) .mov [(.v 0 none)]),
  .set 4 (.op (some 6) .lenL [(.v 3 none)]),
  .set 5 (.op (some 7) .mov [(.k (.int .i64 0))])]) <|
 .block 0 <|
  .loop [3, 4, 5] <|
   .seq (.reg [
    .set 6 (.op (some 8) (.binI .lss) [(.v 5 none), (.v 4 none)])]) <|
   .seq (.cond (.t 6)
    (.skip)
    (.exit 0)) <|
   .seq (.block 1 <|
    .seq (.reg [
     .set 2 (.op (some 4) .mov [(.op (some 10) .load1 [(.op (some 9) (.iadr 1) [(.v 3 none), (.v 5 none)])])])]) <|
    .ifr [] (.op (some 13) .notB [(.op (some 12) (.call 17) [(.v 2 (some 11))])])
     (.seq (.reg [
      .set 1 (.op (some 2) .mov [(.k (.bool false))])]) <|
     .ret)
     (.skip)) <|
   .reg [
    .set 5 (.op (some 7) .mov [(.op (some 14) (.binI .add) [(.v 5 none), (.k (.int .i64 1))])])]) <|
 .seq (.reg [
  .set 1 (.op (some 2) .mov [(.k (.bool true))])]) <|
 .ret

/- sleuth/prim.May -/
def s28_prim_May : SFn := .src 9 [0, 2] [.tmp 1] <|
 .seq (.reg [
  .set 1 (.op (some 2) .mov [(.k (.bool false))])]) <|
 .seq (.reg [
  .set 1 (.op (some 2) .mov [(.and 5 8 (.op (some 4) (.binI .geq) [(.v 0 (some 3)), (.k (.int .i64 (-32768)))]) (.op (some 7) (.binI .leq) [(.v 0 (some 6)), (.k (.int .i64 32767))]))])]) <|
 .ret

/- sleuth/term.word -/
def s33_term_word : SFn := .src 17 [0, 2, 3, 4] [.tmp 1, .tmp 2] <|
 .seq (.reg [
  .set 1 (.op (some 2) .mov [(.k (.str []))]),
  .set 2 (.op (some 3) .mov [(.k (.str []))])]) <|
 .seq (.reg [
  .set 3 (.op (some 4) .mov [(.op (some 6) (.call 44) [(.v 0 (some 5)), (.k (.str [32, 40, 41]))])])]) <|
 .seq (.ifr [] (.op (some 8) (.binI .lss) [(.v 3 (some 7)), (.k (.int .i64 0))])
  (.reg [
   .set 3 (.op (some 4) .mov [(.op (some 10) .lenS [(.v 0 (some 9))])])])
  (.skip)) <|
 .seq (.dreg [11, 12, 13, 14, 15, 16] [
  ⟨(some 4), .mov, [.t 0], none⟩,
  ⟨(some 5), .mov, [.t 3], none⟩,
  ⟨(some 6), .slS false true, [.t 4, .t 5], none⟩,
  ⟨(some 7), .mov, [.t 0], none⟩,
  ⟨(some 8), .mov, [.t 3], none⟩,
  ⟨(some 9), .slS true false, [.t 7, .t 8], none⟩,
  ⟨(some 1), .mov, [.t 6], none⟩,
  ⟨(some 2), .mov, [.t 9], none⟩]
  [.op 0, .op 1, .op 2, .op 3, .op 4, .op 5, .op 6, .op 7]) <|
 .ret

/- sleuth/term.Number -/
def s34_term_Number : SFn := .src 24 [0, 2, 3, 4, 5, 6, 9, 10, 11, 23] [.tmp 1, .tmp 2] <|
 .seq (.reg [
  .set 1 (.op (some 2) .mov [(.k (.int .i64 0))]),
  .set 2 (.op (some 3) .mov [(.k (.bool false))])]) <|
 .seq (.reg [
  .set 5 (.op (some 6) .mov [(.op (some 8) (.call 45) [(.v 0 (some 7))])]),
  .set 6 (.op (some 9) (.ext 0) [(.v 5 none)]),
  .set 7 (.op (some 10) (.ext 1) [(.v 5 none)]),
  .set 3 (.op (some 4) .mov [(.v 6 none)]),
  .set 4 (.op (some 5) .mov [(.v 7 none)])]) <|
 .seq (.reg [
  .set 8 (.op (some 11) .mov [(.v 3 none)]),
  .set 9 (.and 18 23 (.and 14 17 (.op (some 13) (.isNil .ifc false) [(.v 4 (some 12))]) (.op (some 16) (.call 28) [(.v 3 (some 15))])) (.op (some 22) (.binS .eql) [(.op (some 20) (.call 29) [(.v 3 (some 19))]), (.v 0 (some 21))])),
  .set 1 (.op (some 2) .mov [(.v 8 none)]),
  .set 2 (.op (some 3) .mov [(.v 9 none)])]) <|
 .ret

/- sleuth/term.Tag -/
def s35_term_Tag : SFn := .src 23 [0, 2, 3, 4, 5, 6, 7, 8, 11, 12, 13, 16, 17, 18, 22] [.tmp 1, .tmp 2] <|
 .seq (.reg [
  .set 1 (.op (some 2) .mov [(.k (.int .i64 0))]),
  .set 2 (.op (some 3) .mov [(.k (.bool false))])]) <|
 .seq (.reg [
  .set 7 (.op (some 8) .mov [(.op (some 10) (.call 37) [(.v 0 (some 9)), (.k (.str [64]))])]),
  .set 8 (.op (some 11) (.ext 0) [(.v 7 none)]),
  .set 9 (.op (some 12) (.ext 1) [(.v 7 none)]),
  .set 3 (.op (some 4) .mov [(.v 8 none)]),
  .set 4 (.op (some 5) .mov [(.v 9 none)])]) <|
 .seq (.reg [
  .set 10 (.op (some 13) .mov [(.op (some 15) (.call 46) [(.v 3 (some 14)), (.k (.int .i64 99))])]),
  .set 11 (.op (some 16) (.ext 0) [(.v 10 none)]),
  .set 12 (.op (some 17) (.ext 1) [(.v 10 none)]),
  .set 5 (.op (some 6) .mov [(.v 11 none)]),
  .set 6 (.op (some 7) .mov [(.v 12 none)])]) <|
 .seq (.reg [
  .set 13 (.op (some 18) .mov [(.v 5 none)]),
  .set 14 (.and 20 22 (.v 4 (some 19)) (.v 6 (some 21))),
  .set 1 (.op (some 2) .mov [(.v 13 none)]),
  .set 2 (.op (some 3) .mov [(.v 14 none)])]) <|
 .ret

/- strings.HasPrefix -/
def s36_strings_HasPrefix : SFn := .src 8 [0, 1, 4] [.tmp 2] <|
 .seq (.reg [
  .set 2 (.op (some 4) .mov [(.k (.bool false))])]) <|
 .seq (.reg [
  .set 2 (.op (some 4) .mov [(.op (some 7) (.call 47) [(.v 0 (some 5)), (.v 1 (some 6))])])]) <|
 .ret

/- strings.CutPrefix -/
def s37_strings_CutPrefix : SFn := .src 11 [0, 1, 4, 5, 8, 9, 10] [.tmp 2, .tmp 3] <|
 .seq (.reg [
  .set 2 (.op (some 4) .mov [(.k (.str []))]),
  .set 3 (.op (some 5) .mov [(.k (.bool false))])]) <|
 .seq (.reg [
  .set 4 (.op (some 8) (.call 48) [(.v 0 (some 6)), (.v 1 (some 7))]),
  .set 5 (.op (some 9) (.ext 0) [(.v 4 none)]),
  .set 6 (.op (some 10) (.ext 1) [(.v 4 none)]),
  .set 2 (.op (some 4) .mov [(.v 5 none)]),
  .set 3 (.op (some 5) .mov [(.v 6 none)])]) <|
 .ret

/- sleuth/term.Digits -/
def s46_term_Digits : SFn := .src 31 [0, 1, 4, 5, 6, 7, 8, 11, 12, 13, 30] [.tmp 2, .tmp 3] <|
 .seq (.reg [
  .set 2 (.op (some 4) .mov [(.k (.int .i64 0))]),
  .set 3 (.op (some 5) .mov [(.k (.bool false))])]) <|
 .seq (.reg [
  .set 6 (.op (some 8) .mov [(.op (some 10) (.call 45) [(.v 0 (some 9))])]),
  .set 7 (.op (some 11) (.ext 0) [(.v 6 none)]),
  .set 8 (.op (some 12) (.ext 1) [(.v 6 none)]),
  .set 4 (.op (some 6) .mov [(.v 7 none)]),
  .set 5 (.op (some 7) .mov [(.v 8 none)])]) <|
 .seq (.reg [
  .set 9 (.op (some 13) .mov [(.v 4 none)]),
  .set 10 (.and 25 30 (.and 20 24 (.and 16 19 (.op (some 15) (.isNil .ifc false) [(.v 5 (some 14))]) (.op (some 18) (.binI .geq) [(.v 4 (some 17)), (.k (.int .i64 0))])) (.op (some 23) (.binI .leq) [(.v 4 (some 21)), (.v 1 (some 22))])) (.op (some 29) (.binS .eql) [(.op (some 27) (.call 29) [(.v 4 (some 26))]), (.v 0 (some 28))])),
  .set 2 (.op (some 4) .mov [(.v 9 none)]),
  .set 3 (.op (some 5) .mov [(.v 10 none)])]) <|
 .ret

/- internal/stringslite.HasPrefix -/
def s47_internal_stringslite_HasPrefix : SFn := .src 18 [0, 1, 4] [.tmp 2] <|
 .seq (.reg [
  .set 2 (.op (some 4) .mov [(.k (.bool false))])]) <|
 .seq (.reg [
  .set 2 (.op (some 4) .mov [(.and 10 17 (.op (some 9) (.binI .geq) [(.op (some 6) .lenS [(.v 0 (some 5))]), (.op (some 8) .lenS [(.v 1 (some 7))])]) (.op (some 16) (.binS .eql) [(.op (some 14) (.slS false true) [(.v 0 (some 11)), (.op (some 13) .lenS [(.v 1 (some 12))])]), (.v 1 (some 15))]))])]) <|
 .ret

/- internal/stringslite.CutPrefix -/
def s48_internal_stringslite_CutPrefix : SFn := .src 15 [0, 1, 4, 5] [.tmp 2, .tmp 3] <|
 .seq (.reg [
  .set 2 (.op (some 4) .mov [(.k (.str []))]),
  .set 3 (.op (some 5) .mov [(.k (.bool false))])]) <|
 .seq (.ifr [] (.op (some 9) .notB [(.op (some 8) (.call 47) [(.v 0 (some 6)), (.v 1 (some 7))])])
  (.seq (.reg [
   .set 2 (.op (some 4) .mov [(.v 0 (some 10))]),
   .set 3 (.op (some 5) .mov [(.k (.bool false))])]) <|
  .ret)
  (.skip)) <|
 .seq (.reg [
  .set 2 (.op (some 4) .mov [(.op (some 14) (.slS true false) [(.v 0 (some 11)), (.op (some 13) .lenS [(.v 1 (some 12))])])]),
  .set 3 (.op (some 5) .mov [(.k (.bool true))])]) <|
 .ret

/- sleuth/sleuthlaw10.HoldForms -/
def s130_sleuthlaw10_HoldForms : SFn := .src 75 [0, 1, 4, 5, 6, 7, 8, 9, 10, 16, 19, 22, 61, 66, 67] [.tmp 2] <|
 .seq (.reg [
  .set 2 (.op (some 4) .mov [(.k (.bool false))])]) <|
 .seq (.ifr [] (.op (some 12) .notB [(.op (some 11) (.call 150) [])])
  (.seq (.reg [
   .set 2 (.op (some 4) .mov [(.k (.bool false))])]) <|
  .ret)
  (.skip)) <|
 .seq (.reg [
  .set 3 (.op (some 5) .mov [(.op (some 15) (.binI .add) [(.k (.int .i64 1)), (.op (some 14) (.binI .and) [(.v 1 (some 13)), (.k (.int .i64 1023))])])])]) <|
 .seq (.reg [
  .set 9 (.op (some 16) (.call 151) []),
  .set 4 (.op (some 6) (.alloc 0 [.nils]) []),
  .ef (.op none (.store 1) [(.v 4 none), (.v 9 none)])]) <|
 .seq (.reg [
  .set 10 (.op (some 19) (.build [(.int .i64 0), (.int .i64 0), .nils, (.str [])] [(0, 1), (1, 1), (2, 1), (3, 1)]) [(.k (.int .i64 1)), (.v 1 (some 17)), (.op (some 18) (.bslice 0 [(.str []), (.str [])] 2 [(0, 1), (1, 1)]) [(.k (.str [49])), (.k (.str [50]))]), (.k (.str [51]))]),
  .set 5 (.op (some 7) (.alloc 0 [(.int .i64 0), (.int .i64 0), .nils, (.str [])]) []),
  .ef (.op none (.store 4) [(.v 5 none), (.v 10 none)])]) <|
 .seq (.reg [
  .set 6 (.op (some 8) .mov [(.k (.int .i64 50))])]) <|
 .seq (.seq (.reg [
  .set 11 (.op (some 22) (.binI .rem) [(.op (some 21) (.conv .u64) [(.v 0 (some 20))]), (.k (.int .u64 8))])]) <|
 .block 0 <|
  .ifr [] (.op (some 25) .mov [(.op (some 26) (.binI .eql) [(.v 11 none), (.k (.int .u64 0))])])
   (.reg [
    .ef (.op none (.store 1) [(.op (some 30) (.fadr 0) [(.op (some 29) (.iadr 2) [(.op (some 28) .load1 [(.op (some 27) (.fadr 0) [(.v 4 none)])]), (.k (.int .i64 0))])]), (.k (.int .i64 1))])])
   (.ifr [] (.op (some 31) .mov [(.op (some 32) (.binI .eql) [(.v 11 none), (.k (.int .u64 1))])])
    (.reg [
     .ef (.opr none (.store 1) (.op (some 35) (.fadr 0) [(.v 5 none)]) (.op (some 34) .negI [(.v 3 (some 33))]))])
    (.ifr [] (.op (some 36) .mov [(.op (some 37) (.binI .eql) [(.v 11 none), (.k (.int .u64 2))])])
     (.reg [
      .ef (.opr none (.store 1) (.op (some 40) (.fadr 0) [(.v 5 none)]) (.op (some 39) (.binI .add) [(.k (.int .i64 1)), (.v 3 (some 38))]))])
     (.ifr [] (.op (some 41) .mov [(.op (some 42) (.binI .eql) [(.v 11 none), (.k (.int .u64 3))])])
      (.reg [
       .ef (.op none (.store 1) [(.op (some 43) (.fadr 2) [(.v 5 none)]), (.k .nils)])])
      (.ifr [] (.op (some 44) .mov [(.op (some 45) (.binI .eql) [(.v 11 none), (.k (.int .u64 4))])])
       (.reg [
        .ef (.op none (.store 1) [(.op (some 48) (.iadr 1) [(.op (some 47) .load1 [(.op (some 46) (.fadr 2) [(.v 5 none)])]), (.k (.int .i64 1))]), (.k (.str [48, 50]))])])
       (.ifr [] (.op (some 49) .mov [(.op (some 50) (.binI .eql) [(.v 11 none), (.k (.int .u64 5))])])
        (.reg [
         .ef (.opr none (.store 1) (.op (some 56) (.fadr 3) [(.v 5 none)]) (.op (some 55) .load1 [(.op (some 54) (.iadr 1) [(.op (some 51) (.bslice 0 [(.str []), (.str []), (.str []), (.str [])] 4 [(0, 1), (1, 1), (2, 1), (3, 1)]) [(.k (.str [])), (.k (.str [48, 49])), (.k (.str [64])), (.k (.str [51, 32]))]), (.op (some 53) (.binI .and) [(.v 1 (some 52)), (.k (.int .i64 3))])])]))])
        (.ifr [] (.op (some 57) .mov [(.op (some 58) (.binI .eql) [(.v 11 none), (.k (.int .u64 6))])])
         (.reg [
          .set 6 (.op (some 8) .mov [(.op (some 60) .negI [(.v 3 (some 59))])])])
         (.reg [
          .set 6 (.op (some 8) .mov [(.op (some 24) (.binI .add) [(.k (.int .i64 400)), (.v 3 (some 23))])])])))))))) <|
 .seq (.reg [
  .set 12 (.op (some 61) .mov [(.op (some 65) (.call 152) [(.op (some 62) (.loadN 1) [(.v 4 none)]), (.op (some 63) (.loadN 4) [(.v 5 none)]), (.v 6 (some 64))])]),
  .set 13 (.op (some 66) (.ext 0) [(.v 12 none)]),
  .set 14 (.op (some 67) (.ext 1) [(.v 12 none)]),
  .set 7 (.op (some 9) .mov [(.v 13 none)]),
  .set 8 (.op (some 10) .mov [(.v 14 none)])]) <|
 .seq (.reg [
  .set 2 (.op (some 4) .mov [(.and 70 74 (.op (some 69) .notB [(.v 7 (some 68))]) (.op (some 73) (.binI .eql) [(.op (some 72) (.call 16) [(.v 8 (some 71))]), (.k (.int .i64 1000))]))])]) <|
 .ret

/- sleuth/sleuthlaw10.HoldTable -/
def s132_sleuthlaw10_HoldTable : SFn := .src 57 [0, 2, 3, 4, 5, 6, 7, 8, 41, 47, 48] [.tmp 1] <|
 .seq (.reg [
  .set 1 (.op (some 2) .mov [(.k (.bool false))])]) <|
 .seq (.ifr [] (.op (some 10) .notB [(.op (some 9) (.call 150) [])])
  (.seq (.reg [
   .set 1 (.op (some 2) .mov [(.k (.bool false))])]) <|
  .ret)
  (.skip)) <|
 .seq (.reg [
  .set 2 (.op (some 3) .mov [(.op (some 12) (.binI .and) [(.v 0 (some 11)), (.k (.int .i64 15))])])]) <|
 .seq (.reg [
  .set 3 (.op (some 4) .mov [(.op (some 32) .load1 [(.op (some 31) (.iadr 1) [(.op (some 29) (.bslice 0 [.nils, .nils, .nils, .nils, .nils, .nils, .nils, .nils, .nils, .nils, .nils, .nils, .nils, .nils, .nils, .nils] 16 [(0, 1), (1, 1), (2, 1), (3, 1), (4, 1), (5, 1), (6, 1), (7, 1), (8, 1), (9, 1), (10, 1), (11, 1), (12, 1), (13, 1), (14, 1), (15, 1)]) [(.op (some 13) (.bslice 0 [(.str []), (.str [])] 2 [(0, 1), (1, 1)]) [(.k (.str [49])), (.k (.str [50]))]), (.op (some 14) (.bslice 0 [(.str []), (.str [])] 2 [(0, 1), (1, 1)]) [(.k (.str [49])), (.k (.str [50]))]), (.op (some 15) (.bslice 0 [(.str []), (.str [])] 2 [(0, 1), (1, 1)]) [(.k (.str [49])), (.k (.str [50]))]), (.op (some 16) (.bslice 0 [(.str []), (.str [])] 2 [(0, 1), (1, 1)]) [(.k (.str [49])), (.k (.str [50]))]), (.op (some 17) (.bslice 0 [(.str []), (.str [])] 2 [(0, 1), (1, 1)]) [(.k (.str [95])), (.k (.str [50]))]), (.op (some 18) (.bslice 0 [(.str []), (.str [])] 2 [(0, 1), (1, 1)]) [(.k (.str [95])), (.k (.str [50]))]), (.op (some 19) (.bslice 0 [(.str []), (.str [])] 2 [(0, 1), (1, 1)]) [(.k (.str [49])), (.k (.str [95]))]), (.op (some 20) (.bslice 0 [(.str []), (.str [])] 2 [(0, 1), (1, 1)]) [(.k (.str [64, 55, 40, 95, 32, 49, 41])), (.k (.str [49]))]), (.op (some 21) (.bslice 0 [(.str []), (.str [])] 2 [(0, 1), (1, 1)]) [(.k (.str [64, 55, 40, 49, 32, 95, 41])), (.k (.str [49]))]), (.op (some 22) (.bslice 0 [(.str []), (.str [])] 2 [(0, 1), (1, 1)]) [(.k (.str [64, 55, 40, 49, 41])), (.k (.str [49]))]), (.op (some 23) (.bslice 0 [(.str []), (.str [])] 2 [(0, 1), (1, 1)]) [(.k (.str [64, 55, 40, 49, 32, 64, 50, 41])), (.k (.str [49]))]), (.op (some 24) (.bslice 0 [(.str []), (.str [])] 2 [(0, 1), (1, 1)]) [(.k (.str [33])), (.k (.str [95]))]), (.op (some 25) (.bslice 0 [(.str []), (.str [])] 2 [(0, 1), (1, 1)]) [(.k (.str [64, 51])), (.k (.str [33]))]), (.op (some 26) (.bslice 0 [(.str []), (.str [])] 2 [(0, 1), (1, 1)]) [(.k (.str [49])), (.k (.str [33]))]), (.op (some 27) (.bslice 0 [(.str []), (.str [])] 2 [(0, 1), (1, 1)]) [(.k (.str [64, 55, 40, 33, 32, 51, 41])), (.k (.str [45, 51]))]), (.op (some 28) (.bslice 0 [(.str []), (.str [])] 2 [(0, 1), (1, 1)]) [(.k (.str [51, 50, 55, 54, 55])), (.k (.str [49]))])]), (.v 2 (some 30))])])])]) <|
 .seq (.reg [
  .set 4 (.op (some 5) .mov [(.op (some 36) .load1 [(.op (some 35) (.iadr 1) [(.op (some 33) (.bslice 0 [(.str []), (.str []), (.str []), (.str []), (.str []), (.str []), (.str []), (.str []), (.str []), (.str []), (.str []), (.str []), (.str []), (.str []), (.str []), (.str [])] 16 [(0, 1), (1, 1), (2, 1), (3, 1), (4, 1), (5, 1), (6, 1), (7, 1), (8, 1), (9, 1), (10, 1), (11, 1), (12, 1), (13, 1), (14, 1), (15, 1)]) [(.k (.str [51])), (.k (.str [52])), (.k (.str [95])), (.k (.str [33])), (.k (.str [51])), (.k (.str [95])), (.k (.str [49])), (.k (.str [50])), (.k (.str [50])), (.k (.str [33])), (.k (.str [33])), (.k (.str [33])), (.k (.str [33])), (.k (.str [33])), (.k (.str [48])), (.k (.str [45, 51, 50, 55, 54, 56]))]), (.v 2 (some 34))])])])]) <|
 .seq (.reg [
  .set 5 (.op (some 6) .mov [(.op (some 40) .load1 [(.op (some 39) (.iadr 1) [(.op (some 37) (.bslice 0 [(.bool false), (.bool false), (.bool false), (.bool false), (.bool false), (.bool false), (.bool false), (.bool false), (.bool false), (.bool false), (.bool false), (.bool false), (.bool false), (.bool false), (.bool false), (.bool false)] 16 [(0, 1), (1, 1), (2, 1), (3, 1), (4, 1), (5, 1), (6, 1), (7, 1), (8, 1), (9, 1), (10, 1), (11, 1), (12, 1), (13, 1), (14, 1), (15, 1)]) [(.k (.bool true)), (.k (.bool false)), (.k (.bool true)), (.k (.bool false)), (.k (.bool false)), (.k (.bool true)), (.k (.bool false)), (.k (.bool true)), (.k (.bool false)), (.k (.bool true)), (.k (.bool true)), (.k (.bool true)), (.k (.bool true)), (.k (.bool true)), (.k (.bool true)), (.k (.bool true))]), (.v 2 (some 38))])])])]) <|
 .seq (.reg [
  .set 8 (.op (some 41) .mov [(.op (some 46) (.call 152) [(.op (some 42) (.call 151) []), (.op (some 45) (.build [(.int .i64 0), (.int .i64 0), .nils, (.str [])] [(0, 1), (2, 1), (3, 1)]) [(.k (.int .i64 1)), (.v 3 (some 43)), (.v 4 (some 44))]), (.k (.int .i64 60))])]),
  .set 9 (.op (some 47) (.ext 0) [(.v 8 none)]),
  .set 10 (.op (some 48) (.ext 1) [(.v 8 none)]),
  .set 6 (.op (some 7) .mov [(.v 9 none)]),
  .set 7 (.op (some 8) .mov [(.v 10 none)])]) <|
 .seq (.reg [
  .set 1 (.op (some 2) .mov [(.and 52 56 (.op (some 51) (.binI .eql) [(.op (some 50) (.call 16) [(.v 7 (some 49))]), (.k (.int .i64 0))]) (.op (some 55) (.eqB false) [(.v 6 (some 53)), (.v 5 (some 54))]))])]) <|
 .ret

/- sleuth/sleuthlaw10.awake -/
def s150_sleuthlaw10_awake : SFn := .src 78 [0, 1, 2, 3, 4, 5, 6, 8, 10, 11, 16, 17, 18, 23, 24, 25, 30, 31, 32, 37, 38, 39, 43, 44] [.tmp 0] <|
 .seq (.reg [
  .set 0 (.op (some 0) .mov [(.k (.bool false))])]) <|
 .seq (.reg [
  .set 9 (.op (some 11) .mov [(.op (some 15) (.call 152) [(.op (some 12) (.call 151) []), (.op (some 14) (.build [(.int .i64 0), (.int .i64 0), .nils, (.str [])] [(0, 1), (2, 1), (3, 1)]) [(.k (.int .i64 1)), (.op (some 13) (.bslice 0 [(.str []), (.str [])] 2 [(0, 1), (1, 1)]) [(.k (.str [64, 55, 40, 95, 32, 52, 41])), (.k (.str [53]))]), (.k (.str [57]))]), (.k (.int .i64 50))])]),
  .set 10 (.op (some 16) (.ext 0) [(.v 9 none)]),
  .set 11 (.op (some 17) (.ext 1) [(.v 9 none)]),
  .set 1 (.op (some 1) .mov [(.v 10 none)]),
  .set 2 (.op (some 2) .mov [(.v 11 none)])]) <|
 .seq (.reg [
  .set 12 (.op (some 18) .mov [(.op (some 22) (.call 152) [(.op (some 19) (.call 151) []), (.op (some 21) (.build [(.int .i64 0), (.int .i64 0), .nils, (.str [])] [(0, 1), (2, 1), (3, 1)]) [(.k (.int .i64 1)), (.op (some 20) (.bslice 0 [(.str []), (.str [])] 2 [(0, 1), (1, 1)]) [(.k (.str [64, 55, 40, 95, 32, 95, 41])), (.k (.str [53]))]), (.k (.str [57]))]), (.k (.int .i64 50))])]),
  .set 13 (.op (some 23) (.ext 0) [(.v 12 none)]),
  .set 14 (.op (some 24) (.ext 1) [(.v 12 none)]),
  .set 3 (.op (some 3) .mov [(.v 13 none)]),
  .set 4 (.op (some 4) .mov [(.v 14 none)])]) <|
 .seq (.reg [
  .set 15 (.op (some 25) .mov [(.op (some 29) (.call 152) [(.op (some 26) (.call 151) []), (.op (some 28) (.build [(.int .i64 0), (.int .i64 0), .nils, (.str [])] [(0, 1), (2, 1), (3, 1)]) [(.k (.int .i64 1)), (.op (some 27) (.bslice 0 [(.str []), (.str [])] 2 [(0, 1), (1, 1)]) [(.k (.str [33])), (.k (.str [53]))]), (.k (.str [33]))]), (.k (.int .i64 50))])]),
  .set 16 (.op (some 30) (.ext 0) [(.v 15 none)]),
  .set 17 (.op (some 31) (.ext 1) [(.v 15 none)]),
  .set 5 (.op (some 5) .mov [(.v 16 none)]),
  .set 6 (.op (some 6) .mov [(.v 17 none)])]) <|
 .seq (.reg [
  .set 18 (.op (some 32) .mov [(.op (some 36) (.call 152) [(.op (some 33) (.call 151) []), (.op (some 35) (.build [(.int .i64 0), (.int .i64 0), .nils, (.str [])] [(0, 1), (2, 1), (3, 1)]) [(.k (.int .i64 1)), (.op (some 34) (.bslice 0 [(.str []), (.str [])] 2 [(0, 1), (1, 1)]) [(.k (.str [51])), (.k (.str [53]))]), (.k (.str [56]))]), (.k (.int .i64 2))])]),
  .set 19 (.op (some 37) (.ext 0) [(.v 18 none)]),
  .set 20 (.op (some 38) (.ext 1) [(.v 18 none)]),
  .ef (.v 19 (some 7)),
  .set 7 (.op (some 8) .mov [(.v 20 none)])]) <|
 .seq (.reg [
  .set 21 (.op (some 39) .mov [(.op (some 42) (.call 152) [(.op (some 40) (.call 151) []), (.op (some 41) (.build [(.int .i64 0), (.int .i64 0), .nils, (.str [])] [(0, 1)]) [(.k (.int .i64 2))]), (.k (.int .i64 50))])]),
  .set 22 (.op (some 43) (.ext 0) [(.v 21 none)]),
  .set 23 (.op (some 44) (.ext 1) [(.v 21 none)]),
  .ef (.v 22 (some 9)),
  .set 8 (.op (some 10) .mov [(.v 23 none)])]) <|
 .seq (.reg [
  .set 0 (.op (some 0) .mov [(.and 73 77 (.and 68 72 (.and 63 67 (.and 60 62 (.and 55 59 (.and 51 54 (.and 46 50 (.v 1 (some 45)) (.op (some 49) (.binI .eql) [(.op (some 48) (.call 16) [(.v 2 (some 47))]), (.k (.int .i64 0))])) (.op (some 53) .notB [(.v 3 (some 52))])) (.op (some 58) (.binI .eql) [(.op (some 57) (.call 16) [(.v 4 (some 56))]), (.k (.int .i64 0))])) (.v 5 (some 61))) (.op (some 66) (.binI .eql) [(.op (some 65) (.call 16) [(.v 6 (some 64))]), (.k (.int .i64 0))])) (.op (some 71) (.binI .eql) [(.op (some 70) (.call 16) [(.v 7 (some 69))]), (.k (.int .i64 1001))])) (.op (some 76) (.binI .eql) [(.op (some 75) (.call 16) [(.v 8 (some 74))]), (.k (.int .i64 1000))]))])]) <|
 .ret

/- sleuth/sleuthlaw10.small -/
def s151_sleuthlaw10_small : SFn := .src 15 [0, 1, 10] [.cellN 0 1] <|
 .seq (.reg [
  .set 0 (.op (some 0) (.alloc 0 [.nils]) [])]) <|
 .seq (.reg [
  .set 2 (.op (some 10) (.build [(.int .i64 0), .nils] [(1, 1)]) [(.op (some 9) (.bslice 0 [(.int .i64 0), (.int .i64 0), (.int .i64 0), .nils, (.int .i64 0), (.int .i64 0), (.int .i64 0), .nils, (.int .i64 0), (.int .i64 0), (.int .i64 0), .nils, (.int .i64 0), (.int .i64 0), (.int .i64 0), .nils, (.int .i64 0), (.int .i64 0), (.int .i64 0), .nils] 5 [(0, 4), (4, 4), (8, 4), (12, 4), (16, 4)]) [(.op (some 2) (.build [(.int .i64 0), (.int .i64 0), (.int .i64 0), .nils] [(0, 1)]) [(.k (.int .i64 7))]), (.op (some 3) (.build [(.int .i64 0), (.int .i64 0), (.int .i64 0), .nils] [(1, 1)]) [(.k (.int .i64 4))]), (.op (some 5) (.build [(.int .i64 0), (.int .i64 0), (.int .i64 0), .nils] [(0, 1), (1, 1), (3, 1)]) [(.k (.int .i64 3)), (.k (.int .i64 7)), (.op (some 4) (.bslice 0 [(.int .i64 0), (.int .i64 0)] 2 [(0, 1), (1, 1)]) [(.k (.int .i64 0)), (.k (.int .i64 1))])]), (.op (some 6) (.build [(.int .i64 0), (.int .i64 0), (.int .i64 0), .nils] [(1, 1)]) [(.k (.int .i64 5))]), (.op (some 8) (.build [(.int .i64 0), (.int .i64 0), (.int .i64 0), .nils] [(0, 1), (1, 1), (3, 1)]) [(.k (.int .i64 2)), (.k (.int .i64 1)), (.op (some 7) (.bslice 0 [(.int .i64 0), (.int .i64 0)] 2 [(0, 1), (1, 1)]) [(.k (.int .i64 2)), (.k (.int .i64 3))])])])]),
  .set 1 (.op (some 1) (.alloc 0 [(.int .i64 0), .nils]) []),
  .ef (.op none (.store 2) [(.v 1 none), (.v 2 none)])]) <|
 .seq (.dreg [11, 12, 13, 14] [
  ⟨(some 3), .loadN 2, [.t 1], none⟩,
  ⟨(some 4), .call 180, [], none⟩,
  ⟨(some 5), .bslice 0 [(.int .i64 0), .nils, (.int .i64 0), .nils] 2 [(0, 2), (2, 2)], [.t 3, .t 4], none⟩,
  ⟨(some 6), .build [.nils] [(0, 1)], [.t 5], none⟩,
  ⟨none, .store 1, [.t 0, .t 6], none⟩]
  [.op 0, .op 1, .chk 0, .op 2, .op 3, .op 4]) <|
 .ret

/- sleuth/holds.Is -/
def s152_holds_Is : SFn := .src 37 [0, 1, 2, 3, 4, 6, 7, 8, 9, 10, 11, 19, 20, 21, 34, 35, 36] [.tmp 5, .tmp 6] <|
 .seq (.reg [
  .set 3 (.op (some 3) (.box 0) [(.v 0 none)]),
  .set 4 (.op (some 4) (.box 0) [(.v 1 none)]),
  .set 5 (.op (some 6) .mov [(.k (.bool false))]),
  .set 6 (.op (some 7) .mov [(.k (.int .i64 0))])]) <|
 .seq (.reg [
  .set 10 (.op (some 11) .mov [(.op (some 18) (.call 181) [(.op (some 12) (.loadN 1) [(.v 3 none)]), (.op (some 14) .load1 [(.op (some 13) (.fadr 0) [(.v 4 none)])]), (.op (some 16) .load1 [(.op (some 15) (.fadr 2) [(.v 4 none)])]), (.v 2 (some 17))])]),
  .set 11 (.op (some 19) (.ext 0) [(.v 10 none)]),
  .set 12 (.op (some 20) (.ext 1) [(.v 10 none)]),
  .set 13 (.op (some 21) (.ext 2) [(.v 10 none)]),
  .set 8 (.op (some 9) (.alloc 0 [(.str []), .nils, (.int .i64 0), .nils]) []),
  .set 7 (.op (some 8) .mov [(.v 11 none)]),
  .ef (.op none (.store 4) [(.v 8 none), (.v 12 none)]),
  .set 9 (.op (some 10) .mov [(.v 13 none)])]) <|
 .seq (.ifr [] (.or 24 29 (.op (some 23) .notB [(.v 9 (some 22))]) (.op (some 28) .notB [(.op (some 27) (.call 17) [(.op (some 26) .load1 [(.op (some 25) (.fadr 3) [(.v 4 none)])])])]))
  (.seq (.reg [
   .set 5 (.op (some 6) .mov [(.k (.bool false))]),
   .set 6 (.op (some 7) .mov [(.k (.int .i64 1000))])]) <|
  .ret)
  (.skip)) <|
 .seq (.reg [
  .set 14 (.op (some 34) (.call 182) [(.v 7 (some 30)), (.op (some 32) .load1 [(.op (some 31) (.fadr 3) [(.v 4 none)])]), (.op (some 33) (.loadN 4) [(.v 8 none)])]),
  .set 15 (.op (some 35) (.ext 0) [(.v 14 none)]),
  .set 16 (.op (some 36) (.ext 1) [(.v 14 none)]),
  .set 5 (.op (some 6) .mov [(.v 15 none)]),
  .set 6 (.op (some 7) .mov [(.v 16 none)])]) <|
 .ret

/- sleuth/program.May -/
def s157_program_May : SFn := .src 42 [0, 1, 2, 3, 5, 26, 27, 28, 29, 31] [.tmp 2] <|
 .seq (.reg [
  .set 1 (.op (some 1) (.box 0) [(.v 0 none)]),
  .set 2 (.op (some 2) .mov [(.k (.bool false))])]) <|
 .seq (.ifr [] (.or 16 23 (.or 10 15 (.op (some 9) (.binI .eql) [(.op (some 8) .lenL [(.op (some 7) .load1 [(.op (some 6) (.fadr 0) [(.v 1 none)])])]), (.k (.int .i64 0))]) (.op (some 14) (.binI .gtr) [(.op (some 13) .lenL [(.op (some 12) .load1 [(.op (some 11) (.fadr 0) [(.v 1 none)])])]), (.k (.int .i64 8))])) (.op (some 22) (.binI .neq) [(.op (some 21) .load1 [(.op (some 20) (.fadr 0) [(.op (some 19) (.iadr 2) [(.op (some 18) .load1 [(.op (some 17) (.fadr 0) [(.v 1 none)])]), (.k (.int .i64 0))])])]), (.k (.int .i64 0))]))
  (.seq (.reg [
   .set 2 (.op (some 2) .mov [(.k (.bool false))])]) <|
  .ret)
  (.skip)) <|
 .seq (.reg [
  .set 3 (.op (some 3) .mov [(.op (some 24) (.mkfn 186) [(.v 1 none)])])]) <|
 .seq (.seq (.reg [
  .set 5 (.op (some 26) .load1 [(.op (some 25) (.fadr 0) [(.v 1 none)])]),
  .set 6 (.op (some 27) .lenL [(.v 5 none)]),
  .set 7 (.op (some 28) .mov [(.k (.int .i64 0))])]) <|
 .block 0 <|
  .loop [3, 5, 6, 7] <|
   .seq (.reg [
    .set 8 (.op (some 29) (.binI .lss) [(.v 7 none), (.v 6 none)])]) <|
   .seq (.cond (.t 8)
    (.skip)
    (.exit 0)) <|
   .seq (.block 1 <|
    .seq (.reg [
     .set 9 (.op (some 31) (.loadN 2) [(.op (some 30) (.iadr 2) [(.v 5 none), (.v 7 none)])]),
     .set 4 (.op (some 5) (.alloc 0 [(.int .i64 0), .nils]) []),
     .ef (.op none (.store 2) [(.v 4 none), (.v 9 none)])]) <|
    .ifr [] (.or 35 40 (.op (some 34) .notB [(.op (some 33) (.call 187) [(.op (some 32) (.loadN 2) [(.v 4 none)])])]) (.op (some 39) (.call 188) [(.op (some 37) .load1 [(.op (some 36) (.fadr 1) [(.v 4 none)])]), (.v 3 (some 38))]))
     (.seq (.reg [
      .set 2 (.op (some 2) .mov [(.k (.bool false))])]) <|
     .ret)
     (.skip)) <|
   .reg [
    .set 7 (.op (some 28) .mov [(.op (some 41) (.binI .add) [(.v 7 none), (.k (.int .i64 1))])])]) <|
 .seq (.reg [
  .set 2 (.op (some 2) .mov [(.k (.bool true))])]) <|
 .ret

/- sleuth/sleuthlaw10.adds -/
def s180_sleuthlaw10_adds : SFn := .src 14 [0] [.cellN 0 2] <|
 .seq (.reg [
  .set 0 (.op (some 0) (.alloc 0 [(.int .i64 0), .nils]) [])]) <|
 .seq (.reg [
  .ef (.op none (.store 2) [(.v 0 none), (.op (some 13) (.build [(.int .i64 0), .nils] [(0, 1), (1, 1)]) [(.k (.int .i64 2)), (.op (some 12) (.bslice 0 [(.int .i64 0), (.int .i64 0), (.int .i64 0), .nils, (.int .i64 0), (.int .i64 0), (.int .i64 0), .nils, (.int .i64 0), (.int .i64 0), (.int .i64 0), .nils, (.int .i64 0), (.int .i64 0), (.int .i64 0), .nils, (.int .i64 0), (.int .i64 0), (.int .i64 0), .nils, (.int .i64 0), (.int .i64 0), (.int .i64 0), .nils, (.int .i64 0), (.int .i64 0), (.int .i64 0), .nils, (.int .i64 0), (.int .i64 0), (.int .i64 0), .nils] 8 [(0, 4), (4, 4), (8, 4), (12, 4), (16, 4), (20, 4), (24, 4), (28, 4)]) [(.op (some 1) (.build [(.int .i64 0), (.int .i64 0), (.int .i64 0), .nils] [(0, 1)]) [(.k (.int .i64 1))]), (.op (some 2) (.build [(.int .i64 0), (.int .i64 0), (.int .i64 0), .nils] [(0, 1), (1, 1)]) [(.k (.int .i64 1)), (.k (.int .i64 3))]), (.op (some 3) (.build [(.int .i64 0), (.int .i64 0), (.int .i64 0), .nils] [(0, 1), (1, 1)]) [(.k (.int .i64 1)), (.k (.int .i64 1))]), (.op (some 5) (.build [(.int .i64 0), (.int .i64 0), (.int .i64 0), .nils] [(0, 1), (3, 1)]) [(.k (.int .i64 4)), (.op (some 4) (.bslice 0 [(.int .i64 0), (.int .i64 0)] 2 [(0, 1), (1, 1)]) [(.k (.int .i64 1)), (.k (.int .i64 2))])]), (.op (some 6) (.build [(.int .i64 0), (.int .i64 0), (.int .i64 0), .nils] [(0, 1)]) [(.k (.int .i64 1))]), (.op (some 7) (.build [(.int .i64 0), (.int .i64 0), (.int .i64 0), .nils] [(0, 1), (1, 1)]) [(.k (.int .i64 1)), (.k (.int .i64 1))]), (.op (some 9) (.build [(.int .i64 0), (.int .i64 0), (.int .i64 0), .nils] [(0, 1), (3, 1)]) [(.k (.int .i64 4)), (.op (some 8) (.bslice 0 [(.int .i64 0), (.int .i64 0)] 2 [(0, 1), (1, 1)]) [(.k (.int .i64 4)), (.k (.int .i64 5))])]), (.op (some 11) (.build [(.int .i64 0), (.int .i64 0), (.int .i64 0), .nils] [(0, 1), (1, 1), (2, 1), (3, 1)]) [(.k (.int .i64 5)), (.k (.int .i64 7)), (.k (.int .i64 2)), (.op (some 10) (.bslice 0 [(.int .i64 0), (.int .i64 0), (.int .i64 0)] 3 [(0, 1), (1, 1), (2, 1)]) [(.k (.int .i64 0)), (.k (.int .i64 3)), (.k (.int .i64 6))])])])])])]) <|
 .ret

/- sleuth/name.New -/
def s181_name_New : SFn := .src 76 [0, 1, 2, 3, 4, 8, 9, 10, 11, 12, 14, 53, 59, 60, 61, 62, 71, 75] [.tmp 5, .cellN 6 4, .tmp 7] <|
 .seq (.reg [
  .set 4 (.op (some 4) (.box 0) [(.v 0 none)]),
  .set 5 (.op (some 8) .mov [(.k .nilp)]),
  .set 6 (.op (some 9) (.alloc 0 [(.str []), .nils, (.int .i64 0), .nils]) []),
  .set 7 (.op (some 10) .mov [(.k (.bool false))])]) <|
 .seq (.ifr [] (.or 49 52 (.or 45 48 (.or 40 44 (.or 29 39 (.or 22 28 (.or 18 21 (.op (some 17) .notB [(.op (some 16) (.call 157) [(.op (some 15) (.loadN 1) [(.v 4 none)])])]) (.op (some 20) (.binI .lss) [(.v 1 (some 19)), (.k (.int .i64 0))])) (.op (some 27) (.binI .geq) [(.v 1 (some 23)), (.op (some 26) .lenL [(.op (some 25) .load1 [(.op (some 24) (.fadr 0) [(.v 4 none)])])])])) (.op (some 38) (.binI .neq) [(.op (some 31) .lenL [(.v 2 (some 30))]), (.op (some 37) .load1 [(.op (some 36) (.fadr 0) [(.op (some 35) (.iadr 2) [(.op (some 33) .load1 [(.op (some 32) (.fadr 0) [(.v 4 none)])]), (.v 1 (some 34))])])])])) (.op (some 43) .notB [(.op (some 42) (.call 26) [(.v 2 (some 41))])])) (.op (some 47) (.binI .lss) [(.v 3 (some 46)), (.k (.int .i64 0))])) (.op (some 51) (.binI .gtr) [(.v 3 (some 50)), (.k (.int .i64 400))]))
  (.seq (.reg [
   .set 11 (.op (some 53) (.build [(.str []), .nils, (.int .i64 0), .nils] []) []),
   .set 5 (.op (some 8) .mov [(.k .nilp)]),
   .ef (.op none (.store 4) [(.v 6 none), (.v 11 none)]),
   .set 7 (.op (some 10) .mov [(.k (.bool false))])]) <|
  .ret)
  (.skip)) <|
 .seq (.reg [
  .set 8 (.op (some 11) .mov [(.op (some 58) (.box 0) [(.op (some 57) (.build [.nils, (.int .i64 0)] [(0, 1), (1, 1)]) [(.op (some 55) .load1 [(.op (some 54) (.fadr 0) [(.v 4 none)])]), (.v 3 (some 56))])])])]) <|
 .seq (.reg [
  .set 9 (.op (some 12) .mov [(.k .nils)])]) <|
 .seq (.seq (.reg [
  .set 12 (.op (some 59) .mov [(.v 2 none)]),
  .set 13 (.op (some 60) .lenL [(.v 12 none)]),
  .set 14 (.op (some 61) .mov [(.k (.int .i64 0))])]) <|
 .block 0 <|
  .loop [1, 6, 8, 9, 12, 13, 14] <|
   .seq (.reg [
    .set 15 (.op (some 62) (.binI .lss) [(.v 14 none), (.v 13 none)])]) <|
   .seq (.cond (.t 15)
    (.skip)
    (.exit 0)) <|
   .seq (.block 1 <|
    .seq (.reg [
     .set 10 (.op (some 14) .mov [(.op (some 64) .load1 [(.op (some 63) (.iadr 1) [(.v 12 none), (.v 14 none)])])])]) <|
    .reg [
     .set 9 (.op (some 12) .mov [(.op (some 69) (.app 0 4 72) [(.v 9 (some 65)), (.op (some 68) (.bslice 0 [(.str []), .nils, (.int .i64 0), .nils] 1 [(0, 4)]) [(.op (some 67) (.call 204) [(.v 10 (some 66))])])])])]) <|
   .reg [
    .set 14 (.op (some 61) .mov [(.op (some 70) (.binI .add) [(.v 14 none), (.k (.int .i64 1))])])]) <|
 .seq (.reg [
  .set 16 (.op (some 71) .mov [(.v 8 none)]),
  .set 17 (.op (some 75) (.call 205) [(.v 8 (some 72)), (.v 1 (some 73)), (.v 9 (some 74))]),
  .set 5 (.op (some 8) .mov [(.v 16 none)]),
  .ef (.op none (.store 4) [(.v 6 none), (.v 17 none)]),
  .set 7 (.op (some 10) .mov [(.k (.bool true))])]) <|
 .ret

/- sleuth/holds.met -/
def s182_holds_met : SFn := .src 81 [0, 1, 2, 5, 6, 7, 8, 9, 10, 12, 13, 14, 15, 16, 17, 18, 21, 22, 23, 24, 27, 31, 32, 59, 60, 61, 62, 63, 65, 66, 75, 76, 79] [.tmp 4, .tmp 5] <|
 .seq (.reg [
  .set 3 (.op (some 5) (.box 0) [(.v 2 none)]),
  .set 4 (.op (some 6) .mov [(.k (.bool false))]),
  .set 5 (.op (some 7) .mov [(.k (.int .i64 0))])]) <|
 .seq (.reg [
  .set 15 (.op (some 18) .mov [(.op (some 20) (.call 11) [(.v 1 (some 19))])]),
  .set 16 (.op (some 21) (.ext 0) [(.v 15 none)]),
  .set 17 (.op (some 22) (.ext 1) [(.v 15 none)]),
  .set 18 (.op (some 23) (.ext 2) [(.v 15 none)]),
  .set 19 (.op (some 24) (.ext 3) [(.v 15 none)]),
  .set 6 (.op (some 8) .mov [(.v 16 none)]),
  .set 7 (.op (some 9) .mov [(.v 17 none)]),
  .set 8 (.op (some 10) .mov [(.v 18 none)]),
  .ef (.v 19 (some 11))]) <|
 .seq (.ifr [] (.op (some 26) (.binI .eql) [(.v 6 (some 25)), (.k (.int .i64 0))])
  (.seq (.reg [
   .set 4 (.op (some 6) .mov [(.k (.bool true))]),
   .set 5 (.op (some 7) .mov [(.k (.int .i64 0))])]) <|
  .ret)
  (.skip)) <|
 .seq (.reg [
  .set 20 (.op (some 27) .mov [(.op (some 30) (.call 184) [(.v 0 (some 28)), (.op (some 29) (.loadN 4) [(.v 3 none)])])]),
  .set 21 (.op (some 31) (.ext 0) [(.v 20 none)]),
  .set 22 (.op (some 32) (.ext 1) [(.v 20 none)]),
  .set 9 (.op (some 12) (.alloc 0 [(.int .i64 0), (.int .i64 0), .nils]) []),
  .ef (.op none (.store 3) [(.v 9 none), (.v 21 none)]),
  .set 10 (.op (some 13) .mov [(.v 22 none)])]) <|
 .seq (.block 0 <|
  .ifr [] (.op (some 33) .mov [(.op (some 35) (.binI .eql) [(.v 10 (some 34)), (.k (.int .i64 901))])])
   (.seq (.reg [
    .set 4 (.op (some 6) .mov [(.k (.bool false))]),
    .set 5 (.op (some 7) .mov [(.k (.int .i64 1001))])]) <|
   .ret)
   (.ifr [] (.op (some 36) .mov [(.or 51 58 (.or 45 50 (.or 39 44 (.op (some 38) (.binI .neq) [(.v 10 (some 37)), (.k (.int .i64 0))]) (.op (some 43) (.binI .neq) [(.op (some 41) .load1 [(.op (some 40) (.fadr 0) [(.v 9 none)])]), (.v 6 (some 42))])) (.op (some 49) (.binI .neq) [(.op (some 47) .load1 [(.op (some 46) (.fadr 1) [(.v 9 none)])]), (.v 7 (some 48))])) (.op (some 57) (.binI .neq) [(.op (some 54) .lenL [(.op (some 53) .load1 [(.op (some 52) (.fadr 2) [(.v 9 none)])])]), (.op (some 56) .lenL [(.v 8 (some 55))])]))])
    (.seq (.reg [
     .set 4 (.op (some 6) .mov [(.k (.bool false))]),
     .set 5 (.op (some 7) .mov [(.k (.int .i64 0))])]) <|
    .ret)
    (.skip))) <|
 .seq (.seq (.reg [
  .set 23 (.op (some 59) .mov [(.v 8 none)]),
  .set 24 (.op (some 60) .lenL [(.v 23 none)]),
  .set 25 (.op (some 61) .mov [(.k (.int .i64 0))])]) <|
 .block 1 <|
  .loop [0, 9, 23, 24, 25] <|
   .seq (.reg [
    .set 26 (.op (some 62) (.binI .lss) [(.v 25 none), (.v 24 none)])]) <|
   .seq (.cond (.t 26)
    (.skip)
    (.exit 1)) <|
   .seq (.block 2 <|
    .seq (.reg [
     .set 27 (.op (some 63) .mov [(.v 25 none)]),
     .set 28 (.op (some 65) .load1 [(.op (some 64) (.iadr 1) [(.v 23 none), (.v 25 none)])]),
     .set 11 (.op (some 14) .mov [(.v 27 none)]),
     .set 12 (.op (some 15) .mov [(.v 28 none)])]) <|
    .seq (.reg [
     .set 29 (.op (some 66) .mov [(.op (some 74) (.call 182) [(.v 0 (some 67)), (.v 12 (some 68)), (.op (some 73) (.loadN 4) [(.op (some 72) (.iadr 4) [(.op (some 70) .load1 [(.op (some 69) (.fadr 2) [(.v 9 none)])]), (.v 11 (some 71))])])])]),
     .set 30 (.op (some 75) (.ext 0) [(.v 29 none)]),
     .set 31 (.op (some 76) (.ext 1) [(.v 29 none)]),
     .set 13 (.op (some 16) .mov [(.v 30 none)]),
     .set 14 (.op (some 17) .mov [(.v 31 none)])]) <|
    .ifr [] (.op (some 78) .notB [(.v 13 (some 77))])
     (.seq (.reg [
      .set 32 (.op (some 79) .mov [(.v 14 none)]),
      .set 4 (.op (some 6) .mov [(.k (.bool false))]),
      .set 5 (.op (some 7) .mov [(.v 32 none)])]) <|
     .ret)
     (.skip)) <|
   .reg [
    .set 25 (.op (some 61) .mov [(.op (some 80) (.binI .add) [(.v 25 none), (.k (.int .i64 1))])])]) <|
 .seq (.reg [
  .set 4 (.op (some 6) .mov [(.k (.bool true))]),
  .set 5 (.op (some 7) .mov [(.k (.int .i64 0))])]) <|
 .ret

/- (*sleuth/name.Looker).Look -/
def s184___name_Looker__Look : SFn := .src 139 [0, 1, 3, 4, 5, 6, 7, 8, 18, 33, 34, 35, 36, 85, 89, 90, 100, 101, 102, 136, 137, 138] [.cellN 3 3, .tmp 4] <|
 .seq (.reg [
  .set 2 (.op (some 3) (.box 0) [(.v 1 none)]),
  .set 3 (.op (some 4) (.alloc 0 [(.int .i64 0), (.int .i64 0), .nils]) []),
  .set 4 (.op (some 5) .mov [(.k (.int .i64 0))])]) <|
 .seq (.block 0 <|
  .loop [0, 2, 3] <|
   .seq (.ifr [] (.op (some 11) (.isNil .sl true) [(.op (some 10) .load1 [(.op (some 9) (.fadr 1) [(.v 2 none)])])])
    (.skip)
    (.exit 0)) <|
   .block 1 <|
    .seq (.ifr [] (.op (some 16) (.binI .eql) [(.op (some 15) .load1 [(.op (some 14) (.fadr 1) [(.op (some 13) .nilCheck [(.v 0 (some 12))])])]), (.k (.int .i64 0))])
     (.seq (.reg [
      .ef (.op none (.store 3) [(.v 3 none), (.op (some 17) (.build [(.int .i64 0), (.int .i64 0), .nils] []) [])]),
      .set 4 (.op (some 5) .mov [(.k (.int .i64 901))])]) <|
     .ret)
     (.skip)) <|
    .seq (.reg [
     .set 8 (.op (some 18) .mov [(.v 0 none)]),
     .ef (.opr none (.store 1) (.op (some 24) (.fadr 1) [(.op (some 23) .nilCheck [(.v 8 none)])]) (.op (some 22) (.binI .sub) [(.op (some 21) .load1 [(.op (some 20) (.fadr 1) [(.op (some 19) .nilCheck [(.v 8 none)])])]), (.k (.int .i64 1))]))]) <|
    .seq (.reg [
     .set 5 (.op (some 6) .mov [(.op (some 29) (.iadr 4) [(.op (some 26) .load1 [(.op (some 25) (.fadr 1) [(.v 2 none)])]), (.op (some 28) .load1 [(.op (some 27) (.fadr 2) [(.v 2 none)])])])])]) <|
    .seq (.reg [
     .set 9 (.op (some 33) .load1 [(.op (some 32) (.fadr 0) [(.op (some 31) .nilCheck [(.v 5 (some 30))])])])]) <|
    .block 2 <|
     .ifr [] (.op (some 37) .mov [(.op (some 38) (.binI .eql) [(.v 9 none), (.k (.int .i64 0))])])
      (.seq (.reg [
       .ef (.op none (.store 3) [(.v 3 none), (.op (some 43) (.build [(.int .i64 0), (.int .i64 0), .nils] [(0, 1), (1, 1)]) [(.k (.int .i64 1)), (.op (some 42) .load1 [(.op (some 41) (.fadr 1) [(.op (some 40) .nilCheck [(.v 5 (some 39))])])])])]),
       .set 4 (.op (some 5) .mov [(.k (.int .i64 0))])]) <|
      .ret)
      (.ifr [] (.op (some 44) .mov [(.op (some 45) (.binI .eql) [(.v 9 none), (.k (.int .i64 1))])])
       (.dreg [46, 47, 48, 49, 50, 51, 52, 53] [
        ⟨(some 22), .fadr 3, [.t 2], none⟩,
        ⟨(some 23), .load1, [.t 22], none⟩,
        ⟨(some 24), .mov, [.t 5], none⟩,
        ⟨(some 25), .nilCheck, [.t 24], none⟩,
        ⟨(some 26), .fadr 1, [.t 25], none⟩,
        ⟨(some 27), .load1, [.t 26], none⟩,
        ⟨(some 28), .iadr 4, [.t 23, .t 27], none⟩,
        ⟨(some 29), .loadN 4, [.t 28], none⟩,
        ⟨none, .store 4, [.t 2, .t 29], none⟩]
        [.op 0, .op 1, .op 2, .op 3, .op 4, .op 5, .op 6, .op 7, .op 8])
       (.ifr [] (.op (some 54) .mov [(.op (some 55) (.binI .eql) [(.v 9 none), (.k (.int .i64 2))])])
        (.dreg [56, 57, 58, 59, 60, 61, 62] [
         ⟨(some 22), .mov, [.t 0], none⟩,
         ⟨(some 23), .mov, [.t 5], none⟩,
         ⟨(some 24), .nilCheck, [.t 23], none⟩,
         ⟨(some 25), .fadr 1, [.t 24], none⟩,
         ⟨(some 26), .load1, [.t 25], none⟩,
         ⟨(some 27), .call 206, [.t 2], none⟩,
         ⟨(some 28), .call 205, [.t 22, .t 26, .t 27], none⟩,
         ⟨none, .store 4, [.t 2, .t 28], none⟩]
         [.op 0, .op 1, .op 2, .op 3, .op 4, .op 5, .chk 4, .op 6, .op 7])
        (.ifr [] (.op (some 63) .mov [(.op (some 64) (.binI .eql) [(.v 9 none), (.k (.int .i64 3))])])
         (.seq (.dreg [65, 66, 67, 68, 69, 70] [
          ⟨(some 22), .mov, [.t 5], none⟩,
          ⟨(some 23), .nilCheck, [.t 22], none⟩,
          ⟨(some 24), .fadr 1, [.t 23], none⟩,
          ⟨(some 25), .load1, [.t 24], none⟩,
          ⟨(some 26), .call 206, [.t 2], none⟩,
          ⟨(some 27), .build [(.int .i64 0), (.int .i64 0), .nils] [(0, 1), (1, 1), (2, 1)], [.c (.int .i64 2), .t 25, .t 26], none⟩,
          ⟨none, .store 3, [.t 3, .t 27], none⟩,
          ⟨(some 4), .mov, [.c (.int .i64 0)], none⟩]
          [.op 0, .op 1, .op 2, .op 3, .op 4, .chk 3, .op 5, .op 6, .op 7]) <|
         .ret)
         (.ifr [] (.op (some 71) .mov [(.op (some 72) (.binI .eql) [(.v 9 none), (.k (.int .i64 4))])])
          (.seq (.dreg [73, 74, 75, 76, 77, 78, 79, 80, 81, 82] [
           ⟨(some 22), .mov, [.t 0], none⟩,
           ⟨(some 23), .mov, [.t 5], none⟩,
           ⟨(some 24), .nilCheck, [.t 23], none⟩,
           ⟨(some 25), .fadr 1, [.t 24], none⟩,
           ⟨(some 26), .load1, [.t 25], none⟩,
           ⟨(some 27), .call 208, [.t 2, .c (.int .i64 0), .c .nils], none⟩,
           ⟨(some 28), .call 208, [.t 2, .c (.int .i64 1), .c .nils], none⟩,
           ⟨(some 29), .call 207, [.t 22, .t 26, .t 27, .t 28], none⟩,
           ⟨(some 30), .ext 0, [.t 29], none⟩,
           ⟨(some 31), .ext 1, [.t 29], none⟩,
           ⟨none, .store 3, [.t 3, .t 30], none⟩,
           ⟨(some 4), .mov, [.t 31], none⟩]
           [.op 0, .op 1, .op 2, .op 3, .op 4, .op 5, .chk 4, .op 6, .chk 4, .op 7, .op 8, .op 9, .op 10, .op 11]) <|
          .ret)
          (.ifr [] (.op (some 83) .mov [(.op (some 84) (.binI .eql) [(.v 9 none), (.k (.int .i64 5))])])
           (.seq (.reg [
            .set 13 (.op (some 85) .mov [(.op (some 88) (.call 184) [(.v 0 (some 86)), (.op (some 87) (.call 208) [(.v 2 none), (.k (.int .i64 0)), (.k .nils)])])]),
            .set 14 (.op (some 89) (.ext 0) [(.v 13 none)]),
            .set 15 (.op (some 90) (.ext 1) [(.v 13 none)]),
            .set 6 (.op (some 7) (.alloc 0 [(.int .i64 0), (.int .i64 0), .nils]) []),
            .ef (.op none (.store 3) [(.v 6 none), (.v 14 none)]),
            .set 7 (.op (some 8) .mov [(.v 15 none)])]) <|
           .block 3 <|
            .ifr [] (.op (some 92) .mov [(.or 95 99 (.op (some 94) (.binI .neq) [(.v 7 (some 93)), (.k (.int .i64 0))]) (.op (some 98) (.binI .eql) [(.op (some 97) .load1 [(.op (some 96) (.fadr 0) [(.v 6 none)])]), (.k (.int .i64 3))]))])
             (.seq (.reg [
              .set 16 (.op (some 100) (.loadN 3) [(.v 6 none)]),
              .set 17 (.op (some 101) .mov [(.v 7 none)]),
              .ef (.op none (.store 3) [(.v 3 none), (.v 16 none)]),
              .set 4 (.op (some 5) .mov [(.v 17 none)])]) <|
             .ret)
             (.seq (.dreg [103, 104, 105, 106, 107, 108, 109, 110, 111, 112, 113, 114, 115, 116, 117, 118, 119, 120, 121, 122, 123, 124] [
              ⟨(some 22), .fadr 0, [.t 6], none⟩,
              ⟨(some 23), .load1, [.t 22], none⟩,
              ⟨(some 24), .binI .eql, [.t 23, .c (.int .i64 2)], none⟩,
              ⟨(some 25), .mov, [.t 24], none⟩,
              ⟨(some 26), .fadr 1, [.t 6], (some (25, true))⟩,
              ⟨(some 27), .load1, [.t 26], (some (25, true))⟩,
              ⟨(some 28), .mov, [.t 5], (some (25, true))⟩,
              ⟨(some 29), .nilCheck, [.t 28], (some (25, true))⟩,
              ⟨(some 30), .fadr 1, [.t 29], (some (25, true))⟩,
              ⟨(some 31), .load1, [.t 30], (some (25, true))⟩,
              ⟨(some 32), .binI .eql, [.t 27, .t 31], (some (25, true))⟩,
              ⟨(some 33), .pick, [.t 25, .t 32, .c (.bool false)], none⟩,
              ⟨(some 34), .mov, [.t 33], none⟩,
              ⟨(some 35), .fadr 2, [.t 6], (some (34, true))⟩,
              ⟨(some 36), .load1, [.t 35], (some (34, true))⟩,
              ⟨(some 37), .lenL, [.t 36], (some (34, true))⟩,
              ⟨(some 38), .mov, [.t 5], (some (34, true))⟩,
              ⟨(some 39), .nilCheck, [.t 38], (some (34, true))⟩,
              ⟨(some 40), .fadr 2, [.t 39], (some (34, true))⟩,
              ⟨(some 41), .load1, [.t 40], (some (34, true))⟩,
              ⟨(some 42), .binI .eql, [.t 37, .t 41], (some (34, true))⟩,
              ⟨(some 43), .pick, [.t 34, .t 42, .c (.bool false)], none⟩,
              ⟨(some 18), .mov, [.t 43], none⟩]
              [.op 0, .op 1, .op 2, .op 3, .op 4, .op 5, .op 6, .op 7, .op 8, .op 9, .op 10, .op 11, .op 12, .op 13, .op 14, .op 15, .op 16, .op 17, .op 18, .op 19, .op 20, .op 21, .op 22]) <|
             .cond (.t 18)
              (.reg [
               .ef (.op none (.store 4) [(.v 2 none), (.op (some 127) (.call 208) [(.v 2 none), (.k (.int .i64 1)), (.op (some 126) .load1 [(.op (some 125) (.fadr 2) [(.v 6 none)])])])])])
              (.reg [
               .ef (.op none (.store 4) [(.v 2 none), (.op (some 91) (.call 208) [(.v 2 none), (.k (.int .i64 2)), (.k .nils)])])])))
           (.ifr [] (.op (some 128) .mov [(.op (some 129) (.binI .eql) [(.v 9 none), (.k (.int .i64 6))])])
            (.reg [
             .ef (.op none (.store 4) [(.v 2 none), (.op (some 132) (.call 208) [(.v 2 none), (.k (.int .i64 1)), (.op (some 131) (.bslice 0 [(.str []), .nils, (.int .i64 0), .nils] 1 [(0, 4)]) [(.op (some 130) (.call 208) [(.v 2 none), (.k (.int .i64 0)), (.k .nils)])])])])])
            (.seq (.reg [
             .set 10 (.op (some 34) (.call 209) []),
             .set 11 (.op (some 35) (.ext 0) [(.v 10 none)]),
             .set 12 (.op (some 36) (.ext 1) [(.v 10 none)]),
             .ef (.op none (.store 3) [(.v 3 none), (.v 11 none)]),
             .set 4 (.op (some 5) .mov [(.v 12 none)])]) <|
            .ret)))))))) <|
 .seq (.reg [
  .set 19 (.op (some 136) (.call 210) [(.v 0 (some 133)), (.op (some 135) .load1 [(.op (some 134) (.fadr 0) [(.v 2 none)])])]),
  .set 20 (.op (some 137) (.ext 0) [(.v 19 none)]),
  .set 21 (.op (some 138) (.ext 1) [(.v 19 none)]),
  .ef (.op none (.store 3) [(.v 3 none), (.v 20 none)]),
  .set 4 (.op (some 5) .mov [(.v 21 none)])]) <|
 .ret

/- sleuth/program.May$1 -/
def s186_program_May_1 : SFn := .src 28 [0, 1, 2, 3] [.tmp 3] <|
 .seq (.reg [
  .set 2 (.op (some 2) (.box 0) [(.v 0 none)]),
  .set 3 (.op (some 3) .mov [(.k (.bool false))])]) <|
 .seq (.dreg [4, 5, 6, 7, 8, 9, 10, 11, 12, 13, 14, 15, 16, 17, 18, 19, 20, 21, 22, 23, 24, 25, 26, 27] [
  ⟨(some 4), .fadr 0, [.t 2], none⟩,
  ⟨(some 5), .load1, [.t 4], none⟩,
  ⟨(some 6), .binI .eql, [.t 5, .c (.int .i64 2)], none⟩,
  ⟨(some 7), .mov, [.t 6], none⟩,
  ⟨(some 8), .fadr 1, [.t 2], (some (7, true))⟩,
  ⟨(some 9), .load1, [.t 8], (some (7, true))⟩,
  ⟨(some 10), .fadr 0, [.t 1], (some (7, true))⟩,
  ⟨(some 11), .load1, [.t 10], (some (7, true))⟩,
  ⟨(some 12), .lenL, [.t 11], (some (7, true))⟩,
  ⟨(some 13), .binI .geq, [.t 9, .t 12], (some (7, true))⟩,
  ⟨(some 14), .mov, [.t 13], (some (7, true))⟩,
  ⟨(some 15), .fadr 3, [.t 2], (some (14, false))⟩,
  ⟨(some 16), .load1, [.t 15], (some (14, false))⟩,
  ⟨(some 17), .lenL, [.t 16], (some (14, false))⟩,
  ⟨(some 18), .fadr 0, [.t 1], (some (14, false))⟩,
  ⟨(some 19), .load1, [.t 18], (some (14, false))⟩,
  ⟨(some 20), .fadr 1, [.t 2], (some (14, false))⟩,
  ⟨(some 21), .load1, [.t 20], (some (14, false))⟩,
  ⟨(some 22), .iadr 2, [.t 19, .t 21], (some (14, false))⟩,
  ⟨(some 23), .fadr 0, [.t 22], (some (14, false))⟩,
  ⟨(some 24), .load1, [.t 23], (some (14, false))⟩,
  ⟨(some 25), .binI .neq, [.t 17, .t 24], (some (14, false))⟩,
  ⟨(some 26), .pick, [.t 14, .c (.bool true), .t 25], (some (7, true))⟩,
  ⟨(some 27), .pick, [.t 7, .t 26, .c (.bool false)], none⟩,
  ⟨(some 3), .mov, [.t 27], none⟩]
  [.op 0, .op 1, .op 2, .op 3, .op 4, .op 5, .op 6, .op 7, .op 8, .op 9, .op 10, .op 11, .op 12, .op 13, .op 14, .op 15, .op 16, .op 17, .op 18, .op 19, .op 20, .op 21, .op 22, .op 23, .op 24]) <|
 .ret

/- sleuth/expr.May -/
def s187_expr_May : SFn := .src 106 [0, 1, 2, 3, 4, 5, 6, 7, 8, 9, 25, 27, 28, 29, 35, 36, 73, 74, 75, 76, 77, 79] [.tmp 2] <|
 .seq (.reg [
  .set 1 (.op (some 1) (.box 0) [(.v 0 none)]),
  .set 2 (.op (some 2) .mov [(.k (.bool false))])]) <|
 .seq (.reg [
  .set 3 (.op (some 3) .mov [(.op (some 13) (.binI .sub) [(.op (some 12) .lenL [(.op (some 11) .load1 [(.op (some 10) (.fadr 1) [(.v 1 none)])])]), (.k (.int .i64 1))])])]) <|
 .seq (.ifr [] (.or 18 22 (.op (some 17) .notB [(.op (some 16) (.call 212) [(.op (some 15) .load1 [(.op (some 14) (.fadr 0) [(.v 1 none)])]), (.k (.int .i64 3))])]) (.op (some 21) .notB [(.op (some 20) (.call 212) [(.v 3 (some 19)), (.k (.int .i64 23))])]))
  (.seq (.reg [
   .set 2 (.op (some 2) .mov [(.k (.bool false))])]) <|
  .ret)
  (.skip)) <|
 .seq (.reg [
  .set 10 (.op (some 25) .lenL [(.op (some 24) .load1 [(.op (some 23) (.fadr 1) [(.v 1 none)])])]),
  .set 4 (.op (some 4) .mov [(.op (some 26) (.mkslice 0 [(.int .i64 0)] 8) [(.v 10 none), (.v 10 none)])])]) <|
 .seq (.seq (.reg [
  .set 11 (.op (some 27) .mov [(.v 3 none)]),
  .set 12 (.op (some 28) .mov [(.k (.int .i64 0))])]) <|
 .block 0 <|
  .loop [1, 3, 4, 11, 12] <|
   .seq (.reg [
    .set 13 (.op (some 29) (.binI .lss) [(.v 12 none), (.v 11 none)])]) <|
   .seq (.cond (.t 13)
    (.skip)
    (.exit 0)) <|
   .seq (.block 1 <|
    .seq (.reg [
     .set 5 (.op (some 5) .mov [(.v 12 (some 30))])]) <|
    .reg [
     .ef (.op none (.store 1) [(.op (some 33) (.iadr 1) [(.v 4 (some 31)), (.v 5 (some 32))]), (.k (.int .i64 (-1)))])]) <|
   .reg [
    .set 12 (.op (some 28) .mov [(.op (some 34) (.binI .add) [(.v 12 none), (.k (.int .i64 1))])])]) <|
 .seq (.reg [
  .set 14 (.op (some 35) .mov [(.v 4 none)]),
  .set 15 (.op (some 36) .mov [(.v 3 none)]),
  .ef (.opr none (.store 1) (.op (some 39) (.iadr 1) [(.v 14 none), (.v 15 none)]) (.op (some 38) .load1 [(.op (some 37) (.fadr 0) [(.v 1 none)])]))]) <|
 .seq (.seq (.reg [
  .set 6 (.op (some 6) .mov [(.v 3 (some 40))])]) <|
 .block 2 <|
  .loop [1, 4, 6] <|
   .seq (.ifr [] (.op (some 42) (.binI .geq) [(.v 6 (some 41)), (.k (.int .i64 0))])
    (.skip)
    (.exit 2)) <|
   .seq (.block 3 <|
    .seq (.reg [
     .set 7 (.op (some 7) .mov [(.op (some 48) (.iadr 4) [(.op (some 46) .load1 [(.op (some 45) (.fadr 1) [(.v 1 none)])]), (.v 6 (some 47))])])]) <|
    .seq (.ifr [] (.or 61 69 (.or 54 60 (.op (some 53) (.binI .eql) [(.op (some 52) .load1 [(.op (some 51) (.iadr 1) [(.v 4 (some 49)), (.v 6 (some 50))])]), (.k (.int .i64 (-1)))]) (.op (some 59) (.binI .gtr) [(.op (some 58) .load1 [(.op (some 57) (.iadr 1) [(.v 4 (some 55)), (.v 6 (some 56))])]), (.k (.int .i64 8))])) (.op (some 68) .notB [(.op (some 67) (.call 213) [(.v 7 (some 62)), (.op (some 66) .load1 [(.op (some 65) (.iadr 1) [(.v 4 (some 63)), (.v 6 (some 64))])])])]))
     (.seq (.reg [
      .set 2 (.op (some 2) .mov [(.k (.bool false))])]) <|
     .ret)
     (.skip)) <|
    .seq (.reg [
     .set 16 (.op (some 73) .load1 [(.op (some 72) (.fadr 3) [(.op (some 71) .nilCheck [(.v 7 (some 70))])])]),
     .set 17 (.op (some 74) .lenL [(.v 16 none)]),
     .set 18 (.op (some 75) .mov [(.k (.int .i64 0))])]) <|
    .block 4 <|
     .loop [1, 4, 6, 7, 16, 17, 18] <|
      .seq (.reg [
       .set 19 (.op (some 76) (.binI .lss) [(.v 18 none), (.v 17 none)])]) <|
      .seq (.cond (.t 19)
       (.skip)
       (.exit 4)) <|
      .seq (.block 5 <|
       .seq (.reg [
        .set 20 (.op (some 77) .mov [(.v 18 none)]),
        .set 21 (.op (some 79) .load1 [(.op (some 78) (.iadr 1) [(.v 16 none), (.v 18 none)])]),
        .set 8 (.op (some 8) .mov [(.v 20 none)]),
        .set 9 (.op (some 9) .mov [(.v 21 none)])]) <|
       .seq (.ifr [] (.or 87 93 (.or 82 86 (.op (some 81) (.binI .lss) [(.v 9 (some 80)), (.k (.int .i64 0))]) (.op (some 85) (.binI .geq) [(.v 9 (some 83)), (.v 6 (some 84))])) (.op (some 92) (.binI .neq) [(.op (some 91) .load1 [(.op (some 90) (.iadr 1) [(.v 4 (some 88)), (.v 9 (some 89))])]), (.k (.int .i64 (-1)))]))
        (.seq (.reg [
         .set 2 (.op (some 2) .mov [(.k (.bool false))])]) <|
        .ret)
        (.skip)) <|
       .dreg [94, 95, 96, 97, 98, 99, 100, 101, 102, 103, 104] [
        ⟨(some 22), .mov, [.t 4], none⟩,
        ⟨(some 23), .mov, [.t 9], none⟩,
        ⟨(some 24), .mov, [.t 4], none⟩,
        ⟨(some 25), .mov, [.t 6], none⟩,
        ⟨(some 26), .iadr 1, [.t 24, .t 25], none⟩,
        ⟨(some 27), .load1, [.t 26], none⟩,
        ⟨(some 28), .mov, [.t 7], none⟩,
        ⟨(some 29), .mov, [.t 8], none⟩,
        ⟨(some 30), .call 214, [.t 28, .t 29], none⟩,
        ⟨(some 31), .binI .add, [.t 27, .t 30], none⟩,
        ⟨(some 32), .iadr 1, [.t 22, .t 23], none⟩,
        ⟨none, .store 1, [.t 32, .t 31], none⟩]
        [.op 0, .op 1, .op 2, .op 3, .op 4, .op 5, .op 6, .op 7, .op 8, .chk 5, .op 9, .op 10, .op 11]) <|
      .reg [
       .set 18 (.op (some 75) .mov [(.op (some 105) (.binI .add) [(.v 18 none), (.k (.int .i64 1))])])]) <|
   .reg [
    .set 6 (.op (some 6) .mov [(.op (some 44) (.binI .sub) [(.v 6 (some 43)), (.k (.int .i64 1))])])]) <|
 .seq (.reg [
  .set 2 (.op (some 2) .mov [(.k (.bool true))])]) <|
 .ret

/- slices.ContainsFunc[[]sleuth/api.Expr,sleuth/api.Expr] -/
def s188_slices_ContainsFunc___api_Expr_api_Expr_ : SFn := .src 9 [0, 1, 4] [.tmp 2] <|
 .seq (.reg [
  .set 2 (.op (some 4) .mov [(.k (.bool false))])]) <|
 .seq (.reg [
  .set 2 (.op (some 4) .mov [(.op (some 8) (.binI .geq) [(.op (some 7) (.call 215) [(.v 0 (some 5)), (.v 1 (some 6))]), (.k (.int .i64 0))])])]) <|
 .ret

/- sleuth/name.Term -/
def s204_name_Term : SFn := .src 5 [0, 2] [.cellN 1 4] <|
 .seq (.reg [
  .set 1 (.op (some 2) (.alloc 0 [(.str []), .nils, (.int .i64 0), .nils]) [])]) <|
 .seq (.reg [
  .ef (.op none (.store 4) [(.v 1 none), (.op (some 4) (.build [(.str []), .nils, (.int .i64 0), .nils] [(0, 1)]) [(.v 0 (some 3))])])]) <|
 .ret

/- (*sleuth/name.Looker).call -/
def s205___name_Looker__call : SFn := .src 22 [0, 1, 2, 6, 7] [.cellN 3 4] <|
 .seq (.reg [
  .set 3 (.op (some 6) (.alloc 0 [(.str []), .nils, (.int .i64 0), .nils]) [])]) <|
 .seq (.reg [
  .set 4 (.op (some 7) .mov [(.op (some 15) .load1 [(.op (some 14) (.fadr 1) [(.op (some 13) (.iadr 2) [(.op (some 11) .load1 [(.op (some 10) (.fadr 0) [(.op (some 9) .nilCheck [(.v 0 (some 8))])])]), (.v 1 (some 12))])])])])]) <|
 .seq (.reg [
  .ef (.op none (.store 4) [(.v 3 none), (.op (some 21) (.build [(.str []), .nils, (.int .i64 0), .nils] [(1, 1), (2, 1), (3, 1)]) [(.v 4 (some 16)), (.op (some 19) (.binI .sub) [(.op (some 18) .lenL [(.v 4 (some 17))]), (.k (.int .i64 1))]), (.v 2 (some 20))])])]) <|
 .ret

/- (*sleuth/name.Thing).kids -/
def s206___name_Thing__kids : SFn := .src 28 [0, 2, 3, 4, 16, 17, 18] [.tmp 1] <|
 .seq (.reg [
  .set 1 (.op (some 2) .mov [(.k .nils)])]) <|
 .seq (.reg [
  .set 2 (.op (some 3) .mov [(.k .nils)])]) <|
 .seq (.seq (.dreg [5, 6, 7, 8, 9, 10, 11, 12, 13, 14, 15] [
  ⟨(some 7), .mov, [.t 0], none⟩,
  ⟨(some 8), .nilCheck, [.t 7], none⟩,
  ⟨(some 9), .fadr 1, [.t 8], none⟩,
  ⟨(some 10), .load1, [.t 9], none⟩,
  ⟨(some 11), .mov, [.t 0], none⟩,
  ⟨(some 12), .nilCheck, [.t 11], none⟩,
  ⟨(some 13), .fadr 2, [.t 12], none⟩,
  ⟨(some 14), .load1, [.t 13], none⟩,
  ⟨(some 15), .iadr 4, [.t 10, .t 14], none⟩,
  ⟨(some 16), .fadr 3, [.t 15], none⟩,
  ⟨(some 17), .load1, [.t 16], none⟩,
  ⟨(some 4), .lenL, [.t 17], none⟩,
  ⟨(some 5), .mov, [.c (.int .i64 0)], none⟩]
  [.op 0, .op 1, .op 2, .op 3, .op 4, .op 5, .op 6, .op 7, .op 8, .op 9, .op 10, .op 11, .op 12]) <|
 .block 0 <|
  .loop [0, 2, 4, 5] <|
   .seq (.reg [
    .set 6 (.op (some 18) (.binI .lss) [(.v 5 none), (.v 4 none)])]) <|
   .seq (.cond (.t 6)
    (.skip)
    (.exit 0)) <|
   .seq (.block 1 <|
    .seq (.reg [
     .set 3 (.op (some 4) .mov [(.v 5 (some 19))])]) <|
    .reg [
     .set 2 (.op (some 3) .mov [(.op (some 25) (.app 0 4 72) [(.v 2 (some 20)), (.op (some 24) (.bslice 0 [(.str []), .nils, (.int .i64 0), .nils] 1 [(0, 4)]) [(.op (some 23) (.call 208) [(.v 0 (some 21)), (.v 3 (some 22)), (.k .nils)])])])])]) <|
   .reg [
    .set 5 (.op (some 17) .mov [(.op (some 26) (.binI .add) [(.v 5 none), (.k (.int .i64 1))])])]) <|
 .seq (.reg [
  .set 1 (.op (some 2) .mov [(.v 2 (some 27))])]) <|
 .ret

/- (*sleuth/name.Looker).prim -/
def s207___name_Looker__prim : SFn := .src 58 [0, 1, 2, 3, 6, 7, 8, 9, 10, 11, 12, 13, 14, 15, 19, 20, 21, 22, 23, 25, 26, 30, 31, 34, 35, 39, 40, 41, 42, 47, 54, 55] [.cellN 6 3, .tmp 7] <|
 .seq (.reg [
  .set 4 (.op (some 6) (.box 0) [(.v 2 none)]),
  .set 5 (.op (some 7) (.box 0) [(.v 3 none)]),
  .set 6 (.op (some 8) (.alloc 0 [(.int .i64 0), (.int .i64 0), .nils]) []),
  .set 7 (.op (some 9) .mov [(.k (.int .i64 0))])]) <|
 .seq (.reg [
  .set 8 (.op (some 10) (.alloc 0 [(.int .i64 0), (.int .i64 0)]) [])]) <|
 .seq (.seq (.reg [
  .set 14 (.op (some 19) (.bslice 0 [(.str []), .nils, (.int .i64 0), .nils, (.str []), .nils, (.int .i64 0), .nils] 2 [(0, 4), (4, 4)]) [(.op (some 17) (.loadN 4) [(.v 4 none)]), (.op (some 18) (.loadN 4) [(.v 5 none)])]),
  .set 15 (.op (some 20) .lenL [(.v 14 none)]),
  .set 16 (.op (some 21) .mov [(.k (.int .i64 0))])]) <|
 .block 0 <|
  .loop [0, 1, 6, 8, 14, 15, 16] <|
   .seq (.reg [
    .set 17 (.op (some 22) (.binI .lss) [(.v 16 none), (.v 15 none)])]) <|
   .seq (.cond (.t 17)
    (.skip)
    (.exit 0)) <|
   .seq (.block 1 <|
    .seq (.reg [
     .set 18 (.op (some 23) .mov [(.v 16 none)]),
     .set 19 (.op (some 25) (.loadN 4) [(.op (some 24) (.iadr 4) [(.v 14 none), (.v 16 none)])]),
     .set 10 (.op (some 12) (.alloc 0 [(.str []), .nils, (.int .i64 0), .nils]) []),
     .set 9 (.op (some 11) .mov [(.v 18 none)]),
     .ef (.op none (.store 4) [(.v 10 none), (.v 19 none)])]) <|
    .seq (.reg [
     .set 20 (.op (some 26) .mov [(.op (some 29) (.call 184) [(.v 0 (some 27)), (.op (some 28) (.loadN 4) [(.v 10 none)])])]),
     .set 21 (.op (some 30) (.ext 0) [(.v 20 none)]),
     .set 22 (.op (some 31) (.ext 1) [(.v 20 none)]),
     .set 11 (.op (some 13) (.alloc 0 [(.int .i64 0), (.int .i64 0), .nils]) []),
     .ef (.op none (.store 3) [(.v 11 none), (.v 21 none)]),
     .set 12 (.op (some 14) .mov [(.v 22 none)])]) <|
    .seq (.ifr [] (.op (some 33) (.binI .neq) [(.v 12 (some 32)), (.k (.int .i64 0))])
     (.seq (.reg [
      .set 23 (.op (some 34) (.build [(.int .i64 0), (.int .i64 0), .nils] []) []),
      .set 24 (.op (some 35) .mov [(.v 12 none)]),
      .ef (.op none (.store 3) [(.v 6 none), (.v 23 none)]),
      .set 7 (.op (some 9) .mov [(.v 24 none)])]) <|
     .ret)
     (.skip)) <|
    .seq (.ifr [] (.op (some 38) (.binI .neq) [(.op (some 37) .load1 [(.op (some 36) (.fadr 0) [(.v 11 none)])]), (.k (.int .i64 1))])
     (.seq (.reg [
      .set 25 (.op (some 39) (.call 209) []),
      .set 26 (.op (some 40) (.ext 0) [(.v 25 none)]),
      .set 27 (.op (some 41) (.ext 1) [(.v 25 none)]),
      .ef (.op none (.store 3) [(.v 6 none), (.v 26 none)]),
      .set 7 (.op (some 9) .mov [(.v 27 none)])]) <|
     .ret)
     (.skip)) <|
    .reg [
     .set 28 (.op (some 42) .mov [(.v 9 none)]),
     .ef (.opr none (.store 1) (.op (some 45) (.iadrA 2 1) [(.v 8 none), (.v 28 none)]) (.op (some 44) .load1 [(.op (some 43) (.fadr 1) [(.v 11 none)])]))]) <|
   .reg [
    .set 16 (.op (some 21) .mov [(.op (some 46) (.binI .add) [(.v 16 none), (.k (.int .i64 1))])])]) <|
 .seq (.reg [
  .set 29 (.op (some 47) .mov [(.op (some 53) (.call 226) [(.v 1 (some 48)), (.op (some 50) .load1 [(.op (some 49) (.iadrA 2 1) [(.v 8 none), (.k (.int .i64 0))])]), (.op (some 52) .load1 [(.op (some 51) (.iadrA 2 1) [(.v 8 none), (.k (.int .i64 1))])])])]),
  .set 30 (.op (some 54) (.ext 0) [(.v 29 none)]),
  .set 31 (.op (some 55) (.ext 1) [(.v 29 none)]),
  .set 13 (.op (some 15) .mov [(.v 30 none)]),
  .ef (.v 31 (some 16))]) <|
 .seq (.reg [
  .ef (.op none (.store 3) [(.v 6 none), (.op (some 57) (.build [(.int .i64 0), (.int .i64 0), .nils] [(0, 1), (1, 1)]) [(.k (.int .i64 1)), (.v 13 (some 56))])]),
  .set 7 (.op (some 9) .mov [(.k (.int .i64 0))])]) <|
 .ret

/- (*sleuth/name.Thing).kid -/
def s208___name_Thing__kid : SFn := .src 33 [0, 1, 2, 6] [.cellN 3 4] <|
 .seq (.reg [
  .set 3 (.op (some 6) (.alloc 0 [(.str []), .nils, (.int .i64 0), .nils]) [])]) <|
 .seq (.dreg [7, 8, 9, 10, 11, 12, 13, 14, 15, 16, 17, 18, 19, 20, 21, 22, 23, 24, 25, 26, 27, 28, 29, 30, 31, 32] [
  ⟨(some 4), .mov, [.t 0], none⟩,
  ⟨(some 5), .nilCheck, [.t 4], none⟩,
  ⟨(some 6), .fadr 1, [.t 5], none⟩,
  ⟨(some 7), .load1, [.t 6], none⟩,
  ⟨(some 8), .mov, [.t 0], none⟩,
  ⟨(some 9), .nilCheck, [.t 8], none⟩,
  ⟨(some 10), .fadr 1, [.t 9], none⟩,
  ⟨(some 11), .load1, [.t 10], none⟩,
  ⟨(some 12), .mov, [.t 0], none⟩,
  ⟨(some 13), .nilCheck, [.t 12], none⟩,
  ⟨(some 14), .fadr 2, [.t 13], none⟩,
  ⟨(some 15), .load1, [.t 14], none⟩,
  ⟨(some 16), .iadr 4, [.t 11, .t 15], none⟩,
  ⟨(some 17), .fadr 3, [.t 16], none⟩,
  ⟨(some 18), .load1, [.t 17], none⟩,
  ⟨(some 19), .mov, [.t 1], none⟩,
  ⟨(some 20), .iadr 1, [.t 18, .t 19], none⟩,
  ⟨(some 21), .load1, [.t 20], none⟩,
  ⟨(some 22), .mov, [.t 0], none⟩,
  ⟨(some 23), .nilCheck, [.t 22], none⟩,
  ⟨(some 24), .fadr 3, [.t 23], none⟩,
  ⟨(some 25), .load1, [.t 24], none⟩,
  ⟨(some 26), .mov, [.t 2], none⟩,
  ⟨(some 27), .bslice 0 [.nils, .nils] 2 [(0, 1), (1, 1)], [.t 25, .t 26], none⟩,
  ⟨(some 28), .call 227, [.t 27], none⟩,
  ⟨(some 29), .build [(.str []), .nils, (.int .i64 0), .nils] [(1, 1), (2, 1), (3, 1)], [.t 7, .t 21, .t 28], none⟩,
  ⟨none, .store 4, [.t 3, .t 29], none⟩]
  [.op 0, .op 1, .op 2, .op 3, .op 4, .op 5, .op 6, .op 7, .op 8, .op 9, .op 10, .op 11, .op 12, .op 13, .op 14, .op 15, .op 16, .op 17, .op 18, .op 19, .op 20, .op 21, .op 22, .op 23, .chk 17, .chk 14, .chk 11, .chk 7, .chk 3, .op 24, .chk 17, .chk 14, .chk 11, .chk 7, .chk 3, .op 25, .op 26]) <|
 .ret

/- sleuth/name.failure -/
def s209_name_failure : SFn := .src 3 [0, 1] [.cellN 0 3, .tmp 1] <|
 .seq (.reg [
  .set 0 (.op (some 0) (.alloc 0 [(.int .i64 0), (.int .i64 0), .nils]) []),
  .set 1 (.op (some 1) .mov [(.k (.int .i64 0))])]) <|
 .seq (.reg [
  .ef (.op none (.store 3) [(.v 0 none), (.op (some 2) (.build [(.int .i64 0), (.int .i64 0), .nils] [(0, 1)]) [(.k (.int .i64 3))])]),
  .set 1 (.op (some 1) .mov [(.k (.int .i64 0))])]) <|
 .ret

/- (*sleuth/name.Looker).term -/
def s210___name_Looker__term : SFn := .src 41 [1, 4, 5, 6, 7, 8, 10, 12, 13, 16, 17, 18, 19, 25, 26, 27, 28, 29] [.cellN 1 3, .tmp 2] <|
 .seq (.reg [
  .set 1 (.op (some 4) (.alloc 0 [(.int .i64 0), (.int .i64 0), .nils]) []),
  .set 2 (.op (some 5) .mov [(.k (.int .i64 0))])]) <|
 .seq (.reg [
  .set 8 (.op (some 13) .mov [(.op (some 15) (.call 11) [(.v 0 (some 14))])]),
  .set 9 (.op (some 16) (.ext 0) [(.v 8 none)]),
  .set 10 (.op (some 17) (.ext 1) [(.v 8 none)]),
  .set 11 (.op (some 18) (.ext 2) [(.v 8 none)]),
  .set 12 (.op (some 19) (.ext 3) [(.v 8 none)]),
  .set 3 (.op (some 6) .mov [(.v 9 none)]),
  .set 4 (.op (some 7) .mov [(.v 10 none)]),
  .set 5 (.op (some 8) .mov [(.v 11 none)]),
  .ef (.v 12 (some 9))]) <|
 .seq (.ifr [] (.op (some 21) (.binI .eql) [(.v 3 (some 20)), (.k (.int .i64 0))])
  (.seq (.reg [
   .ef (.op none (.store 3) [(.v 1 none), (.op (some 22) (.build [(.int .i64 0), (.int .i64 0), .nils] []) [])]),
   .set 2 (.op (some 5) .mov [(.k (.int .i64 902))])]) <|
  .ret)
  (.skip)) <|
 .seq (.reg [
  .set 13 (.op (some 25) (.build [(.int .i64 0), (.int .i64 0), .nils] [(0, 1), (1, 1)]) [(.v 3 (some 23)), (.v 4 (some 24))]),
  .set 6 (.op (some 10) (.alloc 0 [(.int .i64 0), (.int .i64 0), .nils]) []),
  .ef (.op none (.store 3) [(.v 6 none), (.v 13 none)])]) <|
 .seq (.seq (.reg [
  .set 14 (.op (some 26) .mov [(.v 5 none)]),
  .set 15 (.op (some 27) .lenL [(.v 14 none)]),
  .set 16 (.op (some 28) .mov [(.k (.int .i64 0))])]) <|
 .block 0 <|
  .loop [1, 6, 14, 15, 16] <|
   .seq (.reg [
    .set 17 (.op (some 29) (.binI .lss) [(.v 16 none), (.v 15 none)])]) <|
   .seq (.cond (.t 17)
    (.skip)
    (.exit 0)) <|
   .seq (.block 1 <|
    .seq (.reg [
     .set 7 (.op (some 12) .mov [(.op (some 31) .load1 [(.op (some 30) (.iadr 1) [(.v 14 none), (.v 16 none)])])])]) <|
    .dreg [32, 33, 34, 35, 36, 37, 38] [
     ⟨(some 18), .fadr 2, [.t 6], none⟩,
     ⟨(some 19), .load1, [.t 18], none⟩,
     ⟨(some 20), .mov, [.t 7], none⟩,
     ⟨(some 21), .call 204, [.t 20], none⟩,
     ⟨(some 22), .bslice 0 [(.str []), .nils, (.int .i64 0), .nils] 1 [(0, 4)], [.t 21], none⟩,
     ⟨(some 23), .app 0 4 72, [.t 19, .t 22], none⟩,
     ⟨(some 24), .fadr 2, [.t 6], none⟩,
     ⟨none, .store 1, [.t 24, .t 23], none⟩]
     [.op 0, .op 1, .op 2, .op 3, .chk 1, .op 4, .chk 1, .op 5, .op 6, .op 7]) <|
   .reg [
    .set 16 (.op (some 28) .mov [(.op (some 39) (.binI .add) [(.v 16 none), (.k (.int .i64 1))])])]) <|
 .seq (.reg [
  .ef (.op none (.store 3) [(.v 1 none), (.op (some 40) (.loadN 3) [(.v 6 none)])]),
  .set 2 (.op (some 5) .mov [(.k (.int .i64 0))])]) <|
 .ret

/- sleuth/expr.within -/
def s212_expr_within : SFn := .src 12 [0, 1, 4] [.tmp 2] <|
 .seq (.reg [
  .set 2 (.op (some 4) .mov [(.k (.bool false))])]) <|
 .seq (.reg [
  .set 2 (.op (some 4) .mov [(.and 7 11 (.op (some 6) (.binI .geq) [(.v 0 (some 5)), (.k (.int .i64 0))]) (.op (some 10) (.binI .leq) [(.v 0 (some 8)), (.v 1 (some 9))]))])]) <|
 .ret

/- sleuth/expr.part -/
def s213_expr_part : SFn := .src 99 [0, 1, 4, 8] [.tmp 2] <|
 .seq (.reg [
  .set 2 (.op (some 4) .mov [(.k (.bool false))])]) <|
 .seq (.seq (.reg [
  .set 3 (.op (some 8) .load1 [(.op (some 7) (.fadr 0) [(.op (some 6) .nilCheck [(.v 0 (some 5))])])])]) <|
 .block 0 <|
  .ifr [] (.op (some 9) .mov [(.op (some 10) (.binI .eql) [(.v 3 none), (.k (.int .i64 0))])])
   (.seq (.reg [
    .set 2 (.op (some 4) .mov [(.and 16 19 (.op (some 15) (.call 28) [(.op (some 14) .load1 [(.op (some 13) (.fadr 1) [(.op (some 12) .nilCheck [(.v 0 (some 11))])])])]) (.op (some 18) (.call 229) [(.v 0 (some 17)), (.k (.int .i64 0)), (.k (.int .i64 0)), (.k (.int .i64 0))]))])]) <|
   .ret)
   (.ifr [] (.op (some 20) .mov [(.op (some 21) (.binI .eql) [(.v 3 none), (.k (.int .i64 1))])])
    (.seq (.reg [
     .set 2 (.op (some 4) .mov [(.and 29 32 (.op (some 28) (.call 212) [(.op (some 25) .load1 [(.op (some 24) (.fadr 1) [(.op (some 23) .nilCheck [(.v 0 (some 22))])])]), (.op (some 27) (.binI .sub) [(.v 1 (some 26)), (.k (.int .i64 1))])]) (.op (some 31) (.call 229) [(.v 0 (some 30)), (.k (.int .i64 0)), (.k (.int .i64 0)), (.k (.int .i64 0))]))])]) <|
    .ret)
    (.ifr [] (.op (some 33) .mov [(.op (some 34) (.binI .eql) [(.v 3 none), (.k (.int .i64 2))])])
     (.seq (.reg [
      .set 2 (.op (some 4) .mov [(.and 40 43 (.op (some 39) (.call 212) [(.op (some 38) .load1 [(.op (some 37) (.fadr 1) [(.op (some 36) .nilCheck [(.v 0 (some 35))])])]), (.k (.int .i64 7))]) (.op (some 42) (.call 229) [(.v 0 (some 41)), (.k (.int .i64 0)), (.k (.int .i64 0)), (.k (.int .i64 3))]))])]) <|
     .ret)
     (.ifr [] (.op (some 44) .mov [(.op (some 45) (.binI .eql) [(.v 3 none), (.k (.int .i64 3))])])
      (.seq (.reg [
       .set 2 (.op (some 4) .mov [(.and 51 54 (.op (some 50) (.call 212) [(.op (some 49) .load1 [(.op (some 48) (.fadr 1) [(.op (some 47) .nilCheck [(.v 0 (some 46))])])]), (.k (.int .i64 99))]) (.op (some 53) (.call 229) [(.v 0 (some 52)), (.k (.int .i64 0)), (.k (.int .i64 0)), (.k (.int .i64 3))]))])]) <|
      .ret)
      (.ifr [] (.op (some 55) .mov [(.op (some 56) (.binI .eql) [(.v 3 none), (.k (.int .i64 4))])])
       (.seq (.reg [
        .set 2 (.op (some 4) .mov [(.and 62 65 (.op (some 61) (.call 212) [(.op (some 60) .load1 [(.op (some 59) (.fadr 1) [(.op (some 58) .nilCheck [(.v 0 (some 57))])])]), (.k (.int .i64 4))]) (.op (some 64) (.call 229) [(.v 0 (some 63)), (.k (.int .i64 0)), (.k (.int .i64 2)), (.k (.int .i64 2))]))])]) <|
       .ret)
       (.ifr [] (.op (some 66) .mov [(.op (some 67) (.binI .eql) [(.v 3 none), (.k (.int .i64 5))])])
        (.seq (.reg [
         .set 2 (.op (some 4) .mov [(.and 73 76 (.op (some 72) (.call 212) [(.op (some 71) .load1 [(.op (some 70) (.fadr 1) [(.op (some 69) .nilCheck [(.v 0 (some 68))])])]), (.k (.int .i64 99))]) (.op (some 75) (.call 229) [(.v 0 (some 74)), (.k (.int .i64 3)), (.k (.int .i64 3)), (.k (.int .i64 3))]))])]) <|
        .ret)
        (.ifr [] (.op (some 77) .mov [(.op (some 78) (.binI .eql) [(.v 3 none), (.k (.int .i64 6))])])
         (.seq (.reg [
          .set 2 (.op (some 4) .mov [(.and 84 87 (.op (some 83) (.binI .eql) [(.op (some 82) .load1 [(.op (some 81) (.fadr 1) [(.op (some 80) .nilCheck [(.v 0 (some 79))])])]), (.k (.int .i64 0))]) (.op (some 86) (.call 229) [(.v 0 (some 85)), (.k (.int .i64 0)), (.k (.int .i64 2)), (.k (.int .i64 2))]))])]) <|
         .ret)
         (.ifr [] (.op (some 88) .mov [(.op (some 89) (.binI .eql) [(.v 3 none), (.k (.int .i64 7))])])
          (.seq (.reg [
           .set 2 (.op (some 4) .mov [(.and 95 98 (.op (some 94) (.binI .eql) [(.op (some 93) .load1 [(.op (some 92) (.fadr 1) [(.op (some 91) .nilCheck [(.v 0 (some 90))])])]), (.k (.int .i64 0))]) (.op (some 97) (.call 229) [(.v 0 (some 96)), (.k (.int .i64 0)), (.k (.int .i64 0)), (.k (.int .i64 0))]))])]) <|
          .ret)
          (.skip))))))))) <|
 .seq (.reg [
  .set 2 (.op (some 4) .mov [(.k (.bool false))])]) <|
 .ret

/- sleuth/expr.more -/
def s214_expr_more : SFn := .src 24 [0, 1, 4] [.tmp 2] <|
 .seq (.reg [
  .set 2 (.op (some 4) .mov [(.k (.int .i64 0))])]) <|
 .seq (.block 0 <|
  .ifr [] (.op (some 5) .mov [(.op (some 7) (.binI .neq) [(.v 1 (some 6)), (.k (.int .i64 1))])])
   (.seq (.reg [
    .set 2 (.op (some 4) .mov [(.k (.int .i64 0))])]) <|
   .ret)
   (.ifr [] (.op (some 8) .mov [(.op (some 13) (.binI .eql) [(.op (some 12) .load1 [(.op (some 11) (.fadr 0) [(.op (some 10) .nilCheck [(.v 0 (some 9))])])]), (.k (.int .i64 5))])])
    (.seq (.reg [
     .set 2 (.op (some 4) .mov [(.op (some 17) .load1 [(.op (some 16) (.fadr 2) [(.op (some 15) .nilCheck [(.v 0 (some 14))])])])])]) <|
    .ret)
    (.ifr [] (.op (some 18) .mov [(.op (some 23) (.binI .eql) [(.op (some 22) .load1 [(.op (some 21) (.fadr 0) [(.op (some 20) .nilCheck [(.v 0 (some 19))])])]), (.k (.int .i64 6))])])
     (.seq (.reg [
      .set 2 (.op (some 4) .mov [(.k (.int .i64 1))])]) <|
     .ret)
     (.skip)))) <|
 .seq (.reg [
  .set 2 (.op (some 4) .mov [(.k (.int .i64 0))])]) <|
 .ret

/- slices.IndexFunc[[]sleuth/api.Expr,sleuth/api.Expr] -/
def s215_slices_IndexFunc___api_Expr_api_Expr_ : SFn := .src 19 [0, 1, 4, 5, 7, 8, 9] [.tmp 2] <|
 .seq (.reg [
  .set 2 (.op (some 4) .mov [(.k (.int .i64 0))])]) <|
 .seq (.seq (.reg [
  .set 4 (.op (some 7) .lenL [(.v 0 (some 6))]),
  .set 5 (.op (some 8) .mov [(.k (.int .i64 0))])]) <|
 .block 0 <|
  .loop [0, 1, 4, 5] <|
   .seq (.reg [
    .set 6 (.op (some 9) (.binI .lss) [(.v 5 none), (.v 4 none)])]) <|
   .seq (.cond (.t 6)
    (.skip)
    (.exit 0)) <|
   .seq (.block 1 <|
    .seq (.reg [
     .set 3 (.op (some 5) .mov [(.v 5 (some 10))])]) <|
    .ifr [] (.op (some 16) .callv [(.v 1 (some 11)), (.op (some 15) (.loadN 4) [(.op (some 14) (.iadr 4) [(.v 0 (some 12)), (.v 3 (some 13))])])])
     (.seq (.reg [
      .set 2 (.op (some 4) .mov [(.v 3 (some 17))])]) <|
     .ret)
     (.skip)) <|
   .reg [
    .set 5 (.op (some 8) .mov [(.op (some 18) (.binI .add) [(.v 5 none), (.k (.int .i64 1))])])]) <|
 .seq (.reg [
  .set 2 (.op (some 4) .mov [(.k (.int .i64 (-1)))])]) <|
 .ret

/- sleuth/prim.Do -/
def s226_prim_Do : SFn := .src 48 [0, 1, 2, 6, 7, 8, 17] [.tmp 3, .tmp 4] <|
 .seq (.reg [
  .set 3 (.op (some 6) .mov [(.k (.int .i64 0))]),
  .set 4 (.op (some 7) .mov [(.k (.int .i64 0))])]) <|
 .seq (.ifr [] (.or 12 16 (.op (some 11) .notB [(.op (some 10) (.call 28) [(.v 1 (some 9))])]) (.op (some 15) .notB [(.op (some 14) (.call 28) [(.v 2 (some 13))])]))
  (.seq (.reg [
   .set 3 (.op (some 6) .mov [(.k (.int .i64 0))]),
   .set 4 (.op (some 7) .mov [(.k (.int .i64 100))])]) <|
  .ret)
  (.skip)) <|
 .seq (.reg [
  .set 5 (.op (some 8) .mov [(.k (.int .i64 0))])]) <|
 .seq (.seq (.reg [
  .set 6 (.op (some 17) .mov [(.v 0 none)])]) <|
 .block 0 <|
  .ifr [] (.op (some 18) .mov [(.op (some 19) (.binI .eql) [(.v 6 none), (.k (.int .i64 0))])])
   (.reg [
    .set 5 (.op (some 8) .mov [(.op (some 22) (.binI .add) [(.v 1 (some 20)), (.v 2 (some 21))])])])
   (.ifr [] (.op (some 23) .mov [(.op (some 24) (.binI .eql) [(.v 6 none), (.k (.int .i64 1))])])
    (.reg [
     .set 5 (.op (some 8) .mov [(.op (some 27) (.binI .sub) [(.v 1 (some 25)), (.v 2 (some 26))])])])
    (.ifr [] (.op (some 28) .mov [(.op (some 29) (.binI .eql) [(.v 6 none), (.k (.int .i64 2))])])
     (.reg [
      .set 5 (.op (some 8) .mov [(.op (some 32) (.binI .mul) [(.v 1 (some 30)), (.v 2 (some 31))])])])
     (.ifr [] (.op (some 33) .mov [(.op (some 34) (.binI .eql) [(.v 6 none), (.k (.int .i64 3))])])
      (.reg [
       .set 5 (.op (some 8) .mov [(.op (some 38) (.call 230) [(.op (some 37) (.binI .eql) [(.v 1 (some 35)), (.v 2 (some 36))])])])])
      (.ifr [] (.op (some 39) .mov [(.op (some 40) (.binI .eql) [(.v 6 none), (.k (.int .i64 4))])])
       (.reg [
        .set 5 (.op (some 8) .mov [(.op (some 44) (.call 230) [(.op (some 43) (.binI .lss) [(.v 1 (some 41)), (.v 2 (some 42))])])])])
       (.seq (.reg [
        .set 3 (.op (some 6) .mov [(.k (.int .i64 0))]),
        .set 4 (.op (some 7) .mov [(.k (.int .i64 100))])]) <|
       .ret)))))) <|
 .seq (.reg [
  .set 3 (.op (some 6) .mov [(.op (some 47) (.conv .i64) [(.op (some 46) (.conv .i16) [(.v 5 (some 45))])])]),
  .set 4 (.op (some 7) .mov [(.k (.int .i64 0))])]) <|
 .ret

/- slices.Concat[[]sleuth/name.Thing,sleuth/name.Thing] -/
def s227_slices_Concat___name_Thing_name_Thing_ : SFn := .src 36 [0, 2, 3, 5, 6, 8, 9, 10, 11, 12, 25, 26, 27, 28] [.tmp 1] <|
 .seq (.reg [
  .set 1 (.op (some 2) .mov [(.k .nils)])]) <|
 .seq (.reg [
  .set 2 (.op (some 3) .mov [(.k (.int .i64 0))])]) <|
 .seq (.seq (.reg [
  .set 6 (.op (some 9) .mov [(.v 0 none)]),
  .set 7 (.op (some 10) .lenL [(.v 6 none)]),
  .set 8 (.op (some 11) .mov [(.k (.int .i64 0))])]) <|
 .block 0 <|
  .loop [0, 2, 6, 7, 8] <|
   .seq (.reg [
    .set 9 (.op (some 12) (.binI .lss) [(.v 8 none), (.v 7 none)])]) <|
   .seq (.cond (.t 9)
    (.skip)
    (.exit 0)) <|
   .seq (.block 1 <|
    .seq (.reg [
     .set 3 (.op (some 5) .mov [(.op (some 14) .load1 [(.op (some 13) (.iadr 1) [(.v 6 none), (.v 8 none)])])])]) <|
    .seq (.reg [
     .set 2 (.op (some 3) .mov [(.op (some 18) (.binI .add) [(.v 2 (some 15)), (.op (some 17) .lenL [(.v 3 (some 16))])])])]) <|
    .ifr [] (.op (some 20) (.binI .lss) [(.v 2 (some 19)), (.k (.int .i64 0))])
     (.reg [
      .ef (.op (some 21) .mkifc [(.k (.str [108, 101, 110, 32, 111, 117, 116, 32, 111, 102, 32, 114, 97, 110, 103, 101]))]),
      .ef (.op none .bad [])])
     (.skip)) <|
   .reg [
    .set 8 (.op (some 11) .mov [(.op (some 22) (.binI .add) [(.v 8 none), (.k (.int .i64 1))])])]) <|
 .seq (.reg [
  .set 4 (.op (some 6) .mov [(.op (some 24) (.call 231) [(.k .nils), (.v 2 (some 23))])])]) <|
 .seq (.seq (.reg [
  .set 10 (.op (some 25) .mov [(.v 0 none)]),
  .set 11 (.op (some 26) .lenL [(.v 10 none)]),
  .set 12 (.op (some 27) .mov [(.k (.int .i64 0))])]) <|
 .block 2 <|
  .loop [4, 10, 11, 12] <|
   .seq (.reg [
    .set 13 (.op (some 28) (.binI .lss) [(.v 12 none), (.v 11 none)])]) <|
   .seq (.cond (.t 13)
    (.skip)
    (.exit 2)) <|
   .seq (.block 3 <|
    .seq (.reg [
     .set 5 (.op (some 8) .mov [(.op (some 30) .load1 [(.op (some 29) (.iadr 1) [(.v 10 none), (.v 12 none)])])])]) <|
    .reg [
     .set 4 (.op (some 6) .mov [(.op (some 33) (.app 0 4 72) [(.v 4 (some 31)), (.v 5 (some 32))])])]) <|
   .reg [
    .set 12 (.op (some 27) .mov [(.op (some 34) (.binI .add) [(.v 12 none), (.k (.int .i64 1))])])]) <|
 .seq (.reg [
  .set 1 (.op (some 2) .mov [(.v 4 (some 35))])]) <|
 .ret

/- sleuth/expr.plain -/
def s229_expr_plain : SFn := .src 40 [0, 1, 2, 3, 8] [.tmp 4] <|
 .seq (.reg [
  .set 4 (.op (some 8) .mov [(.k (.bool false))])]) <|
 .seq (.reg [
  .set 4 (.op (some 8) .mov [(.and 31 39 (.and 22 30 (.and 14 21 (.op (some 13) (.binI .geq) [(.op (some 12) .load1 [(.op (some 11) (.fadr 2) [(.op (some 10) .nilCheck [(.v 0 (some 9))])])]), (.k (.int .i64 0))]) (.op (some 20) (.binI .leq) [(.op (some 18) .load1 [(.op (some 17) (.fadr 2) [(.op (some 16) .nilCheck [(.v 0 (some 15))])])]), (.v 1 (some 19))])) (.op (some 29) (.binI .geq) [(.op (some 27) .lenL [(.op (some 26) .load1 [(.op (some 25) (.fadr 3) [(.op (some 24) .nilCheck [(.v 0 (some 23))])])])]), (.v 2 (some 28))])) (.op (some 38) (.binI .leq) [(.op (some 36) .lenL [(.op (some 35) .load1 [(.op (some 34) (.fadr 3) [(.op (some 33) .nilCheck [(.v 0 (some 32))])])])]), (.v 3 (some 37))]))])]) <|
 .ret

/- sleuth/prim.truth -/
def s230_prim_truth : SFn := .src 4 [0, 2] [.tmp 1] <|
 .seq (.reg [
  .set 1 (.op (some 2) .mov [(.k (.int .i64 0))])]) <|
 .seq (.ifr [] (.v 0 (some 3))
  (.seq (.reg [
   .set 1 (.op (some 2) .mov [(.k (.int .i64 1))])]) <|
  .ret)
  (.skip)) <|
 .seq (.reg [
  .set 1 (.op (some 2) .mov [(.k (.int .i64 0))])]) <|
 .ret

/- slices.Grow[[]sleuth/name.Thing,sleuth/name.Thing] -/
def s231_slices_Grow___name_Thing_name_Thing_ : SFn := .src 27 [0, 1, 4] [.tmp 2] <|
 .seq (.reg [
  .set 2 (.op (some 4) .mov [(.k .nils)])]) <|
 .seq (.ifr [] (.op (some 6) (.binI .lss) [(.v 1 (some 5)), (.k (.int .i64 0))])
  (.reg [
   .ef (.op (some 7) .mkifc [(.k (.str [99, 97, 110, 110, 111, 116, 32, 98, 101, 32, 110, 101, 103, 97, 116, 105, 118, 101]))]),
   .ef (.op none .bad [])])
  (.skip)) <|
 .seq (.seq (.reg [
  .set 1 (.op (some 1) .mov [(.op (some 14) (.binI .sub) [(.v 1 (some 8)), (.op (some 13) (.binI .sub) [(.op (some 10) .capL [(.v 0 (some 9))]), (.op (some 12) .lenL [(.v 0 (some 11))])])])])]) <|
 .ifr [] (.op (some 16) (.binI .gtr) [(.v 1 (some 15)), (.k (.int .i64 0))])
  (.reg [
   .set 0 (.op (some 0) .mov [(.op (some 25) (.slL 4 false true false) [(.op (some 22) (.appz 0 4 72 [(.str []), .nils, (.int .i64 0), .nils]) [(.op (some 20) (.slL 4 false true false) [(.v 0 (some 17)), (.op (some 19) .capL [(.v 0 (some 18))])]), (.v 1 (some 21))]), (.op (some 24) .lenL [(.v 0 (some 23))])])])])
  (.skip)) <|
 .seq (.reg [
  .set 2 (.op (some 4) .mov [(.v 0 (some 26))])]) <|
 .ret

end Am.T
