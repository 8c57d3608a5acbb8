/- Functions of the program, as the abstract machine has them. -/
import Derived.Test.YteamgokmnjajdaaDoorAmSrc2
namespace Am.T
open Go
/- sleuth/sleuthref1.Cut -/
def s12_sleuthref1_Cut : SFn := .src 23 [0, 2, 3, 4, 5, 6, 11] [.tmp 1, .tmp 2, .tmp 3, .tmp 4] <|
 .seq (.reg [
  .set 1 (.op (some 2) .mov [(.k (.int .i64 0))]),
  .set 2 (.op (some 3) .mov [(.k (.int .i64 0))]),
  .set 3 (.op (some 4) .mov [(.k .nils)]),
  .set 4 (.op (some 5) .mov [(.k (.int .i64 0))])]) <|
 .seq (.ifr [] (.op (some 9) (.binI .gtr) [(.op (some 8) .lenS [(.v 0 (some 7))]), (.k (.int .i64 1024))])
  (.seq (.reg [
   .set 1 (.op (some 2) .mov [(.k (.int .i64 0))]),
   .set 2 (.op (some 3) .mov [(.k (.int .i64 0))]),
   .set 3 (.op (some 4) .mov [(.k .nils)]),
   .set 4 (.op (some 5) .mov [(.k (.int .i64 200))])]) <|
  .ret)
  (.skip)) <|
 .seq (.reg [
  .set 6 (.op (some 11) (.call 25) [(.v 0 (some 10)), (.k (.int .i64 0))]),
  .set 5 (.op (some 6) (.alloc 0 [(.int .i64 0), (.int .i64 0), .nils, (.int .i64 0)]) []),
  .ef (.op none (.store 4) [(.v 5 none), (.v 6 none)])]) <|
 .seq (.ifr [] (.op (some 16) (.binI .neq) [(.op (some 13) .load1 [(.op (some 12) (.fadr 3) [(.v 5 none)])]), (.op (some 15) .lenS [(.v 0 (some 14))])])
  (.seq (.reg [
   .set 1 (.op (some 2) .mov [(.k (.int .i64 0))]),
   .set 2 (.op (some 3) .mov [(.k (.int .i64 0))]),
   .set 3 (.op (some 4) .mov [(.k .nils)]),
   .set 4 (.op (some 5) .mov [(.k (.int .i64 200))])]) <|
  .ret)
  (.skip)) <|
 .seq (.dreg [17, 18, 19, 20, 21, 22] [
  ⟨(some 7), .fadr 0, [.t 5], none⟩,
  ⟨(some 8), .load1, [.t 7], none⟩,
  ⟨(some 9), .fadr 1, [.t 5], none⟩,
  ⟨(some 10), .load1, [.t 9], none⟩,
  ⟨(some 11), .fadr 2, [.t 5], none⟩,
  ⟨(some 12), .load1, [.t 11], none⟩,
  ⟨(some 1), .mov, [.t 8], none⟩,
  ⟨(some 2), .mov, [.t 10], none⟩,
  ⟨(some 3), .mov, [.t 12], none⟩,
  ⟨(some 4), .mov, [.c (.int .i64 0)], none⟩]
  [.op 0, .op 1, .op 2, .op 3, .op 4, .op 5, .op 6, .op 7, .op 8, .op 9]) <|
 .ret

/- sleuth/sleuthlaw0.SameTexts -/
def s15_sleuthlaw0_SameTexts : SFn := .src 26 [0, 1, 4, 5, 25] [.tmp 2] <|
 .seq (.reg [
  .set 2 (.op (some 4) .mov [(.k (.bool false))])]) <|
 .seq (.ifr [] (.op (some 10) (.binI .neq) [(.op (some 7) .lenL [(.v 0 (some 6))]), (.op (some 9) .lenL [(.v 1 (some 8))])])
  (.seq (.reg [
   .set 2 (.op (some 4) .mov [(.k (.bool false))])]) <|
  .ret)
  (.skip)) <|
 .seq (.seq (.reg [
  .set 3 (.op (some 5) .mov [(.k (.int .i64 0))])]) <|
 .block 0 <|
  .loop [0, 1, 3] <|
   .seq (.ifr [] (.op (some 14) (.binI .lss) [(.v 3 (some 11)), (.op (some 13) .lenL [(.v 0 (some 12))])])
    (.skip)
    (.exit 0)) <|
   .seq (.block 1 <|
    .seq (.dreg [17, 18, 19, 20, 21, 22, 23, 24] [
     ⟨(some 5), .mov, [.t 0], none⟩,
     ⟨(some 6), .mov, [.t 3], none⟩,
     ⟨(some 7), .iadr 1, [.t 5, .t 6], none⟩,
     ⟨(some 8), .load1, [.t 7], none⟩,
     ⟨(some 9), .mov, [.t 1], none⟩,
     ⟨(some 10), .mov, [.t 3], none⟩,
     ⟨(some 11), .iadr 1, [.t 9, .t 10], none⟩,
     ⟨(some 12), .load1, [.t 11], none⟩,
     ⟨(some 4), .binS .neq, [.t 8, .t 12], none⟩]
     [.op 0, .op 1, .op 2, .op 3, .op 4, .op 5, .op 6, .op 7, .op 8]) <|
    .cond (.t 4)
     (.seq (.reg [
      .set 2 (.op (some 4) .mov [(.k (.bool false))])]) <|
     .ret)
     (.skip)) <|
   .reg [
    .set 3 (.op (some 5) .mov [(.op (some 16) (.binI .add) [(.v 3 (some 15)), (.k (.int .i64 1))])])]) <|
 .seq (.reg [
  .set 2 (.op (some 4) .mov [(.k (.bool true))])]) <|
 .ret

/- sleuth/sleuthlaw0.Num -/
def s16_sleuthlaw0_Num : SFn := .src 4 [0, 2] [.tmp 1] <|
 .seq (.reg [
  .set 1 (.op (some 2) .mov [(.k (.int .i64 0))])]) <|
 .seq (.reg [
  .set 1 (.op (some 2) .mov [(.v 0 (some 3))])]) <|
 .ret

/- sleuth/sleuthref0.Decimal -/
def s22_sleuthref0_Decimal : SFn := .src 37 [0, 2, 3, 4] [.tmp 1] <|
 .seq (.reg [
  .set 1 (.op (some 2) .mov [(.k (.str []))])]) <|
 .seq (.reg [
  .set 2 (.op (some 3) .mov [(.op (some 6) (.conv .u64) [(.v 0 (some 5))])])]) <|
 .seq (.ifr [] (.op (some 8) (.binI .lss) [(.v 0 (some 7)), (.k (.int .i64 0))])
  (.reg [
   .set 2 (.op (some 3) .mov [(.op (some 13) (.binI .add) [(.op (some 12) (.conv .u64) [(.op (some 11) .negI [(.op (some 10) (.binI .add) [(.v 0 (some 9)), (.k (.int .i64 1))])])]), (.k (.int .u64 1))])])])
  (.skip)) <|
 .seq (.reg [
  .set 3 (.op (some 4) .mov [(.k .nils)])]) <|
 .seq (.block 0 <|
  .loop [0, 2, 3] <|
   .seq (.ifr [] (.or 16 20 (.op (some 15) (.binI .gtr) [(.v 2 (some 14)), (.k (.int .u64 0))]) (.op (some 19) (.binI .eql) [(.op (some 18) .lenL [(.v 3 (some 17))]), (.k (.int .i64 0))]))
    (.skip)
    (.exit 0)) <|
   .block 1 <|
    .seq (.reg [
     .set 3 (.op (some 4) .mov [(.op (some 27) (.app 0 1 1) [(.op (some 25) (.bslice 0 [(.int .u8 0)] 1 [(0, 1)]) [(.op (some 24) (.conv .u8) [(.op (some 23) (.binI .add) [(.k (.int .u64 48)), (.op (some 22) (.binI .rem) [(.v 2 (some 21)), (.k (.int .u64 10))])])])]), (.v 3 (some 26))])])]) <|
    .reg [
     .set 2 (.op (some 3) .mov [(.op (some 29) (.binI .quo) [(.v 2 (some 28)), (.k (.int .u64 10))])])]) <|
 .seq (.ifr [] (.op (some 31) (.binI .lss) [(.v 0 (some 30)), (.k (.int .i64 0))])
  (.reg [
   .set 3 (.op (some 4) .mov [(.op (some 34) (.app 0 1 1) [(.op (some 32) (.bslice 0 [(.int .u8 0)] 1 [(0, 1)]) [(.k (.int .u8 45))]), (.v 3 (some 33))])])])
  (.skip)) <|
 .seq (.reg [
  .set 1 (.op (some 2) .mov [(.op (some 36) .b2s [(.v 3 (some 35))])])]) <|
 .ret

/- sleuth/sleuthref1.term -/
def s25_sleuthref1_term : SFn := .src 122 [0, 1, 4, 5, 6, 7, 8, 9, 10, 11, 19, 32, 38, 39, 52, 74, 80, 81, 102, 107, 108] [.cellN 2 4] <|
 .seq (.reg [
  .set 2 (.op (some 4) (.alloc 0 [(.int .i64 0), (.int .i64 0), .nils, (.int .i64 0)]) [])]) <|
 .seq (.ifr [] (.op (some 15) (.binI .geq) [(.v 1 (some 12)), (.op (some 14) .lenS [(.v 0 (some 13))])])
  (.seq (.reg [
   .ef (.op none (.store 4) [(.v 2 none), (.op (some 16) (.call 38) [])])]) <|
  .ret)
  (.skip)) <|
 .seq (.seq (.reg [
  .set 10 (.op (some 19) .idxS [(.v 0 (some 17)), (.v 1 (some 18))])]) <|
 .block 0 <|
  .ifr [] (.op (some 20) .mov [(.op (some 21) (.binI .eql) [(.v 10 none), (.k (.int .u8 95))])])
   (.seq (.reg [
    .ef (.op none (.store 4) [(.v 2 none), (.op (some 24) (.build [(.int .i64 0), (.int .i64 0), .nils, (.int .i64 0)] [(0, 1), (3, 1)]) [(.k (.int .i64 0)), (.op (some 23) (.binI .add) [(.v 1 (some 22)), (.k (.int .i64 1))])])])]) <|
   .ret)
   (.ifr [] (.op (some 25) .mov [(.op (some 26) (.binI .eql) [(.v 10 none), (.k (.int .u8 33))])])
    (.seq (.reg [
     .ef (.op none (.store 4) [(.v 2 none), (.op (some 29) (.build [(.int .i64 0), (.int .i64 0), .nils, (.int .i64 0)] [(0, 1), (3, 1)]) [(.k (.int .i64 3)), (.op (some 28) (.binI .add) [(.v 1 (some 27)), (.k (.int .i64 1))])])])]) <|
    .ret)
    (.ifr [] (.op (some 30) .mov [(.op (some 31) (.binI .eql) [(.v 10 none), (.k (.int .u8 64))])])
     (.seq (.reg [
      .set 11 (.op (some 32) .mov [(.op (some 37) (.call 39) [(.op (some 36) (.slS true false) [(.v 0 (some 33)), (.op (some 35) (.binI .add) [(.v 1 (some 34)), (.k (.int .i64 1))])])])]),
      .set 12 (.op (some 38) (.ext 0) [(.v 11 none)]),
      .set 13 (.op (some 39) (.ext 1) [(.v 11 none)]),
      .set 3 (.op (some 5) .mov [(.v 12 none)]),
      .set 4 (.op (some 6) .mov [(.v 13 none)])]) <|
     .seq (.ifr [] (.or 42 45 (.op (some 41) (.binI .eql) [(.v 4 (some 40)), (.k (.int .i64 0))]) (.op (some 44) (.binI .gtr) [(.v 3 (some 43)), (.k (.int .i64 99))]))
      (.seq (.reg [
       .ef (.op none (.store 4) [(.v 2 none), (.op (some 46) (.call 38) [])])]) <|
      .ret)
      (.skip)) <|
     .seq (.reg [
      .set 14 (.op (some 52) (.build [(.int .i64 0), (.int .i64 0), .nils, (.int .i64 0)] [(0, 1), (1, 1), (3, 1)]) [(.k (.int .i64 2)), (.v 3 (some 47)), (.op (some 51) (.binI .add) [(.op (some 49) (.binI .add) [(.v 1 (some 48)), (.k (.int .i64 1))]), (.v 4 (some 50))])]),
      .set 5 (.op (some 7) (.alloc 0 [(.int .i64 0), (.int .i64 0), .nils, (.int .i64 0)]) []),
      .ef (.op none (.store 4) [(.v 5 none), (.v 14 none)])]) <|
     .seq (.ifr [] (.and 58 64 (.op (some 57) (.binI .lss) [(.op (some 54) .load1 [(.op (some 53) (.fadr 3) [(.v 5 none)])]), (.op (some 56) .lenS [(.v 0 (some 55))])]) (.op (some 63) (.binI .eql) [(.op (some 62) .idxS [(.v 0 (some 59)), (.op (some 61) .load1 [(.op (some 60) (.fadr 3) [(.v 5 none)])])]), (.k (.int .u8 40))]))
      (.seq (.reg [
       .ef (.op none (.store 4) [(.v 2 none), (.op (some 70) (.call 40) [(.v 0 (some 65)), (.op (some 66) (.loadN 4) [(.v 5 none)]), (.op (some 69) (.binI .add) [(.op (some 68) .load1 [(.op (some 67) (.fadr 3) [(.v 5 none)])]), (.k (.int .i64 1))])])])]) <|
      .ret)
      (.skip)) <|
     .seq (.reg [
      .ef (.op none (.store 4) [(.v 2 none), (.op (some 71) (.loadN 4) [(.v 5 none)])])]) <|
     .ret)
     (.ifr [] (.op (some 72) .mov [(.op (some 73) (.binI .eql) [(.v 10 none), (.k (.int .u8 45))])])
      (.seq (.reg [
       .set 15 (.op (some 74) .mov [(.op (some 79) (.call 39) [(.op (some 78) (.slS true false) [(.v 0 (some 75)), (.op (some 77) (.binI .add) [(.v 1 (some 76)), (.k (.int .i64 1))])])])]),
       .set 16 (.op (some 80) (.ext 0) [(.v 15 none)]),
       .set 17 (.op (some 81) (.ext 1) [(.v 15 none)]),
       .set 6 (.op (some 8) .mov [(.v 16 none)]),
       .set 7 (.op (some 9) .mov [(.v 17 none)])]) <|
      .seq (.ifr [] (.or 88 93 (.or 84 87 (.op (some 83) (.binI .eql) [(.v 7 (some 82)), (.k (.int .i64 0))]) (.op (some 86) (.binI .eql) [(.v 6 (some 85)), (.k (.int .i64 0))])) (.op (some 92) .notB [(.op (some 91) (.call 41) [(.op (some 90) .negI [(.v 6 (some 89))])])]))
       (.seq (.reg [
        .ef (.op none (.store 4) [(.v 2 none), (.op (some 94) (.call 38) [])])]) <|
       .ret)
       (.skip)) <|
      .seq (.reg [
       .ef (.op none (.store 4) [(.v 2 none), (.op (some 101) (.build [(.int .i64 0), (.int .i64 0), .nils, (.int .i64 0)] [(0, 1), (1, 1), (3, 1)]) [(.k (.int .i64 1)), (.op (some 96) .negI [(.v 6 (some 95))]), (.op (some 100) (.binI .add) [(.op (some 98) (.binI .add) [(.v 1 (some 97)), (.k (.int .i64 1))]), (.v 7 (some 99))])])])]) <|
      .ret)
      (.skip))))) <|
 .seq (.reg [
  .set 18 (.op (some 102) .mov [(.op (some 106) (.call 39) [(.op (some 105) (.slS true false) [(.v 0 (some 103)), (.v 1 (some 104))])])]),
  .set 19 (.op (some 107) (.ext 0) [(.v 18 none)]),
  .set 20 (.op (some 108) (.ext 1) [(.v 18 none)]),
  .set 8 (.op (some 10) .mov [(.v 19 none)]),
  .set 9 (.op (some 11) .mov [(.v 20 none)])]) <|
 .seq (.ifr [] (.or 111 115 (.op (some 110) (.binI .eql) [(.v 9 (some 109)), (.k (.int .i64 0))]) (.op (some 114) .notB [(.op (some 113) (.call 41) [(.v 8 (some 112))])]))
  (.seq (.reg [
   .ef (.op none (.store 4) [(.v 2 none), (.op (some 116) (.call 38) [])])]) <|
  .ret)
  (.skip)) <|
 .seq (.reg [
  .ef (.op none (.store 4) [(.v 2 none), (.op (some 121) (.build [(.int .i64 0), (.int .i64 0), .nils, (.int .i64 0)] [(0, 1), (1, 1), (3, 1)]) [(.k (.int .i64 1)), (.v 8 (some 117)), (.op (some 120) (.binI .add) [(.v 1 (some 118)), (.v 9 (some 119))])])])]) <|
 .ret

/- sleuth/term.Con -/
def s27_term_Con : SFn := .src 19 [0, 1, 4, 5] [.tmp 2] <|
 .seq (.reg [
  .set 2 (.op (some 4) .mov [(.k (.str []))])]) <|
 .seq (.reg [
  .set 3 (.op (some 5) .mov [(.op (some 8) (.binS .add) [(.k (.str [64])), (.op (some 7) (.call 29) [(.v 0 (some 6))])])])]) <|
 .seq (.ifr [] (.op (some 11) (.binI .gtr) [(.op (some 10) .lenL [(.v 1 (some 9))]), (.k (.int .i64 0))])
  (.reg [
   .set 3 (.op (some 5) .mov [(.op (some 17) (.binS .add) [(.v 3 (some 12)), (.op (some 16) (.binS .add) [(.op (some 15) (.binS .add) [(.k (.str [40])), (.op (some 14) (.call 42) [(.v 1 (some 13)), (.k (.str [32]))])]), (.k (.str [41]))])])])])
  (.skip)) <|
 .seq (.reg [
  .set 2 (.op (some 4) .mov [(.v 3 (some 18))])]) <|
 .ret

/- sleuth/prim.May -/
def s28_prim_May : SFn := .src 9 [0, 2] [.tmp 1] <|
 .seq (.reg [
  .set 1 (.op (some 2) .mov [(.k (.bool false))])]) <|
 .seq (.reg [
  .set 1 (.op (some 2) .mov [(.and 5 8 (.op (some 4) (.binI .geq) [(.v 0 (some 3)), (.k (.int .i64 (-32768)))]) (.op (some 7) (.binI .leq) [(.v 0 (some 6)), (.k (.int .i64 32767))]))])]) <|
 .ret

/- sleuth/sleuthref1.upTo -/
def s30_sleuthref1_upTo : SFn := .src 15 [0, 1, 2, 6] [.tmp 3] <|
 .seq (.reg [
  .set 3 (.op (some 6) .mov [(.k (.bool false))])]) <|
 .seq (.reg [
  .set 3 (.op (some 6) .mov [(.and 10 14 (.op (some 9) (.binI .geq) [(.v 0 (some 7)), (.v 1 (some 8))]) (.op (some 13) (.binI .leq) [(.v 0 (some 11)), (.v 2 (some 12))]))])]) <|
 .ret

/- sleuth/sleuthref1.bad -/
def s38_sleuthref1_bad : SFn := .src 2 [0] [.cellN 0 4] <|
 .seq (.reg [
  .set 0 (.op (some 0) (.alloc 0 [(.int .i64 0), (.int .i64 0), .nils, (.int .i64 0)]) [])]) <|
 .seq (.reg [
  .ef (.op none (.store 4) [(.v 0 none), (.op (some 1) (.build [(.int .i64 0), (.int .i64 0), .nils, (.int .i64 0)] [(3, 1)]) [(.k (.int .i64 (-1)))])])]) <|
 .ret

/- sleuth/sleuthref1.digits -/
def s39_sleuthref1_digits : SFn := .src 47 [0, 2, 3, 4, 5, 45, 46] [.tmp 1, .tmp 2] <|
 .seq (.reg [
  .set 1 (.op (some 2) .mov [(.k (.int .i64 0))]),
  .set 2 (.op (some 3) .mov [(.k (.int .i64 0))])]) <|
 .seq (.reg [
  .set 3 (.op (some 4) .mov [(.k (.int .i64 0))]),
  .set 4 (.op (some 5) .mov [(.k (.int .i64 0))])]) <|
 .seq (.block 0 <|
  .loop [0, 3, 4] <|
   .seq (.ifr [] (.and 26 34 (.and 20 25 (.and 14 19 (.and 10 13 (.op (some 9) (.binI .lss) [(.v 4 (some 6)), (.op (some 8) .lenS [(.v 0 (some 7))])]) (.op (some 12) (.binI .lss) [(.v 4 (some 11)), (.k (.int .i64 6))])) (.op (some 18) (.binI .geq) [(.op (some 17) .idxS [(.v 0 (some 15)), (.v 4 (some 16))]), (.k (.int .u8 48))])) (.op (some 24) (.binI .leq) [(.op (some 23) .idxS [(.v 0 (some 21)), (.v 4 (some 22))]), (.k (.int .u8 57))])) (.or 29 33 (.op (some 28) (.binI .eql) [(.v 4 (some 27)), (.k (.int .i64 0))]) (.op (some 32) (.binI .neq) [(.op (some 31) .idxS [(.v 0 (some 30)), (.k (.int .i64 0))]), (.k (.int .u8 48))])))
    (.skip)
    (.exit 0)) <|
   .block 1 <|
    .seq (.reg [
     .set 3 (.op (some 4) .mov [(.op (some 42) (.binI .add) [(.op (some 36) (.binI .mul) [(.k (.int .i64 10)), (.v 3 (some 35))]), (.op (some 41) (.conv .i64) [(.op (some 40) (.binI .sub) [(.op (some 39) .idxS [(.v 0 (some 37)), (.v 4 (some 38))]), (.k (.int .u8 48))])])])])]) <|
    .reg [
     .set 4 (.op (some 5) .mov [(.op (some 44) (.binI .add) [(.v 4 (some 43)), (.k (.int .i64 1))])])]) <|
 .seq (.reg [
  .set 5 (.op (some 45) .mov [(.v 3 none)]),
  .set 6 (.op (some 46) .mov [(.v 4 none)]),
  .set 1 (.op (some 2) .mov [(.v 5 none)]),
  .set 2 (.op (some 3) .mov [(.v 6 none)])]) <|
 .ret

/- sleuth/sleuthref1.parts -/
def s40_sleuthref1_parts : SFn := .src 56 [0, 1, 2, 4, 6, 7, 14] [.cellN 4 4] <|
 .seq (.reg [
  .set 3 (.op (some 4) (.box 0) [(.v 1 none)]),
  .set 4 (.op (some 6) (.alloc 0 [(.int .i64 0), (.int .i64 0), .nils, (.int .i64 0)]) [])]) <|
 .seq (.block 0 <|
  .loop [0, 2, 3, 4] <|
   .seq (.ifr [] (.op (some 11) (.binI .lss) [(.op (some 10) .lenL [(.op (some 9) .load1 [(.op (some 8) (.fadr 2) [(.v 3 none)])])]), (.k (.int .i64 3))])
    (.skip)
    (.exit 0)) <|
   .block 1 <|
    .seq (.reg [
     .set 6 (.op (some 14) (.call 25) [(.v 0 (some 12)), (.v 2 (some 13))]),
     .set 5 (.op (some 7) (.alloc 0 [(.int .i64 0), (.int .i64 0), .nils, (.int .i64 0)]) []),
     .ef (.op none (.store 4) [(.v 5 none), (.v 6 none)])]) <|
    .seq (.ifr [] (.or 18 24 (.op (some 17) (.binI .lss) [(.op (some 16) .load1 [(.op (some 15) (.fadr 3) [(.v 5 none)])]), (.k (.int .i64 0))]) (.op (some 23) (.binI .geq) [(.op (some 20) .load1 [(.op (some 19) (.fadr 3) [(.v 5 none)])]), (.op (some 22) .lenS [(.v 0 (some 21))])]))
     (.seq (.reg [
      .ef (.op none (.store 4) [(.v 4 none), (.op (some 25) (.call 38) [])])]) <|
     .ret)
     (.skip)) <|
    .seq (.dreg [26, 27, 28, 29, 30, 31, 32, 33, 34, 35] [
     ⟨(some 7), .fadr 2, [.t 3], none⟩,
     ⟨(some 8), .load1, [.t 7], none⟩,
     ⟨(some 9), .mov, [.t 0], none⟩,
     ⟨(some 10), .mov, [.t 2], none⟩,
     ⟨(some 11), .fadr 3, [.t 5], none⟩,
     ⟨(some 12), .load1, [.t 11], none⟩,
     ⟨(some 13), .slS true true, [.t 9, .t 10, .t 12], none⟩,
     ⟨(some 14), .bslice 0 [(.str [])] 1 [(0, 1)], [.t 13], none⟩,
     ⟨(some 15), .app 0 1 16, [.t 8, .t 14], none⟩,
     ⟨(some 16), .fadr 2, [.t 3], none⟩,
     ⟨none, .store 1, [.t 16, .t 15], none⟩]
     [.op 0, .op 1, .op 2, .op 3, .op 4, .op 5, .op 6, .op 7, .chk 1, .op 8, .op 9, .op 10]) <|
    .seq (.ifr [] (.op (some 40) (.binI .eql) [(.op (some 39) .idxS [(.v 0 (some 36)), (.op (some 38) .load1 [(.op (some 37) (.fadr 3) [(.v 5 none)])])]), (.k (.int .u8 41))])
     (.seq (.reg [
      .ef (.opr none (.store 1) (.op (some 44) (.fadr 3) [(.v 3 none)]) (.op (some 43) (.binI .add) [(.op (some 42) .load1 [(.op (some 41) (.fadr 3) [(.v 5 none)])]), (.k (.int .i64 1))]))]) <|
     .seq (.reg [
      .ef (.op none (.store 4) [(.v 4 none), (.op (some 45) (.loadN 4) [(.v 3 none)])])]) <|
     .ret)
     (.skip)) <|
    .seq (.ifr [] (.op (some 50) (.binI .neq) [(.op (some 49) .idxS [(.v 0 (some 46)), (.op (some 48) .load1 [(.op (some 47) (.fadr 3) [(.v 5 none)])])]), (.k (.int .u8 32))])
     (.seq (.reg [
      .ef (.op none (.store 4) [(.v 4 none), (.op (some 51) (.call 38) [])])]) <|
     .ret)
     (.skip)) <|
    .reg [
     .set 2 (.op (some 2) .mov [(.op (some 54) (.binI .add) [(.op (some 53) .load1 [(.op (some 52) (.fadr 3) [(.v 5 none)])]), (.k (.int .i64 1))])])]) <|
 .seq (.reg [
  .ef (.op none (.store 4) [(.v 4 none), (.op (some 55) (.call 38) [])])]) <|
 .ret

/- sleuth/sleuthref1.NumMay -/
def s41_sleuthref1_NumMay : SFn := .src 5 [0, 2] [.tmp 1] <|
 .seq (.reg [
  .set 1 (.op (some 2) .mov [(.k (.bool false))])]) <|
 .seq (.reg [
  .set 1 (.op (some 2) .mov [(.op (some 4) (.call 30) [(.v 0 (some 3)), (.k (.int .i64 (-32768))), (.k (.int .i64 32767))])])]) <|
 .ret

/- sleuth/sleuthlaw11.NeedForms -/
def s121_sleuthlaw11_NeedForms : SFn := .src 47 [0, 1, 4, 5, 6, 7, 8, 9, 15, 17, 33, 37, 38] [.tmp 2] <|
 .seq (.reg [
  .set 2 (.op (some 4) .mov [(.k (.bool false))])]) <|
 .seq (.ifr [] (.op (some 11) .notB [(.op (some 10) (.call 141) [])])
  (.seq (.reg [
   .set 2 (.op (some 4) .mov [(.k (.bool false))])]) <|
  .ret)
  (.skip)) <|
 .seq (.reg [
  .set 3 (.op (some 5) .mov [(.op (some 14) (.binI .add) [(.k (.int .i64 1)), (.op (some 13) (.binI .and) [(.v 1 (some 12)), (.k (.int .i64 1023))])])])]) <|
 .seq (.reg [
  .set 8 (.op (some 15) (.call 143) []),
  .set 4 (.op (some 6) (.alloc 0 [.nils]) []),
  .ef (.op none (.store 1) [(.v 4 none), (.v 8 none)])]) <|
 .seq (.reg [
  .set 5 (.op (some 7) .mov [(.k (.int .i64 50))])]) <|
 .seq (.seq (.reg [
  .set 9 (.op (some 17) (.binI .and) [(.v 0 (some 16)), (.k (.int .i64 3))])]) <|
 .block 0 <|
  .ifr [] (.op (some 20) .mov [(.op (some 21) (.binI .eql) [(.v 9 none), (.k (.int .i64 0))])])
   (.reg [
    .ef (.op none (.store 1) [(.op (some 25) (.fadr 0) [(.op (some 24) (.iadr 2) [(.op (some 23) .load1 [(.op (some 22) (.fadr 0) [(.v 4 none)])]), (.k (.int .i64 0))])]), (.k (.int .i64 1))])])
   (.ifr [] (.op (some 26) .mov [(.op (some 27) (.binI .eql) [(.v 9 none), (.k (.int .i64 1))])])
    (.reg [
     .ef (.op none (.store 1) [(.op (some 28) (.fadr 0) [(.v 4 none)]), (.k .nils)])])
    (.ifr [] (.op (some 29) .mov [(.op (some 30) (.binI .eql) [(.v 9 none), (.k (.int .i64 2))])])
     (.reg [
      .set 5 (.op (some 7) .mov [(.op (some 32) .negI [(.v 3 (some 31))])])])
     (.reg [
      .set 5 (.op (some 7) .mov [(.op (some 19) (.binI .add) [(.k (.int .i64 400)), (.v 3 (some 18))])])])))) <|
 .seq (.reg [
  .set 10 (.op (some 33) .mov [(.op (some 36) (.call 136) [(.op (some 34) (.loadN 1) [(.v 4 none)]), (.v 5 (some 35))])]),
  .set 11 (.op (some 37) (.ext 0) [(.v 10 none)]),
  .set 12 (.op (some 38) (.ext 1) [(.v 10 none)]),
  .set 6 (.op (some 8) .mov [(.v 11 none)]),
  .set 7 (.op (some 9) .mov [(.v 12 none)])]) <|
 .seq (.reg [
  .set 2 (.op (some 4) .mov [(.and 42 46 (.op (some 41) (.binI .eql) [(.op (some 40) .lenL [(.v 6 (some 39))]), (.k (.int .i64 0))]) (.op (some 45) (.binI .eql) [(.op (some 44) (.call 16) [(.v 7 (some 43))]), (.k (.int .i64 1100))]))])]) <|
 .ret

/- sleuth/sleuthlaw11.NeedTable -/
def s122_sleuthlaw11_NeedTable : SFn := .src 86 [0, 2, 3, 4, 5, 6, 7, 8, 11, 14, 66, 70, 71] [.tmp 1] <|
 .seq (.reg [
  .set 1 (.op (some 2) .mov [(.k (.bool false))])]) <|
 .seq (.ifr [] (.op (some 10) .notB [(.op (some 9) (.call 141) [])])
  (.seq (.reg [
   .set 1 (.op (some 2) .mov [(.k (.bool false))])]) <|
  .ret)
  (.skip)) <|
 .seq (.reg [
  .set 8 (.op (some 11) (.build [(.int .i64 0), (.int .i64 0), .nils, (.str [])] [(1, 1)]) [(.k (.int .i64 (-1)))]),
  .set 2 (.op (some 3) (.alloc 0 [(.int .i64 0), (.int .i64 0), .nils, (.str [])]) []),
  .ef (.op none (.store 4) [(.v 2 none), (.v 8 none)])]) <|
 .seq (.reg [
  .set 3 (.op (some 4) .mov [(.k .nils)])]) <|
 .seq (.reg [
  .set 4 (.op (some 5) .mov [(.k (.str []))])]) <|
 .seq (.seq (.reg [
  .set 9 (.op (some 14) (.binI .rem) [(.op (some 13) (.conv .u64) [(.v 0 (some 12))]), (.k (.int .u64 8))])]) <|
 .block 0 <|
  .ifr [] (.op (some 21) .mov [(.op (some 22) (.binI .eql) [(.v 9 none), (.k (.int .u64 0))])])
   (.seq (.reg [
    .set 4 (.op (some 5) .mov [(.k (.str [40, 102, 51, 32, 101, 114, 114, 111, 114, 32, 54, 41]))])]) <|
   .seq (.reg [
    .ef (.op none (.store 1) [(.op (some 23) (.fadr 3) [(.v 2 none)]), (.k (.str [54]))])]) <|
   .reg [
    .set 3 (.op (some 4) .mov [(.op (some 26) (.bslice 0 [(.int .i64 0), (.int .i64 0), .nils, (.str [])] 1 [(0, 4)]) [(.op (some 25) (.build [(.int .i64 0), (.int .i64 0), .nils, (.str [])] [(0, 1), (2, 1), (3, 1)]) [(.k (.int .i64 3)), (.op (some 24) (.bslice 0 [(.str []), (.str [])] 2 [(0, 1), (1, 1)]) [(.k (.str [95])), (.k (.str [54]))]), (.k (.str [54]))])])])])
   (.ifr [] (.op (some 27) .mov [(.op (some 28) (.binI .eql) [(.v 9 none), (.k (.int .u64 1))])])
    (.seq (.reg [
     .set 4 (.op (some 5) .mov [(.k (.str [40, 108, 101, 116, 32, 40, 102, 49, 32, 49, 32, 50, 41, 32, 40, 43, 32, 36, 48, 32, 36, 48, 41, 41]))])]) <|
    .seq (.reg [
     .ef (.op none (.store 1) [(.op (some 29) (.fadr 3) [(.v 2 none)]), (.k (.str [54]))])]) <|
    .reg [
     .set 3 (.op (some 4) .mov [(.op (some 32) (.bslice 0 [(.int .i64 0), (.int .i64 0), .nils, (.str [])] 1 [(0, 4)]) [(.op (some 31) (.build [(.int .i64 0), (.int .i64 0), .nils, (.str [])] [(0, 1), (2, 1), (3, 1)]) [(.k (.int .i64 1)), (.op (some 30) (.bslice 0 [(.str []), (.str [])] 2 [(0, 1), (1, 1)]) [(.k (.str [49])), (.k (.str [50]))]), (.k (.str [51]))])])])])
    (.ifr [] (.op (some 33) .mov [(.op (some 34) (.binI .eql) [(.v 9 none), (.k (.int .u64 2))])])
     (.seq (.reg [
      .set 4 (.op (some 5) .mov [(.k (.str [40, 102, 49, 32, 40, 102, 49, 32, 49, 32, 50, 41, 32, 52, 41]))])]) <|
     .seq (.reg [
      .ef (.op none (.store 1) [(.op (some 35) (.fadr 3) [(.v 2 none)]), (.k (.str [55]))])]) <|
     .reg [
      .set 3 (.op (some 4) .mov [(.op (some 40) (.bslice 0 [(.int .i64 0), (.int .i64 0), .nils, (.str []), (.int .i64 0), (.int .i64 0), .nils, (.str [])] 2 [(0, 4), (4, 4)]) [(.op (some 37) (.build [(.int .i64 0), (.int .i64 0), .nils, (.str [])] [(0, 1), (2, 1), (3, 1)]) [(.k (.int .i64 1)), (.op (some 36) (.bslice 0 [(.str []), (.str [])] 2 [(0, 1), (1, 1)]) [(.k (.str [51])), (.k (.str [52]))]), (.k (.str [55]))]), (.op (some 39) (.build [(.int .i64 0), (.int .i64 0), .nils, (.str [])] [(0, 1), (2, 1), (3, 1)]) [(.k (.int .i64 1)), (.op (some 38) (.bslice 0 [(.str []), (.str [])] 2 [(0, 1), (1, 1)]) [(.k (.str [49])), (.k (.str [50]))]), (.k (.str [51]))])])])])
     (.ifr [] (.op (some 41) .mov [(.op (some 42) (.binI .eql) [(.v 9 none), (.k (.int .u64 3))])])
      (.seq (.reg [
       .set 4 (.op (some 5) .mov [(.k (.str [40, 64, 49, 32, 40, 43, 32, 49, 32, 101, 114, 114, 111, 114, 41, 32, 40, 102, 49, 32, 49, 32, 50, 41, 41]))])]) <|
      .reg [
       .ef (.op none (.store 1) [(.op (some 43) (.fadr 3) [(.v 2 none)]), (.k (.str [64, 49, 40, 33, 32, 95, 41]))])])
      (.ifr [] (.op (some 44) .mov [(.op (some 45) (.binI .eql) [(.v 9 none), (.k (.int .u64 4))])])
       (.seq (.reg [
        .set 4 (.op (some 5) .mov [(.k (.str [40, 102, 52, 32, 40, 102, 49, 32, 49, 32, 50, 41, 41]))])]) <|
       .seq (.reg [
        .ef (.op none (.store 1) [(.op (some 46) (.fadr 3) [(.v 2 none)]), (.k (.str [64, 49, 40, 51, 32, 51, 41]))])]) <|
       .reg [
        .set 3 (.op (some 4) .mov [(.op (some 51) (.bslice 0 [(.int .i64 0), (.int .i64 0), .nils, (.str []), (.int .i64 0), (.int .i64 0), .nils, (.str [])] 2 [(0, 4), (4, 4)]) [(.op (some 48) (.build [(.int .i64 0), (.int .i64 0), .nils, (.str [])] [(0, 1), (2, 1), (3, 1)]) [(.k (.int .i64 4)), (.op (some 47) (.bslice 0 [(.str [])] 1 [(0, 1)]) [(.k (.str [51]))]), (.k (.str [64, 49, 40, 51, 32, 51, 41]))]), (.op (some 50) (.build [(.int .i64 0), (.int .i64 0), .nils, (.str [])] [(0, 1), (2, 1), (3, 1)]) [(.k (.int .i64 1)), (.op (some 49) (.bslice 0 [(.str []), (.str [])] 2 [(0, 1), (1, 1)]) [(.k (.str [49])), (.k (.str [50]))]), (.k (.str [51]))])])])])
       (.ifr [] (.op (some 52) .mov [(.op (some 53) (.binI .eql) [(.v 9 none), (.k (.int .u64 5))])])
        (.seq (.reg [
         .set 4 (.op (some 5) .mov [(.k (.str [40, 102, 49, 32, 40, 64, 55, 32, 40, 102, 49, 32, 49, 32, 49, 41, 32, 51, 41, 32, 101, 114, 114, 111, 114, 41]))])]) <|
        .seq (.reg [
         .ef (.op none (.store 1) [(.op (some 54) (.fadr 3) [(.v 2 none)]), (.k (.str [33]))])]) <|
        .reg [
         .set 3 (.op (some 4) .mov [(.op (some 57) (.bslice 0 [(.int .i64 0), (.int .i64 0), .nils, (.str [])] 1 [(0, 4)]) [(.op (some 56) (.build [(.int .i64 0), (.int .i64 0), .nils, (.str [])] [(0, 1), (2, 1), (3, 1)]) [(.k (.int .i64 1)), (.op (some 55) (.bslice 0 [(.str []), (.str [])] 2 [(0, 1), (1, 1)]) [(.k (.str [64, 55, 40, 95, 32, 51, 41])), (.k (.str [33]))]), (.k (.str [33]))])])])])
        (.ifr [] (.op (some 58) .mov [(.op (some 59) (.binI .eql) [(.v 9 none), (.k (.int .u64 6))])])
         (.seq (.reg [
          .set 4 (.op (some 5) .mov [(.k (.str [40, 108, 101, 116, 32, 40, 102, 51, 32, 49, 32, 50, 41, 32, 53, 41]))])]) <|
         .reg [
          .ef (.op none (.store 1) [(.op (some 60) (.fadr 3) [(.v 2 none)]), (.k (.str [53]))])])
         (.seq (.reg [
          .set 4 (.op (some 5) .mov [(.k (.str [40, 99, 97, 115, 101, 32, 40, 102, 52, 32, 101, 114, 114, 111, 114, 41, 32, 64, 49, 32, 50, 32, 40, 102, 51, 32, 36, 48, 32, 57, 41, 32, 49, 41]))])]) <|
         .seq (.reg [
          .ef (.op none (.store 1) [(.op (some 15) (.fadr 3) [(.v 2 none)]), (.k (.str [57]))])]) <|
         .reg [
          .set 3 (.op (some 4) .mov [(.op (some 20) (.bslice 0 [(.int .i64 0), (.int .i64 0), .nils, (.str []), (.int .i64 0), (.int .i64 0), .nils, (.str [])] 2 [(0, 4), (4, 4)]) [(.op (some 17) (.build [(.int .i64 0), (.int .i64 0), .nils, (.str [])] [(0, 1), (2, 1), (3, 1)]) [(.k (.int .i64 4)), (.op (some 16) (.bslice 0 [(.str [])] 1 [(0, 1)]) [(.k (.str [95]))]), (.k (.str [64, 49, 40, 95, 32, 95, 41]))]), (.op (some 19) (.build [(.int .i64 0), (.int .i64 0), .nils, (.str [])] [(0, 1), (2, 1), (3, 1)]) [(.k (.int .i64 3)), (.op (some 18) (.bslice 0 [(.str []), (.str [])] 2 [(0, 1), (1, 1)]) [(.k (.str [95])), (.k (.str [57]))]), (.k (.str [57]))])])])])))))))) <|
 .seq (.reg [
  .set 5 (.op (some 6) .mov [(.op (some 62) (.bslice 0 [(.int .i64 0), (.int .i64 0), .nils, (.str [])] 1 [(0, 4)]) [(.op (some 61) (.loadN 4) [(.v 2 none)])])])]) <|
 .seq (.reg [
  .set 5 (.op (some 6) .mov [(.op (some 65) (.app 0 4 56) [(.v 5 (some 63)), (.v 3 (some 64))])])]) <|
 .seq (.reg [
  .set 10 (.op (some 66) .mov [(.op (some 69) (.call 136) [(.op (some 68) (.call 144) [(.v 4 (some 67))]), (.k (.int .i64 80))])]),
  .set 11 (.op (some 70) (.ext 0) [(.v 10 none)]),
  .set 12 (.op (some 71) (.ext 1) [(.v 10 none)]),
  .set 6 (.op (some 7) .mov [(.v 11 none)]),
  .set 7 (.op (some 8) .mov [(.v 12 none)])]) <|
 .seq (.reg [
  .set 1 (.op (some 2) .mov [(.and 80 85 (.and 75 79 (.op (some 74) (.binI .eql) [(.op (some 73) (.call 16) [(.v 7 (some 72))]), (.k (.int .i64 0))]) (.op (some 78) (.call 138) [(.v 6 (some 76)), (.v 5 (some 77))])) (.op (some 84) (.binI .eql) [(.op (some 83) .lenL [(.op (some 82) (.fld1 0) [(.op (some 81) (.call 143) [])])]), (.k (.int .i64 2))]))])]) <|
 .ret

/- sleuth/sleuthlaw11.NeedOnce -/
def s127_sleuthlaw11_NeedOnce : SFn := .src 86 [0, 1, 2, 6, 7, 8, 9, 10, 11, 12, 13, 14, 15, 16, 17, 23, 25, 45, 46, 49, 50, 51, 58, 59] [.tmp 3] <|
 .seq (.reg [
  .set 3 (.op (some 6) .mov [(.k (.bool false))])]) <|
 .seq (.ifr [] (.op (some 19) .notB [(.op (some 18) (.call 141) [])])
  (.seq (.reg [
   .set 3 (.op (some 6) .mov [(.k (.bool false))])]) <|
  .ret)
  (.skip)) <|
 .seq (.reg [
  .set 4 (.op (some 7) .mov [(.op (some 21) (.binI .and) [(.v 0 (some 20)), (.k (.int .i64 3))])])]) <|
 .seq (.reg [
  .set 15 (.op (some 23) (.binI .and) [(.v 1 (some 22)), (.k (.int .i64 1023))]),
  .set 16 (.op (some 25) (.binI .and) [(.v 2 (some 24)), (.k (.int .i64 1023))]),
  .set 5 (.op (some 8) .mov [(.v 15 none)]),
  .set 6 (.op (some 9) .mov [(.v 16 none)])]) <|
 .seq (.reg [
  .set 7 (.op (some 10) .mov [(.k (.str [36, 48]))])]) <|
 .seq (.seq (.reg [
  .set 8 (.op (some 11) .mov [(.k (.int .i64 0))])]) <|
 .block 0 <|
  .loop [4, 5, 6, 7, 8] <|
   .seq (.ifr [] (.op (some 28) (.binI .lss) [(.v 8 (some 26)), (.v 4 (some 27))])
    (.skip)
    (.exit 0)) <|
   .seq (.block 1 <|
    .reg [
     .set 7 (.op (some 10) .mov [(.op (some 33) (.binS .add) [(.op (some 32) (.binS .add) [(.k (.str [40, 43, 32])), (.v 7 (some 31))]), (.k (.str [32, 36, 48, 41]))])])]) <|
   .reg [
    .set 8 (.op (some 11) .mov [(.op (some 30) (.binI .add) [(.v 8 (some 29)), (.k (.int .i64 1))])])]) <|
 .seq (.reg [
  .set 17 (.op (some 45) (.call 144) [(.op (some 44) (.binS .add) [(.op (some 43) (.binS .add) [(.op (some 41) (.binS .add) [(.op (some 40) (.binS .add) [(.op (some 37) (.binS .add) [(.op (some 36) (.binS .add) [(.k (.str [40, 108, 101, 116, 32, 40, 102, 49, 32])), (.op (some 35) (.call 22) [(.v 5 (some 34))])]), (.k (.str [32]))]), (.op (some 39) (.call 22) [(.v 6 (some 38))])]), (.k (.str [41, 32]))]), (.v 7 (some 42))]), (.k (.str [41]))])]),
  .set 9 (.op (some 12) (.alloc 0 [.nils]) []),
  .ef (.op none (.store 1) [(.v 9 none), (.v 17 none)])]) <|
 .seq (.reg [
  .set 18 (.op (some 46) .mov [(.op (some 48) (.call 136) [(.op (some 47) (.loadN 1) [(.v 9 none)]), (.k (.int .i64 80))])]),
  .set 19 (.op (some 49) (.ext 0) [(.v 18 none)]),
  .set 20 (.op (some 50) (.ext 1) [(.v 18 none)]),
  .set 10 (.op (some 13) .mov [(.v 19 none)]),
  .set 11 (.op (some 14) .mov [(.v 20 none)])]) <|
 .seq (.reg [
  .set 21 (.op (some 51) .mov [(.op (some 57) (.call 147) [(.k (.int .i64 2)), (.op (some 54) (.binI .add) [(.v 5 (some 52)), (.v 6 (some 53))]), (.op (some 56) (.binI .add) [(.v 4 (some 55)), (.k (.int .i64 1))])])]),
  .set 22 (.op (some 58) (.ext 0) [(.v 21 none)]),
  .set 23 (.op (some 59) (.ext 1) [(.v 21 none)]),
  .set 12 (.op (some 15) .mov [(.v 22 none)]),
  .set 13 (.op (some 16) .mov [(.v 23 none)])]) <|
 .seq (.reg [
  .set 14 (.op (some 17) .mov [(.op (some 73) (.bslice 0 [(.int .i64 0), (.int .i64 0), .nils, (.str []), (.int .i64 0), (.int .i64 0), .nils, (.str [])] 2 [(0, 4), (4, 4)]) [(.op (some 62) (.build [(.int .i64 0), (.int .i64 0), .nils, (.str [])] [(1, 1), (3, 1)]) [(.k (.int .i64 (-1))), (.op (some 61) (.call 22) [(.v 12 (some 60))])]), (.op (some 72) (.build [(.int .i64 0), (.int .i64 0), .nils, (.str [])] [(0, 1), (2, 1), (3, 1)]) [(.k (.int .i64 1)), (.op (some 67) (.bslice 0 [(.str []), (.str [])] 2 [(0, 1), (1, 1)]) [(.op (some 64) (.call 22) [(.v 5 (some 63))]), (.op (some 66) (.call 22) [(.v 6 (some 65))])]), (.op (some 71) (.call 22) [(.op (some 70) (.binI .add) [(.v 5 (some 68)), (.v 6 (some 69))])])])])])]) <|
 .seq (.reg [
  .set 3 (.op (some 6) .mov [(.and 81 85 (.and 77 80 (.op (some 76) (.binI .eql) [(.op (some 75) (.call 16) [(.v 11 (some 74))]), (.k (.int .i64 0))]) (.op (some 79) (.binI .eql) [(.v 13 (some 78)), (.k (.int .i64 0))])) (.op (some 84) (.call 138) [(.v 10 (some 82)), (.v 14 (some 83))]))])]) <|
 .ret

/- sleuth/sleuthlaw11.NeedLists -/
def s128_sleuthlaw11_NeedLists : SFn := .src 81 [0, 2, 3, 4, 5, 6, 7, 8, 9, 10, 11, 38, 43, 44, 45, 48, 49] [.tmp 1] <|
 .seq (.reg [
  .set 1 (.op (some 2) .mov [(.k (.bool false))])]) <|
 .seq (.ifr [] (.op (some 13) .notB [(.op (some 12) (.call 141) [])])
  (.seq (.reg [
   .set 1 (.op (some 2) .mov [(.k (.bool false))])]) <|
  .ret)
  (.skip)) <|
 .seq (.reg [
  .set 2 (.op (some 3) .mov [(.op (some 15) (.binI .and) [(.v 0 (some 14)), (.k (.int .i64 7))])])]) <|
 .seq (.reg [
  .set 3 (.op (some 4) .mov [(.k (.str [64, 48]))])]) <|
 .seq (.reg [
  .set 4 (.op (some 5) .mov [(.k (.str [64, 48]))])]) <|
 .seq (.seq (.reg [
  .set 5 (.op (some 6) .mov [(.v 2 (some 16))])]) <|
 .block 0 <|
  .loop [2, 3, 4, 5] <|
   .seq (.ifr [] (.op (some 18) (.binI .gtr) [(.v 5 (some 17)), (.k (.int .i64 0))])
    (.skip)
    (.exit 0)) <|
   .seq (.block 1 <|
    .seq (.reg [
     .set 3 (.op (some 4) .mov [(.op (some 27) (.binS .add) [(.op (some 26) (.binS .add) [(.op (some 24) (.binS .add) [(.op (some 23) (.binS .add) [(.k (.str [40, 64, 50, 32])), (.op (some 22) (.call 22) [(.v 5 (some 21))])]), (.k (.str [32]))]), (.v 3 (some 25))]), (.k (.str [41]))])])]) <|
    .seq (.reg [
     .set 6 (.op (some 7) .mov [(.op (some 31) (.binS .add) [(.k (.str [40])), (.op (some 30) (.call 22) [(.op (some 29) (.binI .mul) [(.k (.int .i64 2)), (.v 5 (some 28))])])])])]) <|
    .reg [
     .set 4 (.op (some 5) .mov [(.op (some 37) (.binS .add) [(.op (some 36) (.binS .add) [(.op (some 34) (.binS .add) [(.op (some 33) (.binS .add) [(.k (.str [64, 50])), (.v 6 (some 32))]), (.k (.str [32]))]), (.v 4 (some 35))]), (.k (.str [41]))])])]) <|
   .reg [
    .set 5 (.op (some 6) .mov [(.op (some 20) (.binI .sub) [(.v 5 (some 19)), (.k (.int .i64 1))])])]) <|
 .seq (.reg [
  .set 11 (.op (some 38) .mov [(.op (some 42) (.call 148) [(.op (some 41) (.binS .add) [(.op (some 40) (.binS .add) [(.k (.str [40, 100, 101, 102, 32, 48, 32, 40, 102, 49, 32])), (.v 3 (some 39))]), (.k (.str [41, 41, 40, 100, 101, 102, 32, 49, 32, 40, 99, 97, 115, 101, 32, 36, 48, 32, 64, 50, 32, 50, 32, 40, 64, 50, 32, 40, 43, 32, 36, 49, 32, 36, 49, 41, 32, 40, 102, 49, 32, 36, 50, 41, 41, 32, 64, 48, 41, 41]))])])]),
  .set 12 (.op (some 43) (.ext 0) [(.v 11 none)]),
  .set 13 (.op (some 44) (.ext 1) [(.v 11 none)]),
  .set 7 (.op (some 8) (.alloc 0 [.nils]) []),
  .ef (.op none (.store 1) [(.v 7 none), (.v 12 none)]),
  .set 8 (.op (some 9) .mov [(.v 13 none)])]) <|
 .seq (.reg [
  .set 14 (.op (some 45) .mov [(.op (some 47) (.call 136) [(.op (some 46) (.loadN 1) [(.v 7 none)]), (.k (.int .i64 400))])]),
  .set 15 (.op (some 48) (.ext 0) [(.v 14 none)]),
  .set 16 (.op (some 49) (.ext 1) [(.v 14 none)]),
  .set 9 (.op (some 10) .mov [(.v 15 none)]),
  .set 10 (.op (some 11) .mov [(.v 16 none)])]) <|
 .seq (.reg [
  .set 1 (.op (some 2) .mov [(.and 72 80 (.and 64 71 (.and 57 63 (.and 52 56 (.op (some 51) (.binI .eql) [(.v 8 (some 50)), (.k (.int .i64 0))]) (.op (some 55) (.binI .eql) [(.op (some 54) (.call 16) [(.v 10 (some 53))]), (.k (.int .i64 0))])) (.op (some 62) (.binI .eql) [(.op (some 59) .lenL [(.v 9 (some 58))]), (.op (some 61) (.binI .add) [(.v 2 (some 60)), (.k (.int .i64 2))])])) (.op (some 70) (.binS .eql) [(.op (some 68) .load1 [(.op (some 67) (.fadr 3) [(.op (some 66) (.iadr 4) [(.v 9 (some 65)), (.k (.int .i64 0))])])]), (.v 4 (some 69))])) (.op (some 79) (.binS .eql) [(.op (some 78) .load1 [(.op (some 77) (.fadr 3) [(.op (some 76) (.iadr 4) [(.v 9 (some 73)), (.op (some 75) (.binI .add) [(.v 2 (some 74)), (.k (.int .i64 1))])])])]), (.k (.str [64, 48]))]))])]) <|
 .ret

/- sleuth/need.Run -/
def s136_need_Run : SFn := .src 83 [0, 1, 2, 4, 5, 6, 7, 9, 51, 52, 53, 54] [.tmp 3, .tmp 4] <|
 .seq (.reg [
  .set 2 (.op (some 2) (.box 0) [(.v 0 none)]),
  .set 3 (.op (some 4) .mov [(.k .nils)]),
  .set 4 (.op (some 5) .mov [(.k (.int .i64 0))])]) <|
 .seq (.ifr [] (.or 17 20 (.or 13 16 (.op (some 12) .notB [(.op (some 11) (.call 157) [(.op (some 10) (.loadN 1) [(.v 2 none)])])]) (.op (some 15) (.binI .lss) [(.v 1 (some 14)), (.k (.int .i64 0))])) (.op (some 19) (.binI .gtr) [(.v 1 (some 18)), (.k (.int .i64 400))]))
  (.seq (.reg [
   .set 3 (.op (some 4) .mov [(.k .nils)]),
   .set 4 (.op (some 5) .mov [(.k (.int .i64 1100))])]) <|
  .ret)
  (.skip)) <|
 .seq (.reg [
  .set 5 (.op (some 6) .mov [(.op (some 25) (.box 0) [(.op (some 24) (.build [.nils, (.int .i64 0), .nils, (.bool false)] [(0, 1), (1, 1)]) [(.op (some 22) .load1 [(.op (some 21) (.fadr 0) [(.v 2 none)])]), (.v 1 (some 23))])])])]) <|
 .seq (.seq (.reg [
  .ef (.op (some 27) (.call 158) [(.v 5 (some 26)), (.k (.int .i64 0)), (.k (.int .i64 (-1))), (.k .nils)])]) <|
 .ifr [] (.op (some 32) .notB [(.op (some 31) .load1 [(.op (some 30) (.fadr 3) [(.op (some 29) .nilCheck [(.v 5 (some 28))])])])])
  (.reg [
   .ef (.op (some 43) (.call 159) [(.v 5 (some 33)), (.op (some 42) .load1 [(.op (some 41) (.fadr 3) [(.op (some 40) .nilCheck [(.op (some 39) .load1 [(.op (some 38) (.iadr 1) [(.op (some 37) .load1 [(.op (some 36) (.fadr 2) [(.op (some 35) .nilCheck [(.v 5 (some 34))])])]), (.k (.int .i64 0))])])])])])])])
  (.skip)) <|
 .seq (.ifr [] (.op (some 47) .load1 [(.op (some 46) (.fadr 3) [(.op (some 45) .nilCheck [(.v 5 (some 44))])])])
  (.seq (.reg [
   .set 3 (.op (some 4) .mov [(.k .nils)]),
   .set 4 (.op (some 5) .mov [(.k (.int .i64 1101))])]) <|
  .ret)
  (.skip)) <|
 .seq (.reg [
  .set 6 (.op (some 7) .mov [(.k .nils)])]) <|
 .seq (.seq (.reg [
  .set 8 (.op (some 51) .load1 [(.op (some 50) (.fadr 2) [(.op (some 49) .nilCheck [(.v 5 (some 48))])])]),
  .set 9 (.op (some 52) .lenL [(.v 8 none)]),
  .set 10 (.op (some 53) .mov [(.k (.int .i64 0))])]) <|
 .block 0 <|
  .loop [6, 8, 9, 10] <|
   .seq (.reg [
    .set 11 (.op (some 54) (.binI .lss) [(.v 10 none), (.v 9 none)])]) <|
   .seq (.cond (.t 11)
    (.skip)
    (.exit 0)) <|
   .seq (.block 1 <|
    .seq (.reg [
     .set 7 (.op (some 9) .mov [(.op (some 56) .load1 [(.op (some 55) (.iadr 1) [(.v 8 none), (.v 10 none)])])])]) <|
    .seq (.ifr [] (.op (some 58) (.call 160) [(.v 7 (some 57))])
     (.seq (.reg [
      .set 3 (.op (some 4) .mov [(.k .nils)]),
      .set 4 (.op (some 5) .mov [(.k (.int .i64 1102))])]) <|
     .ret)
     (.skip)) <|
    .dreg [59, 60, 61, 62, 63, 64, 65, 66, 67, 68, 69, 70, 71, 72, 73, 74, 75, 76, 77, 78, 79, 80] [
     ⟨(some 12), .mov, [.t 6], none⟩,
     ⟨(some 13), .mov, [.t 7], none⟩,
     ⟨(some 14), .nilCheck, [.t 13], none⟩,
     ⟨(some 15), .fadr 0, [.t 14], none⟩,
     ⟨(some 16), .load1, [.t 15], none⟩,
     ⟨(some 17), .mov, [.t 7], none⟩,
     ⟨(some 18), .nilCheck, [.t 17], none⟩,
     ⟨(some 19), .fadr 1, [.t 18], none⟩,
     ⟨(some 20), .load1, [.t 19], none⟩,
     ⟨(some 21), .mov, [.t 7], none⟩,
     ⟨(some 22), .nilCheck, [.t 21], none⟩,
     ⟨(some 23), .fadr 2, [.t 22], none⟩,
     ⟨(some 24), .load1, [.t 23], none⟩,
     ⟨(some 25), .call 161, [.t 24], none⟩,
     ⟨(some 26), .mov, [.t 7], none⟩,
     ⟨(some 27), .nilCheck, [.t 26], none⟩,
     ⟨(some 28), .fadr 3, [.t 27], none⟩,
     ⟨(some 29), .load1, [.t 28], none⟩,
     ⟨(some 30), .call 162, [.t 29], none⟩,
     ⟨(some 31), .build [(.int .i64 0), (.int .i64 0), .nils, (.str [])] [(0, 1), (1, 1), (2, 1), (3, 1)], [.t 16, .t 20, .t 25, .t 30], none⟩,
     ⟨(some 32), .bslice 0 [(.int .i64 0), (.int .i64 0), .nils, (.str [])] 1 [(0, 4)], [.t 31], none⟩,
     ⟨(some 33), .app 0 4 56, [.t 12, .t 32], none⟩,
     ⟨(some 6), .mov, [.t 33], none⟩]
     [.op 0, .op 1, .op 2, .op 3, .op 4, .op 5, .op 6, .op 7, .op 8, .op 9, .op 10, .op 11, .op 12, .op 14, .op 15, .op 16, .op 17, .op 13, .chk 17, .chk 8, .chk 4, .op 18, .chk 8, .chk 4, .op 19, .op 20, .op 21, .op 22]) <|
   .reg [
    .set 10 (.op (some 53) .mov [(.op (some 81) (.binI .add) [(.v 10 none), (.k (.int .i64 1))])])]) <|
 .seq (.reg [
  .set 3 (.op (some 4) .mov [(.v 6 (some 82))]),
  .set 4 (.op (some 5) .mov [(.k (.int .i64 0))])]) <|
 .ret

/- sleuth/sleuthlaw0.SameNodes -/
def s138_sleuthlaw0_SameNodes : SFn := .src 27 [0, 1, 4, 5, 26] [.tmp 2] <|
 .seq (.reg [
  .set 2 (.op (some 4) .mov [(.k (.bool false))])]) <|
 .seq (.ifr [] (.op (some 10) (.binI .neq) [(.op (some 7) .lenL [(.v 0 (some 6))]), (.op (some 9) .lenL [(.v 1 (some 8))])])
  (.seq (.reg [
   .set 2 (.op (some 4) .mov [(.k (.bool false))])]) <|
  .ret)
  (.skip)) <|
 .seq (.seq (.reg [
  .set 3 (.op (some 5) .mov [(.k (.int .i64 0))])]) <|
 .block 0 <|
  .loop [0, 1, 3] <|
   .seq (.ifr [] (.op (some 14) (.binI .lss) [(.v 3 (some 11)), (.op (some 13) .lenL [(.v 0 (some 12))])])
    (.skip)
    (.exit 0)) <|
   .seq (.block 1 <|
    .seq (.dreg [17, 18, 19, 20, 21, 22, 23, 24, 25] [
     ⟨(some 5), .mov, [.t 0], none⟩,
     ⟨(some 6), .mov, [.t 3], none⟩,
     ⟨(some 7), .iadr 4, [.t 5, .t 6], none⟩,
     ⟨(some 8), .loadN 4, [.t 7], none⟩,
     ⟨(some 9), .mov, [.t 1], none⟩,
     ⟨(some 10), .mov, [.t 3], none⟩,
     ⟨(some 11), .iadr 4, [.t 9, .t 10], none⟩,
     ⟨(some 12), .loadN 4, [.t 11], none⟩,
     ⟨(some 13), .call 166, [.t 8, .t 12], none⟩,
     ⟨(some 4), .notB, [.t 13], none⟩]
     [.op 0, .op 1, .op 2, .op 3, .op 4, .op 5, .op 6, .op 7, .op 8, .op 9]) <|
    .cond (.t 4)
     (.seq (.reg [
      .set 2 (.op (some 4) .mov [(.k (.bool false))])]) <|
     .ret)
     (.skip)) <|
   .reg [
    .set 3 (.op (some 5) .mov [(.op (some 16) (.binI .add) [(.v 3 (some 15)), (.k (.int .i64 1))])])]) <|
 .seq (.reg [
  .set 2 (.op (some 4) .mov [(.k (.bool true))])]) <|
 .ret

/- sleuth/sleuthlaw11.awake -/
def s141_sleuthlaw11_awake : SFn := .src 55 [0, 1, 2, 4, 6, 8, 9, 12, 13, 14, 17, 18, 19, 22, 23, 24, 27, 28] [.tmp 0] <|
 .seq (.reg [
  .set 0 (.op (some 0) .mov [(.k (.bool false))])]) <|
 .seq (.reg [
  .set 6 (.op (some 9) .mov [(.op (some 11) (.call 136) [(.op (some 10) (.call 143) []), (.k (.int .i64 50))])]),
  .set 7 (.op (some 12) (.ext 0) [(.v 6 none)]),
  .set 8 (.op (some 13) (.ext 1) [(.v 6 none)]),
  .set 1 (.op (some 1) .mov [(.v 7 none)]),
  .set 2 (.op (some 2) .mov [(.v 8 none)])]) <|
 .seq (.reg [
  .set 9 (.op (some 14) .mov [(.op (some 16) (.call 136) [(.op (some 15) (.call 143) []), (.k (.int .i64 3))])]),
  .set 10 (.op (some 17) (.ext 0) [(.v 9 none)]),
  .set 11 (.op (some 18) (.ext 1) [(.v 9 none)]),
  .ef (.v 10 (some 3)),
  .set 3 (.op (some 4) .mov [(.v 11 none)])]) <|
 .seq (.reg [
  .set 12 (.op (some 19) .mov [(.op (some 21) (.call 136) [(.op (some 20) (.build [.nils] []) []), (.k (.int .i64 50))])]),
  .set 13 (.op (some 22) (.ext 0) [(.v 12 none)]),
  .set 14 (.op (some 23) (.ext 1) [(.v 12 none)]),
  .ef (.v 13 (some 5)),
  .set 4 (.op (some 6) .mov [(.v 14 none)])]) <|
 .seq (.reg [
  .set 15 (.op (some 24) .mov [(.op (some 26) (.call 136) [(.op (some 25) (.call 143) []), (.k (.int .i64 (-1)))])]),
  .set 16 (.op (some 27) (.ext 0) [(.v 15 none)]),
  .set 17 (.op (some 28) (.ext 1) [(.v 15 none)]),
  .ef (.v 16 (some 7)),
  .set 5 (.op (some 8) .mov [(.v 17 none)])]) <|
 .seq (.reg [
  .set 0 (.op (some 0) .mov [(.and 50 54 (.and 45 49 (.and 40 44 (.and 35 39 (.op (some 34) (.call 138) [(.v 1 (some 29)), (.op (some 33) (.bslice 0 [(.int .i64 0), (.int .i64 0), .nils, (.str []), (.int .i64 0), (.int .i64 0), .nils, (.str [])] 2 [(0, 4), (4, 4)]) [(.op (some 30) (.build [(.int .i64 0), (.int .i64 0), .nils, (.str [])] [(1, 1), (3, 1)]) [(.k (.int .i64 (-1))), (.k (.str [57]))]), (.op (some 32) (.build [(.int .i64 0), (.int .i64 0), .nils, (.str [])] [(0, 1), (2, 1), (3, 1)]) [(.k (.int .i64 1)), (.op (some 31) (.bslice 0 [(.str []), (.str [])] 2 [(0, 1), (1, 1)]) [(.k (.str [64, 55, 40, 95, 32, 52, 41])), (.k (.str [53]))]), (.k (.str [57]))])])]) (.op (some 38) (.binI .eql) [(.op (some 37) (.call 16) [(.v 2 (some 36))]), (.k (.int .i64 0))])) (.op (some 43) (.binI .eql) [(.op (some 42) (.call 16) [(.v 3 (some 41))]), (.k (.int .i64 1101))])) (.op (some 48) (.binI .eql) [(.op (some 47) (.call 16) [(.v 4 (some 46))]), (.k (.int .i64 1100))])) (.op (some 53) (.binI .eql) [(.op (some 52) (.call 16) [(.v 5 (some 51))]), (.k (.int .i64 1100))]))])]) <|
 .ret

/- sleuth/sleuthlaw11.small -/
def s143_sleuthlaw11_small : SFn := .src 15 [0, 1, 10] [.cellN 0 1] <|
 .seq (.reg [
  .set 0 (.op (some 0) (.alloc 0 [.nils]) [])]) <|
 .seq (.reg [
  .set 2 (.op (some 10) (.build [(.int .i64 0), .nils] [(1, 1)]) [(.op (some 9) (.bslice 0 [(.int .i64 0), (.int .i64 0), (.int .i64 0), .nils, (.int .i64 0), (.int .i64 0), (.int .i64 0), .nils, (.int .i64 0), (.int .i64 0), (.int .i64 0), .nils, (.int .i64 0), (.int .i64 0), (.int .i64 0), .nils, (.int .i64 0), (.int .i64 0), (.int .i64 0), .nils] 5 [(0, 4), (4, 4), (8, 4), (12, 4), (16, 4)]) [(.op (some 2) (.build [(.int .i64 0), (.int .i64 0), (.int .i64 0), .nils] [(0, 1)]) [(.k (.int .i64 7))]), (.op (some 3) (.build [(.int .i64 0), (.int .i64 0), (.int .i64 0), .nils] [(1, 1)]) [(.k (.int .i64 4))]), (.op (some 5) (.build [(.int .i64 0), (.int .i64 0), (.int .i64 0), .nils] [(0, 1), (1, 1), (3, 1)]) [(.k (.int .i64 3)), (.k (.int .i64 7)), (.op (some 4) (.bslice 0 [(.int .i64 0), (.int .i64 0)] 2 [(0, 1), (1, 1)]) [(.k (.int .i64 0)), (.k (.int .i64 1))])]), (.op (some 6) (.build [(.int .i64 0), (.int .i64 0), (.int .i64 0), .nils] [(1, 1)]) [(.k (.int .i64 5))]), (.op (some 8) (.build [(.int .i64 0), (.int .i64 0), (.int .i64 0), .nils] [(0, 1), (1, 1), (3, 1)]) [(.k (.int .i64 2)), (.k (.int .i64 1)), (.op (some 7) (.bslice 0 [(.int .i64 0), (.int .i64 0)] 2 [(0, 1), (1, 1)]) [(.k (.int .i64 2)), (.k (.int .i64 3))])])])]),
  .set 1 (.op (some 1) (.alloc 0 [(.int .i64 0), .nils]) []),
  .ef (.op none (.store 2) [(.v 1 none), (.v 2 none)])]) <|
 .seq (.dreg [11, 12, 13, 14] [
  ⟨(some 3), .loadN 2, [.t 1], none⟩,
  ⟨(some 4), .call 171, [], none⟩,
  ⟨(some 5), .bslice 0 [(.int .i64 0), .nils, (.int .i64 0), .nils] 2 [(0, 2), (2, 2)], [.t 3, .t 4], none⟩,
  ⟨(some 6), .build [.nils] [(0, 1)], [.t 5], none⟩,
  ⟨none, .store 1, [.t 0, .t 6], none⟩]
  [.op 0, .op 1, .chk 0, .op 2, .op 3, .op 4]) <|
 .ret

/- sleuth/sleuthlaw11.texts -/
def s144_sleuthlaw11_texts : SFn := .src 13 [0, 2, 3, 5, 10, 11] [.cellN 1 1] <|
 .seq (.reg [
  .set 1 (.op (some 2) (.alloc 0 [.nils]) [])]) <|
 .seq (.reg [
  .set 3 (.op (some 5) .mov [(.op (some 9) (.call 148) [(.op (some 8) (.binS .add) [(.op (some 7) (.binS .add) [(.k (.str [40, 100, 101, 102, 32, 48, 32])), (.v 0 (some 6))]), (.k (.str [41, 10, 40, 100, 101, 102, 32, 50, 32, 40, 99, 97, 115, 101, 32, 36, 48, 32, 64, 55, 32, 50, 32, 40, 43, 32, 36, 51, 32, 36, 49, 41, 32, 40, 43, 32, 36, 48, 32, 36, 49, 41, 41, 41, 10, 40, 100, 101, 102, 32, 49, 32, 40, 102, 50, 32, 36, 48, 41, 41, 10, 40, 100, 101, 102, 32, 50, 32, 36, 49, 41, 10, 40, 100, 101, 102, 32, 49, 32, 40, 64, 49, 32, 36, 48, 32, 36, 48, 41, 41, 10]))])])]),
  .set 4 (.op (some 10) (.ext 0) [(.v 3 none)]),
  .set 5 (.op (some 11) (.ext 1) [(.v 3 none)]),
  .set 2 (.op (some 3) (.alloc 0 [.nils]) []),
  .ef (.op none (.store 1) [(.v 2 none), (.v 4 none)]),
  .ef (.v 5 (some 4))]) <|
 .seq (.reg [
  .ef (.op none (.store 1) [(.v 1 none), (.op (some 12) (.loadN 1) [(.v 2 none)])])]) <|
 .ret

/- sleuth/sleuthref1.Prim -/
def s147_sleuthref1_Prim : SFn := .src 53 [0, 1, 2, 6, 7, 8, 22] [.tmp 3, .tmp 4] <|
 .seq (.reg [
  .set 3 (.op (some 6) .mov [(.k (.int .i64 0))]),
  .set 4 (.op (some 7) .mov [(.k (.int .i64 0))])]) <|
 .seq (.ifr [] (.or 17 21 (.or 12 16 (.op (some 11) .notB [(.op (some 10) (.call 30) [(.v 0 (some 9)), (.k (.int .i64 0)), (.k (.int .i64 4))])]) (.op (some 15) .notB [(.op (some 14) (.call 41) [(.v 1 (some 13))])])) (.op (some 20) .notB [(.op (some 19) (.call 41) [(.v 2 (some 18))])]))
  (.seq (.reg [
   .set 3 (.op (some 6) .mov [(.k (.int .i64 0))]),
   .set 4 (.op (some 7) .mov [(.k (.int .i64 100))])]) <|
  .ret)
  (.skip)) <|
 .seq (.reg [
  .set 5 (.op (some 8) .mov [(.k (.int .i64 0))])]) <|
 .seq (.seq (.reg [
  .set 6 (.op (some 22) .mov [(.v 0 none)])]) <|
 .block 0 <|
  .ifr [] (.op (some 27) .mov [(.op (some 28) (.binI .eql) [(.v 6 none), (.k (.int .i64 0))])])
   (.reg [
    .set 5 (.op (some 8) .mov [(.op (some 31) (.binI .add) [(.v 1 (some 29)), (.v 2 (some 30))])])])
   (.ifr [] (.op (some 32) .mov [(.op (some 33) (.binI .eql) [(.v 6 none), (.k (.int .i64 1))])])
    (.reg [
     .set 5 (.op (some 8) .mov [(.op (some 36) (.binI .sub) [(.v 1 (some 34)), (.v 2 (some 35))])])])
    (.ifr [] (.op (some 37) .mov [(.op (some 38) (.binI .eql) [(.v 6 none), (.k (.int .i64 2))])])
     (.reg [
      .set 5 (.op (some 8) .mov [(.op (some 41) (.binI .mul) [(.v 1 (some 39)), (.v 2 (some 40))])])])
     (.ifr [] (.op (some 42) .mov [(.op (some 43) (.binI .eql) [(.v 6 none), (.k (.int .i64 3))])])
      (.reg [
       .set 5 (.op (some 8) .mov [(.op (some 47) (.call 174) [(.op (some 46) (.binI .eql) [(.v 1 (some 44)), (.v 2 (some 45))])])])])
      (.reg [
       .set 5 (.op (some 8) .mov [(.op (some 26) (.call 174) [(.op (some 25) (.binI .lss) [(.v 1 (some 23)), (.v 2 (some 24))])])])]))))) <|
 .seq (.reg [
  .set 3 (.op (some 6) .mov [(.op (some 52) (.conv .i64) [(.op (some 51) (.conv .i16) [(.op (some 50) (.conv .u16) [(.op (some 49) (.binI .and) [(.v 5 (some 48)), (.k (.int .i64 65535))])])])])]),
  .set 4 (.op (some 7) .mov [(.k (.int .i64 0))])]) <|
 .ret

/- sleuth/sleuthref1.Parse -/
def s148_sleuthref1_Parse : SFn := .src 89 [0, 2, 3, 4, 5, 6, 7, 8, 9, 10, 13, 14] [.cellN 1 1, .tmp 2] <|
 .seq (.reg [
  .set 1 (.op (some 2) (.alloc 0 [.nils]) []),
  .set 2 (.op (some 3) .mov [(.k (.int .i64 0))])]) <|
 .seq (.reg [
  .set 9 (.op (some 10) .mov [(.op (some 12) (.call 175) [(.v 0 (some 11))])]),
  .set 10 (.op (some 13) (.ext 0) [(.v 9 none)]),
  .set 11 (.op (some 14) (.ext 1) [(.v 9 none)]),
  .set 3 (.op (some 4) .mov [(.v 10 none)]),
  .set 4 (.op (some 5) .mov [(.v 11 none)])]) <|
 .seq (.ifr [] (.op (some 16) (.binI .neq) [(.v 4 (some 15)), (.k (.int .i64 0))])
  (.seq (.reg [
   .ef (.op none (.store 1) [(.v 1 none), (.op (some 17) (.build [.nils] []) [])]),
   .set 2 (.op (some 3) .mov [(.k (.int .i64 700))])]) <|
  .ret)
  (.skip)) <|
 .seq (.reg [
  .set 5 (.op (some 6) .mov [(.op (some 20) (.box 0) [(.op (some 19) (.build [.nils, (.bool false), .nils] [(0, 1)]) [(.v 3 (some 18))])])])]) <|
 .seq (.reg [
  .set 6 (.op (some 7) (.alloc 0 [.nils]) [])]) <|
 .seq (.block 0 <|
  .loop [1, 5, 6] <|
   .seq (.ifr [] (.and 34 39 (.and 27 33 (.op (some 26) (.binI .gtr) [(.op (some 25) .lenL [(.op (some 24) .load1 [(.op (some 23) (.fadr 0) [(.op (some 22) .nilCheck [(.v 5 (some 21))])])])]), (.k (.int .i64 0))]) (.op (some 32) .notB [(.op (some 31) .load1 [(.op (some 30) (.fadr 1) [(.op (some 29) .nilCheck [(.v 5 (some 28))])])])])) (.op (some 38) (.binI .leq) [(.op (some 37) .lenL [(.op (some 36) .load1 [(.op (some 35) (.fadr 0) [(.v 6 none)])])]), (.k (.int .i64 8))]))
    (.skip)
    (.exit 0)) <|
   .block 1 <|
    .seq (.reg [
     .ef (.op none (.store 1) [(.op (some 42) (.fadr 2) [(.op (some 41) .nilCheck [(.v 5 (some 40))])]), (.k .nils)])]) <|
    .seq (.reg [
     .set 7 (.op (some 8) .mov [(.and 46 50 (.op (some 45) (.binS .eql) [(.op (some 44) (.call 176) [(.v 5 (some 43))]), (.k (.str [40]))]) (.op (some 49) (.binS .eql) [(.op (some 48) (.call 176) [(.v 5 (some 47))]), (.k (.str [100, 101, 102]))]))])]) <|
    .seq (.reg [
     .set 8 (.op (some 9) .mov [(.op (some 54) (.call 177) [(.v 5 (some 51)), (.op (some 53) (.call 176) [(.v 5 (some 52))]), (.k (.int .i64 3))])])]) <|
    .seq (.reg [
     .ef (.op (some 56) (.call 178) [(.v 5 (some 55))])]) <|
    .seq (.ifr [] (.or 59 63 (.op (some 58) .notB [(.v 7 (some 57))]) (.op (some 62) (.binS .neq) [(.op (some 61) (.call 176) [(.v 5 (some 60))]), (.k (.str [41]))]))
     (.reg [
      .ef (.op none (.store 1) [(.op (some 66) (.fadr 1) [(.op (some 65) .nilCheck [(.v 5 (some 64))])]), (.k (.bool true))])])
     (.skip)) <|
    .dreg [67, 68, 69, 70, 71, 72, 73, 74, 75, 76, 77] [
     ⟨(some 12), .fadr 0, [.t 6], none⟩,
     ⟨(some 13), .load1, [.t 12], none⟩,
     ⟨(some 14), .mov, [.t 8], none⟩,
     ⟨(some 15), .mov, [.t 5], none⟩,
     ⟨(some 16), .nilCheck, [.t 15], none⟩,
     ⟨(some 17), .fadr 2, [.t 16], none⟩,
     ⟨(some 18), .load1, [.t 17], none⟩,
     ⟨(some 19), .build [(.int .i64 0), .nils] [(0, 1), (1, 1)], [.t 14, .t 18], none⟩,
     ⟨(some 20), .bslice 0 [(.int .i64 0), .nils] 1 [(0, 2)], [.t 19], none⟩,
     ⟨(some 21), .app 0 2 32, [.t 13, .t 20], none⟩,
     ⟨(some 22), .fadr 0, [.t 6], none⟩,
     ⟨none, .store 1, [.t 22, .t 21], none⟩]
     [.op 0, .op 1, .op 2, .op 3, .op 4, .op 5, .op 6, .op 7, .op 8, .chk 1, .op 9, .op 10, .op 11]) <|
 .seq (.ifr [] (.or 82 86 (.op (some 81) .load1 [(.op (some 80) (.fadr 1) [(.op (some 79) .nilCheck [(.v 5 (some 78))])])]) (.op (some 85) .notB [(.op (some 84) (.call 149) [(.op (some 83) (.loadN 1) [(.v 6 none)])])]))
  (.seq (.reg [
   .ef (.op none (.store 1) [(.v 1 none), (.op (some 87) (.build [.nils] []) [])]),
   .set 2 (.op (some 3) .mov [(.k (.int .i64 700))])]) <|
  .ret)
  (.skip)) <|
 .seq (.reg [
  .ef (.op none (.store 1) [(.v 1 none), (.op (some 88) (.loadN 1) [(.v 6 none)])]),
  .set 2 (.op (some 3) .mov [(.k (.int .i64 0))])]) <|
 .ret

/- sleuth/sleuthref1.ProgramMay -/
def s149_sleuthref1_ProgramMay : SFn := .src 77 [0, 1, 2, 3, 4, 5, 52, 76] [.tmp 2] <|
 .seq (.reg [
  .set 1 (.op (some 1) (.box 0) [(.v 0 none)]),
  .set 2 (.op (some 2) .mov [(.k (.bool false))])]) <|
 .seq (.ifr [] (.or 11 18 (.op (some 10) .notB [(.op (some 9) (.call 30) [(.op (some 8) .lenL [(.op (some 7) .load1 [(.op (some 6) (.fadr 0) [(.v 1 none)])])]), (.k (.int .i64 1)), (.k (.int .i64 8))])]) (.op (some 17) (.binI .neq) [(.op (some 16) .load1 [(.op (some 15) (.fadr 0) [(.op (some 14) (.iadr 2) [(.op (some 13) .load1 [(.op (some 12) (.fadr 0) [(.v 1 none)])]), (.k (.int .i64 0))])])]), (.k (.int .i64 0))]))
  (.seq (.reg [
   .set 2 (.op (some 2) .mov [(.k (.bool false))])]) <|
  .ret)
  (.skip)) <|
 .seq (.seq (.reg [
  .set 3 (.op (some 3) .mov [(.k (.int .i64 0))])]) <|
 .block 0 <|
  .loop [1, 3] <|
   .seq (.ifr [] (.op (some 23) (.binI .lss) [(.v 3 (some 19)), (.op (some 22) .lenL [(.op (some 21) .load1 [(.op (some 20) (.fadr 0) [(.v 1 none)])])])])
    (.skip)
    (.exit 0)) <|
   .seq (.block 1 <|
    .seq (.ifr [] (.op (some 32) .notB [(.op (some 31) (.call 179) [(.op (some 30) (.loadN 2) [(.op (some 29) (.iadr 2) [(.op (some 27) .load1 [(.op (some 26) (.fadr 0) [(.v 1 none)])]), (.v 3 (some 28))])])])])
     (.seq (.reg [
      .set 2 (.op (some 2) .mov [(.k (.bool false))])]) <|
     .ret)
     (.skip)) <|
    .seq (.reg [
     .set 4 (.op (some 4) .mov [(.k (.int .i64 0))])]) <|
    .block 2 <|
     .loop [1, 3, 4] <|
      .seq (.ifr [] (.op (some 41) (.binI .lss) [(.v 4 (some 33)), (.op (some 40) .lenL [(.op (some 39) .load1 [(.op (some 38) (.fadr 1) [(.op (some 37) (.iadr 2) [(.op (some 35) .load1 [(.op (some 34) (.fadr 0) [(.v 1 none)])]), (.v 3 (some 36))])])])])])
       (.skip)
       (.exit 2)) <|
      .seq (.block 3 <|
       .seq (.reg [
        .set 6 (.op (some 52) (.loadN 4) [(.op (some 51) (.iadr 4) [(.op (some 49) .load1 [(.op (some 48) (.fadr 1) [(.op (some 47) (.iadr 2) [(.op (some 45) .load1 [(.op (some 44) (.fadr 0) [(.v 1 none)])]), (.v 3 (some 46))])])]), (.v 4 (some 50))])]),
        .set 5 (.op (some 5) (.alloc 0 [(.int .i64 0), (.int .i64 0), (.int .i64 0), .nils]) []),
        .ef (.op none (.store 4) [(.v 5 none), (.v 6 none)])]) <|
       .seq (.dreg [53, 54, 55, 56, 57, 58, 59, 60, 61, 62, 63, 64, 65, 66, 67, 68, 69, 70, 71, 72, 73, 74, 75] [
        ⟨(some 8), .fadr 0, [.t 5], none⟩,
        ⟨(some 9), .load1, [.t 8], none⟩,
        ⟨(some 10), .binI .eql, [.t 9, .c (.int .i64 2)], none⟩,
        ⟨(some 11), .mov, [.t 10], none⟩,
        ⟨(some 12), .fadr 1, [.t 5], (some (11, true))⟩,
        ⟨(some 13), .load1, [.t 12], (some (11, true))⟩,
        ⟨(some 14), .fadr 0, [.t 1], (some (11, true))⟩,
        ⟨(some 15), .load1, [.t 14], (some (11, true))⟩,
        ⟨(some 16), .lenL, [.t 15], (some (11, true))⟩,
        ⟨(some 17), .binI .geq, [.t 13, .t 16], (some (11, true))⟩,
        ⟨(some 18), .mov, [.t 17], (some (11, true))⟩,
        ⟨(some 19), .fadr 3, [.t 5], (some (18, false))⟩,
        ⟨(some 20), .load1, [.t 19], (some (18, false))⟩,
        ⟨(some 21), .lenL, [.t 20], (some (18, false))⟩,
        ⟨(some 22), .fadr 0, [.t 1], (some (18, false))⟩,
        ⟨(some 23), .load1, [.t 22], (some (18, false))⟩,
        ⟨(some 24), .fadr 1, [.t 5], (some (18, false))⟩,
        ⟨(some 25), .load1, [.t 24], (some (18, false))⟩,
        ⟨(some 26), .iadr 2, [.t 23, .t 25], (some (18, false))⟩,
        ⟨(some 27), .fadr 0, [.t 26], (some (18, false))⟩,
        ⟨(some 28), .load1, [.t 27], (some (18, false))⟩,
        ⟨(some 29), .binI .neq, [.t 21, .t 28], (some (18, false))⟩,
        ⟨(some 30), .pick, [.t 18, .c (.bool true), .t 29], (some (11, true))⟩,
        ⟨(some 7), .pick, [.t 11, .t 30, .c (.bool false)], none⟩]
        [.op 0, .op 1, .op 2, .op 3, .op 4, .op 5, .op 6, .op 7, .op 8, .op 9, .op 10, .op 11, .op 12, .op 13, .op 14, .op 15, .op 16, .op 17, .op 18, .op 19, .op 20, .op 21, .op 22, .op 23]) <|
       .cond (.t 7)
        (.seq (.reg [
         .set 2 (.op (some 2) .mov [(.k (.bool false))])]) <|
        .ret)
        (.skip)) <|
      .reg [
       .set 4 (.op (some 4) .mov [(.op (some 43) (.binI .add) [(.v 4 (some 42)), (.k (.int .i64 1))])])]) <|
   .reg [
    .set 3 (.op (some 3) .mov [(.op (some 25) (.binI .add) [(.v 3 (some 24)), (.k (.int .i64 1))])])]) <|
 .seq (.reg [
  .set 2 (.op (some 2) .mov [(.k (.bool true))])]) <|
 .ret

/- sleuth/program.May -/
def s157_program_May : SFn := .src 42 [0, 1, 2, 3, 5, 26, 27, 28, 29, 31] [.tmp 2] <|
 .seq (.reg [
  .set 1 (.op (some 1) (.box 0) [(.v 0 none)]),
  .set 2 (.op (some 2) .mov [(.k (.bool false))])]) <|
 .seq (.ifr [] (.or 16 23 (.or 10 15 (.op (some 9) (.binI .eql) [(.op (some 8) .lenL [(.op (some 7) .load1 [(.op (some 6) (.fadr 0) [(.v 1 none)])])]), (.k (.int .i64 0))]) (.op (some 14) (.binI .gtr) [(.op (some 13) .lenL [(.op (some 12) .load1 [(.op (some 11) (.fadr 0) [(.v 1 none)])])]), (.k (.int .i64 8))])) (.op (some 22) (.binI .neq) [(.op (some 21) .load1 [(.op (some 20) (.fadr 0) [(.op (some 19) (.iadr 2) [(.op (some 18) .load1 [(.op (some 17) (.fadr 0) [(.v 1 none)])]), (.k (.int .i64 0))])])]), (.k (.int .i64 0))]))
  (.seq (.reg [
   .set 2 (.op (some 2) .mov [(.k (.bool false))])]) <|
  .ret)
  (.skip)) <|
 .seq (.reg [
  .set 3 (.op (some 3) .mov [(.op (some 24) (.mkfn 186) [(.v 1 none)])])]) <|
 .seq (.seq (.reg [
  .set 5 (.op (some 26) .load1 [(.op (some 25) (.fadr 0) [(.v 1 none)])]),
  .set 6 (.op (some 27) .lenL [(.v 5 none)]),
  .set 7 (.op (some 28) .mov [(.k (.int .i64 0))])]) <|
 .block 0 <|
  .loop [3, 5, 6, 7] <|
   .seq (.reg [
    .set 8 (.op (some 29) (.binI .lss) [(.v 7 none), (.v 6 none)])]) <|
   .seq (.cond (.t 8)
    (.skip)
    (.exit 0)) <|
   .seq (.block 1 <|
    .seq (.reg [
     .set 9 (.op (some 31) (.loadN 2) [(.op (some 30) (.iadr 2) [(.v 5 none), (.v 7 none)])]),
     .set 4 (.op (some 5) (.alloc 0 [(.int .i64 0), .nils]) []),
     .ef (.op none (.store 2) [(.v 4 none), (.v 9 none)])]) <|
    .ifr [] (.or 35 40 (.op (some 34) .notB [(.op (some 33) (.call 187) [(.op (some 32) (.loadN 2) [(.v 4 none)])])]) (.op (some 39) (.call 188) [(.op (some 37) .load1 [(.op (some 36) (.fadr 1) [(.v 4 none)])]), (.v 3 (some 38))]))
     (.seq (.reg [
      .set 2 (.op (some 2) .mov [(.k (.bool false))])]) <|
     .ret)
     (.skip)) <|
   .reg [
    .set 7 (.op (some 28) .mov [(.op (some 41) (.binI .add) [(.v 7 none), (.k (.int .i64 1))])])]) <|
 .seq (.reg [
  .set 2 (.op (some 2) .mov [(.k (.bool true))])]) <|
 .ret

/- (*sleuth/need.machine).call -/
def s158___need_machine__call : SFn := .src 72 [0, 1, 2, 3, 8, 9, 10, 11, 12, 25, 52] [.cellN 4 3] <|
 .seq (.reg [
  .set 4 (.op (some 8) (.alloc 0 [(.int .i64 0), (.int .i64 0), .nils]) [])]) <|
 .seq (.reg [
  .set 5 (.op (some 9) .mov [(.op (some 19) (.box 0) [(.op (some 18) (.build [(.int .i64 0), (.int .i64 0), .nils, .nilp] [(0, 1), (1, 1), (2, 1), (3, 1)]) [(.v 1 (some 13)), (.v 2 (some 14)), (.v 3 (some 15)), (.op (some 17) (.box 0) [(.op (some 16) (.build [.nils, (.int .i64 0), .nils, (.int .i64 0), (.bool false), (.int .i64 0), (.int .i64 0), .nils, (.bool false), (.int .i64 0)] []) [])])])])])]) <|
 .seq (.reg [
  .set 6 (.op (some 10) .mov [(.op (some 24) .lenL [(.op (some 23) .load1 [(.op (some 22) (.fadr 2) [(.op (some 21) .nilCheck [(.v 0 (some 20))])])])])])]) <|
 .seq (.reg [
  .set 9 (.op (some 25) .mov [(.v 0 none)]),
  .ef (.opr none (.store 1) (.op (some 34) (.fadr 2) [(.op (some 33) .nilCheck [(.v 9 none)])]) (.op (some 32) (.app 0 1 8) [(.op (some 29) .load1 [(.op (some 28) (.fadr 2) [(.op (some 27) .nilCheck [(.v 0 (some 26))])])]), (.op (some 31) (.bslice 0 [.nilp] 1 [(0, 1)]) [(.v 5 (some 30))])]))]) <|
 .seq (.reg [
  .set 7 (.op (some 11) .mov [(.op (some 42) .load1 [(.op (some 41) (.fadr 1) [(.op (some 40) (.iadr 2) [(.op (some 38) .load1 [(.op (some 37) (.fadr 0) [(.op (some 36) .nilCheck [(.v 0 (some 35))])])]), (.v 1 (some 39))])])])])]) <|
 .seq (.reg [
  .set 10 (.op (some 52) (.call 189) [(.v 0 (some 43)), (.op (some 48) (.box 0) [(.op (some 47) (.build [.nils, .nils, (.int .i64 0)] [(0, 1), (1, 1), (2, 1)]) [(.v 7 (some 44)), (.v 3 (some 45)), (.v 6 (some 46))])]), (.op (some 51) (.binI .sub) [(.op (some 50) .lenL [(.v 7 (some 49))]), (.k (.int .i64 1))])]),
  .set 8 (.op (some 12) (.alloc 0 [(.int .i64 0), (.int .i64 0), .nils]) []),
  .ef (.op none (.store 3) [(.v 8 none), (.v 10 none)])]) <|
 .seq (.ifr [] (.op (some 57) .notB [(.op (some 56) .load1 [(.op (some 55) (.fadr 3) [(.op (some 54) .nilCheck [(.v 0 (some 53))])])])])
  (.dreg [58, 59, 60, 61, 62, 63, 64, 65, 66, 67, 68, 69, 70] [
   ⟨(some 11), .mov, [.t 5], none⟩,
   ⟨(some 12), .nilCheck, [.t 11], none⟩,
   ⟨(some 13), .fadr 3, [.t 12], none⟩,
   ⟨(some 14), .load1, [.t 13], none⟩,
   ⟨(some 15), .mov, [.t 5], none⟩,
   ⟨(some 16), .nilCheck, [.t 15], none⟩,
   ⟨(some 17), .fadr 3, [.t 16], none⟩,
   ⟨(some 18), .load1, [.t 17], none⟩,
   ⟨(some 19), .loadN 3, [.t 8], none⟩,
   ⟨(some 20), .nilCheck, [.t 14], none⟩,
   ⟨(some 21), .fadr 5, [.t 20], none⟩,
   ⟨none, .store 3, [.t 21, .t 19], none⟩,
   ⟨(some 22), .nilCheck, [.t 18], none⟩,
   ⟨(some 23), .fadr 4, [.t 22], none⟩,
   ⟨none, .store 1, [.t 23, .c (.bool true)], none⟩]
   [.op 0, .op 1, .op 2, .op 3, .op 4, .op 5, .op 6, .op 7, .op 8, .op 9, .op 10, .op 11, .op 12, .op 13, .op 14])
  (.skip)) <|
 .seq (.reg [
  .ef (.op none (.store 3) [(.v 4 none), (.op (some 71) (.loadN 3) [(.v 8 none)])])]) <|
 .ret

/- (*sleuth/need.machine).show -/
def s159___need_machine__show : SFn := .src 42 [0, 1, 4, 5, 7, 17, 31, 32, 33, 34] [.tmp 2] <|
 .seq (.reg [
  .set 2 (.op (some 4) .mov [(.k (.bool false))])]) <|
 .seq (.ifr [] (.op (some 11) .load1 [(.op (some 10) (.fadr 8) [(.op (some 9) .nilCheck [(.v 1 (some 8))])])])
  (.seq (.reg [
   .set 2 (.op (some 4) .mov [(.k (.bool true))])]) <|
  .ret)
  (.skip)) <|
 .seq (.reg [
  .ef (.op none (.store 1) [(.op (some 14) (.fadr 8) [(.op (some 13) .nilCheck [(.v 1 (some 12))])]), (.k (.bool true))])]) <|
 .seq (.seq (.reg [
  .set 5 (.op (some 17) (.call 190) [(.v 0 (some 15)), (.v 1 (some 16))]),
  .set 3 (.op (some 5) (.alloc 0 [(.int .i64 0), (.int .i64 0), .nils]) []),
  .ef (.op none (.store 3) [(.v 3 none), (.v 5 none)])]) <|
 .ifr [] (.or 22 26 (.op (some 21) .load1 [(.op (some 20) (.fadr 3) [(.op (some 19) .nilCheck [(.v 0 (some 18))])])]) (.op (some 25) (.binI .eql) [(.op (some 24) .load1 [(.op (some 23) (.fadr 0) [(.v 3 none)])]), (.k (.int .i64 3))]))
  (.seq (.reg [
   .set 2 (.op (some 4) .mov [(.k (.bool false))])]) <|
  .ret)
  (.skip)) <|
 .seq (.seq (.reg [
  .set 6 (.op (some 31) .load1 [(.op (some 30) (.fadr 2) [(.op (some 29) (.fadr 5) [(.op (some 28) .nilCheck [(.v 1 (some 27))])])])]),
  .set 7 (.op (some 32) .lenL [(.v 6 none)]),
  .set 8 (.op (some 33) .mov [(.k (.int .i64 0))])]) <|
 .block 0 <|
  .loop [0, 6, 7, 8] <|
   .seq (.reg [
    .set 9 (.op (some 34) (.binI .lss) [(.v 8 none), (.v 7 none)])]) <|
   .seq (.cond (.t 9)
    (.skip)
    (.exit 0)) <|
   .seq (.block 1 <|
    .seq (.reg [
     .set 4 (.op (some 7) .mov [(.op (some 36) .load1 [(.op (some 35) (.iadr 1) [(.v 6 none), (.v 8 none)])])])]) <|
    .ifr [] (.op (some 40) .notB [(.op (some 39) (.call 159) [(.v 0 (some 37)), (.v 4 (some 38))])])
     (.seq (.reg [
      .set 2 (.op (some 4) .mov [(.k (.bool false))])]) <|
     .ret)
     (.skip)) <|
   .reg [
    .set 8 (.op (some 33) .mov [(.op (some 41) (.binI .add) [(.v 8 none), (.k (.int .i64 1))])])]) <|
 .seq (.reg [
  .set 2 (.op (some 4) .mov [(.k (.bool true))])]) <|
 .ret

/- (*sleuth/need.call).tooLong -/
def s160___need_call__tooLong : SFn := .src 35 [0, 2, 4, 25, 26, 27, 28] [.tmp 1] <|
 .seq (.reg [
  .set 1 (.op (some 2) .mov [(.k (.bool false))])]) <|
 .seq (.seq (.dreg [5, 6, 7, 8, 9, 10, 11, 12, 13, 14, 15, 16, 17, 18, 19, 20, 21, 22, 23, 24] [
  ⟨(some 7), .mov, [.t 0], none⟩,
  ⟨(some 8), .nilCheck, [.t 7], none⟩,
  ⟨(some 9), .fadr 2, [.t 8], none⟩,
  ⟨(some 10), .load1, [.t 9], none⟩,
  ⟨(some 11), .mov, [.t 0], none⟩,
  ⟨(some 12), .nilCheck, [.t 11], none⟩,
  ⟨(some 13), .fadr 2, [.t 12], none⟩,
  ⟨(some 14), .load1, [.t 13], none⟩,
  ⟨(some 15), .lenL, [.t 14], none⟩,
  ⟨(some 16), .mov, [.t 0], none⟩,
  ⟨(some 17), .nilCheck, [.t 16], none⟩,
  ⟨(some 18), .fadr 2, [.t 17], none⟩,
  ⟨(some 19), .load1, [.t 18], none⟩,
  ⟨(some 20), .lenL, [.t 19], none⟩,
  ⟨(some 21), .slL 1 false true true, [.t 10, .t 15, .t 20], none⟩,
  ⟨(some 22), .mov, [.t 0], none⟩,
  ⟨(some 23), .nilCheck, [.t 22], none⟩,
  ⟨(some 24), .fadr 3, [.t 23], none⟩,
  ⟨(some 25), .load1, [.t 24], none⟩,
  ⟨(some 26), .bslice 0 [.nilp] 1 [(0, 1)], [.t 25], none⟩,
  ⟨(some 3), .app 0 1 8, [.t 21, .t 26], none⟩,
  ⟨(some 4), .lenL, [.t 3], none⟩,
  ⟨(some 5), .mov, [.c (.int .i64 0)], none⟩]
  [.op 0, .op 1, .op 2, .op 3, .op 4, .op 5, .op 6, .op 7, .op 8, .op 9, .op 10, .op 11, .op 12, .op 13, .op 14, .op 15, .op 16, .op 17, .op 18, .op 22, .op 19, .chk 12, .chk 7, .chk 3, .op 20, .op 21]) <|
 .block 0 <|
  .loop [3, 4, 5] <|
   .seq (.reg [
    .set 6 (.op (some 28) (.binI .lss) [(.v 5 none), (.v 4 none)])]) <|
   .seq (.cond (.t 6)
    (.skip)
    (.exit 0)) <|
   .seq (.block 1 <|
    .seq (.reg [
     .set 2 (.op (some 4) .mov [(.op (some 30) .load1 [(.op (some 29) (.iadr 1) [(.v 3 none), (.v 5 none)])])])]) <|
    .ifr [] (.op (some 33) (.binI .gtr) [(.op (some 32) (.call 191) [(.v 2 (some 31))]), (.k (.int .i64 1024))])
     (.seq (.reg [
      .set 1 (.op (some 2) .mov [(.k (.bool true))])]) <|
     .ret)
     (.skip)) <|
   .reg [
    .set 5 (.op (some 27) .mov [(.op (some 34) (.binI .add) [(.v 5 none), (.k (.int .i64 1))])])]) <|
 .seq (.reg [
  .set 1 (.op (some 2) .mov [(.k (.bool false))])]) <|
 .ret

/- sleuth/need.texts -/
def s161_need_texts : SFn := .src 19 [0, 2, 3, 5, 6, 7, 8, 9] [.tmp 1] <|
 .seq (.reg [
  .set 1 (.op (some 2) .mov [(.k .nils)])]) <|
 .seq (.reg [
  .set 2 (.op (some 3) .mov [(.k .nils)])]) <|
 .seq (.seq (.reg [
  .set 4 (.op (some 6) .mov [(.v 0 none)]),
  .set 5 (.op (some 7) .lenL [(.v 4 none)]),
  .set 6 (.op (some 8) .mov [(.k (.int .i64 0))])]) <|
 .block 0 <|
  .loop [2, 4, 5, 6] <|
   .seq (.reg [
    .set 7 (.op (some 9) (.binI .lss) [(.v 6 none), (.v 5 none)])]) <|
   .seq (.cond (.t 7)
    (.skip)
    (.exit 0)) <|
   .seq (.block 1 <|
    .seq (.reg [
     .set 3 (.op (some 5) .mov [(.op (some 11) .load1 [(.op (some 10) (.iadr 1) [(.v 4 none), (.v 6 none)])])])]) <|
    .reg [
     .set 2 (.op (some 3) .mov [(.op (some 16) (.app 0 1 16) [(.v 2 (some 12)), (.op (some 15) (.bslice 0 [(.str [])] 1 [(0, 1)]) [(.op (some 14) (.call 162) [(.v 3 (some 13))])])])])]) <|
   .reg [
    .set 6 (.op (some 8) .mov [(.op (some 17) (.binI .add) [(.v 6 none), (.k (.int .i64 1))])])]) <|
 .seq (.reg [
  .set 1 (.op (some 2) .mov [(.v 2 (some 18))])]) <|
 .ret

/- (*sleuth/need.cell).text -/
def s162___need_cell__text : SFn := .src 41 [0, 2] [.tmp 1] <|
 .seq (.reg [
  .set 1 (.op (some 2) .mov [(.k (.str []))])]) <|
 .seq (.block 0 <|
  .ifr [] (.op (some 3) .mov [(.op (some 8) .notB [(.op (some 7) .load1 [(.op (some 6) (.fadr 4) [(.op (some 5) .nilCheck [(.v 0 (some 4))])])])])])
   (.seq (.reg [
    .set 1 (.op (some 2) .mov [(.k (.str [95]))])]) <|
   .ret)
   (.ifr [] (.op (some 9) .mov [(.op (some 15) (.binI .eql) [(.op (some 14) .load1 [(.op (some 13) (.fadr 0) [(.op (some 12) (.fadr 5) [(.op (some 11) .nilCheck [(.v 0 (some 10))])])])]), (.k (.int .i64 3))])])
    (.seq (.reg [
     .set 1 (.op (some 2) .mov [(.k (.str [33]))])]) <|
    .ret)
    (.ifr [] (.op (some 16) .mov [(.op (some 22) (.binI .eql) [(.op (some 21) .load1 [(.op (some 20) (.fadr 0) [(.op (some 19) (.fadr 5) [(.op (some 18) .nilCheck [(.v 0 (some 17))])])])]), (.k (.int .i64 1))])])
     (.seq (.reg [
      .set 1 (.op (some 2) .mov [(.op (some 28) (.call 29) [(.op (some 27) .load1 [(.op (some 26) (.fadr 1) [(.op (some 25) (.fadr 5) [(.op (some 24) .nilCheck [(.v 0 (some 23))])])])])])])]) <|
     .ret)
     (.skip)))) <|
 .seq (.dreg [29, 30, 31, 32, 33, 34, 35, 36, 37, 38, 39, 40] [
  ⟨(some 2), .mov, [.t 0], none⟩,
  ⟨(some 3), .nilCheck, [.t 2], none⟩,
  ⟨(some 4), .fadr 5, [.t 3], none⟩,
  ⟨(some 5), .fadr 1, [.t 4], none⟩,
  ⟨(some 6), .load1, [.t 5], none⟩,
  ⟨(some 7), .mov, [.t 0], none⟩,
  ⟨(some 8), .nilCheck, [.t 7], none⟩,
  ⟨(some 9), .fadr 5, [.t 8], none⟩,
  ⟨(some 10), .fadr 2, [.t 9], none⟩,
  ⟨(some 11), .load1, [.t 10], none⟩,
  ⟨(some 12), .call 161, [.t 11], none⟩,
  ⟨(some 13), .call 27, [.t 6, .t 12], none⟩,
  ⟨(some 1), .mov, [.t 13], none⟩]
  [.op 0, .op 1, .op 2, .op 3, .op 4, .op 5, .op 6, .op 7, .op 8, .op 9, .op 10, .chk 4, .op 11, .op 12]) <|
 .ret

/- sleuth/sleuthlaw0.SameNode -/
def s166_sleuthlaw0_SameNode : SFn := .src 31 [0, 1, 2, 3, 4] [.tmp 4] <|
 .seq (.reg [
  .set 2 (.op (some 2) (.box 0) [(.v 0 none)]),
  .set 3 (.op (some 3) (.box 0) [(.v 1 none)]),
  .set 4 (.op (some 4) .mov [(.k (.bool false))])]) <|
 .seq (.reg [
  .set 4 (.op (some 4) .mov [(.and 24 30 (.and 17 23 (.and 10 16 (.op (some 9) (.binI .eql) [(.op (some 6) .load1 [(.op (some 5) (.fadr 0) [(.v 2 none)])]), (.op (some 8) .load1 [(.op (some 7) (.fadr 0) [(.v 3 none)])])]) (.op (some 15) (.binI .eql) [(.op (some 12) .load1 [(.op (some 11) (.fadr 1) [(.v 2 none)])]), (.op (some 14) .load1 [(.op (some 13) (.fadr 1) [(.v 3 none)])])])) (.op (some 22) (.call 15) [(.op (some 19) .load1 [(.op (some 18) (.fadr 2) [(.v 2 none)])]), (.op (some 21) .load1 [(.op (some 20) (.fadr 2) [(.v 3 none)])])])) (.op (some 29) (.binS .eql) [(.op (some 26) .load1 [(.op (some 25) (.fadr 3) [(.v 2 none)])]), (.op (some 28) .load1 [(.op (some 27) (.fadr 3) [(.v 3 none)])])]))])]) <|
 .ret

/- sleuth/sleuthlaw11.adds -/
def s171_sleuthlaw11_adds : SFn := .src 14 [0] [.cellN 0 2] <|
 .seq (.reg [
  .set 0 (.op (some 0) (.alloc 0 [(.int .i64 0), .nils]) [])]) <|
 .seq (.reg [
  .ef (.op none (.store 2) [(.v 0 none), (.op (some 13) (.build [(.int .i64 0), .nils] [(0, 1), (1, 1)]) [(.k (.int .i64 2)), (.op (some 12) (.bslice 0 [(.int .i64 0), (.int .i64 0), (.int .i64 0), .nils, (.int .i64 0), (.int .i64 0), (.int .i64 0), .nils, (.int .i64 0), (.int .i64 0), (.int .i64 0), .nils, (.int .i64 0), (.int .i64 0), (.int .i64 0), .nils, (.int .i64 0), (.int .i64 0), (.int .i64 0), .nils, (.int .i64 0), (.int .i64 0), (.int .i64 0), .nils, (.int .i64 0), (.int .i64 0), (.int .i64 0), .nils, (.int .i64 0), (.int .i64 0), (.int .i64 0), .nils] 8 [(0, 4), (4, 4), (8, 4), (12, 4), (16, 4), (20, 4), (24, 4), (28, 4)]) [(.op (some 1) (.build [(.int .i64 0), (.int .i64 0), (.int .i64 0), .nils] [(0, 1)]) [(.k (.int .i64 1))]), (.op (some 2) (.build [(.int .i64 0), (.int .i64 0), (.int .i64 0), .nils] [(0, 1), (1, 1)]) [(.k (.int .i64 1)), (.k (.int .i64 3))]), (.op (some 3) (.build [(.int .i64 0), (.int .i64 0), (.int .i64 0), .nils] [(0, 1), (1, 1)]) [(.k (.int .i64 1)), (.k (.int .i64 1))]), (.op (some 5) (.build [(.int .i64 0), (.int .i64 0), (.int .i64 0), .nils] [(0, 1), (3, 1)]) [(.k (.int .i64 4)), (.op (some 4) (.bslice 0 [(.int .i64 0), (.int .i64 0)] 2 [(0, 1), (1, 1)]) [(.k (.int .i64 1)), (.k (.int .i64 2))])]), (.op (some 6) (.build [(.int .i64 0), (.int .i64 0), (.int .i64 0), .nils] [(0, 1)]) [(.k (.int .i64 1))]), (.op (some 7) (.build [(.int .i64 0), (.int .i64 0), (.int .i64 0), .nils] [(0, 1), (1, 1)]) [(.k (.int .i64 1)), (.k (.int .i64 1))]), (.op (some 9) (.build [(.int .i64 0), (.int .i64 0), (.int .i64 0), .nils] [(0, 1), (3, 1)]) [(.k (.int .i64 4)), (.op (some 8) (.bslice 0 [(.int .i64 0), (.int .i64 0)] 2 [(0, 1), (1, 1)]) [(.k (.int .i64 4)), (.k (.int .i64 5))])]), (.op (some 11) (.build [(.int .i64 0), (.int .i64 0), (.int .i64 0), .nils] [(0, 1), (1, 1), (2, 1), (3, 1)]) [(.k (.int .i64 5)), (.k (.int .i64 7)), (.k (.int .i64 2)), (.op (some 10) (.bslice 0 [(.int .i64 0), (.int .i64 0), (.int .i64 0)] 3 [(0, 1), (1, 1), (2, 1)]) [(.k (.int .i64 0)), (.k (.int .i64 3)), (.k (.int .i64 6))])])])])])]) <|
 .ret

/- sleuth/sleuthref1.truth -/
def s174_sleuthref1_truth : SFn := .src 4 [0, 2] [.tmp 1] <|
 .seq (.reg [
  .set 1 (.op (some 2) .mov [(.k (.int .i64 0))])]) <|
 .seq (.ifr [] (.v 0 (some 3))
  (.seq (.reg [
   .set 1 (.op (some 2) .mov [(.k (.int .i64 1))])]) <|
  .ret)
  (.skip)) <|
 .seq (.reg [
  .set 1 (.op (some 2) .mov [(.k (.int .i64 0))])]) <|
 .ret

/- sleuth/sleuthref1.Words -/
def s175_sleuthref1_Words : SFn := .src 113 [0, 2, 3, 4, 5, 6, 7, 8, 9] [.tmp 1, .tmp 2] <|
 .seq (.reg [
  .set 1 (.op (some 2) .mov [(.k .nils)]),
  .set 2 (.op (some 3) .mov [(.k (.int .i64 0))])]) <|
 .seq (.ifr [] (.op (some 12) (.binI .gtr) [(.op (some 11) .lenS [(.v 0 (some 10))]), (.k (.int .i64 2048))])
  (.seq (.reg [
   .set 1 (.op (some 2) .mov [(.k .nils)]),
   .set 2 (.op (some 3) .mov [(.k (.int .i64 400))])]) <|
  .ret)
  (.skip)) <|
 .seq (.seq (.reg [
  .set 3 (.op (some 4) .mov [(.k (.int .i64 0))])]) <|
 .block 0 <|
  .loop [0, 3] <|
   .seq (.ifr [] (.op (some 16) (.binI .lss) [(.v 3 (some 13)), (.op (some 15) .lenS [(.v 0 (some 14))])])
    (.skip)
    (.exit 0)) <|
   .seq (.block 1 <|
    .ifr [] (.and 23 34 (.op (some 22) (.binI .neq) [(.op (some 21) .idxS [(.v 0 (some 19)), (.v 3 (some 20))]), (.k (.int .u8 10))]) (.or 28 33 (.op (some 27) (.binI .lss) [(.op (some 26) .idxS [(.v 0 (some 24)), (.v 3 (some 25))]), (.k (.int .u8 32))]) (.op (some 32) (.binI .gtr) [(.op (some 31) .idxS [(.v 0 (some 29)), (.v 3 (some 30))]), (.k (.int .u8 126))])))
     (.seq (.reg [
      .set 1 (.op (some 2) .mov [(.k .nils)]),
      .set 2 (.op (some 3) .mov [(.k (.int .i64 400))])]) <|
     .ret)
     (.skip)) <|
   .reg [
    .set 3 (.op (some 4) .mov [(.op (some 18) (.binI .add) [(.v 3 (some 17)), (.k (.int .i64 1))])])]) <|
 .seq (.reg [
  .set 4 (.op (some 5) .mov [(.k .nils)])]) <|
 .seq (.reg [
  .set 5 (.op (some 6) .mov [(.k (.str []))])]) <|
 .seq (.seq (.reg [
  .set 6 (.op (some 7) .mov [(.k (.int .i64 0))])]) <|
 .block 2 <|
  .loop [0, 4, 5, 6] <|
   .seq (.ifr [] (.op (some 38) (.binI .leq) [(.v 6 (some 35)), (.op (some 37) .lenS [(.v 0 (some 36))])])
    (.skip)
    (.exit 2)) <|
   .seq (.block 3 <|
    .seq (.reg [
     .set 7 (.op (some 8) .mov [(.k (.int .u8 10))])]) <|
    .seq (.ifr [] (.op (some 44) (.binI .lss) [(.v 6 (some 41)), (.op (some 43) .lenS [(.v 0 (some 42))])])
     (.reg [
      .set 7 (.op (some 8) .mov [(.op (some 47) .idxS [(.v 0 (some 45)), (.v 6 (some 46))])])])
     (.skip)) <|
    .seq (.reg [
     .set 8 (.op (some 9) .mov [(.and 62 65 (.and 58 61 (.and 54 57 (.and 50 53 (.op (some 49) (.binI .neq) [(.v 7 (some 48)), (.k (.int .u8 10))]) (.op (some 52) (.binI .neq) [(.v 7 (some 51)), (.k (.int .u8 32))])) (.op (some 56) (.binI .neq) [(.v 7 (some 55)), (.k (.int .u8 40))])) (.op (some 60) (.binI .neq) [(.v 7 (some 59)), (.k (.int .u8 41))])) (.op (some 64) (.binI .neq) [(.v 7 (some 63)), (.k (.int .u8 35))]))])]) <|
    .seq (.ifr [] (.v 8 (some 66))
     (.seq (.reg [
      .set 5 (.op (some 6) .mov [(.op (some 73) (.binS .add) [(.v 5 (some 67)), (.op (some 72) (.slS true true) [(.v 0 (some 68)), (.v 6 (some 69)), (.op (some 71) (.binI .add) [(.v 6 (some 70)), (.k (.int .i64 1))])])])])]) <|
     .exit 3)
     (.skip)) <|
    .seq (.ifr [] (.op (some 75) (.binS .neq) [(.v 5 (some 74)), (.k (.str []))])
     (.seq (.reg [
      .set 4 (.op (some 5) .mov [(.op (some 79) (.app 0 1 16) [(.v 4 (some 76)), (.op (some 78) (.bslice 0 [(.str [])] 1 [(0, 1)]) [(.v 5 (some 77))])])])]) <|
     .reg [
      .set 5 (.op (some 6) .mov [(.k (.str []))])])
     (.skip)) <|
    .seq (.ifr [] (.or 82 85 (.op (some 81) (.binI .eql) [(.v 7 (some 80)), (.k (.int .u8 40))]) (.op (some 84) (.binI .eql) [(.v 7 (some 83)), (.k (.int .u8 41))]))
     (.reg [
      .set 4 (.op (some 5) .mov [(.op (some 93) (.app 0 1 16) [(.v 4 (some 86)), (.op (some 92) (.bslice 0 [(.str [])] 1 [(0, 1)]) [(.op (some 91) (.slS true true) [(.v 0 (some 87)), (.v 6 (some 88)), (.op (some 90) (.binI .add) [(.v 6 (some 89)), (.k (.int .i64 1))])])])])])])
     (.skip)) <|
    .block 4 <|
     .loop [0, 4, 5, 6, 7] <|
      .seq (.ifr [] (.and 103 109 (.and 96 102 (.op (some 95) (.binI .eql) [(.v 7 (some 94)), (.k (.int .u8 35))]) (.op (some 101) (.binI .lss) [(.op (some 98) (.binI .add) [(.v 6 (some 97)), (.k (.int .i64 1))]), (.op (some 100) .lenS [(.v 0 (some 99))])])) (.op (some 108) (.binI .neq) [(.op (some 107) .idxS [(.v 0 (some 104)), (.op (some 106) (.binI .add) [(.v 6 (some 105)), (.k (.int .i64 1))])]), (.k (.int .u8 10))]))
       (.skip)
       (.exit 4)) <|
      .block 5 <|
       .reg [
        .set 6 (.op (some 7) .mov [(.op (some 111) (.binI .add) [(.v 6 (some 110)), (.k (.int .i64 1))])])]) <|
   .reg [
    .set 6 (.op (some 7) .mov [(.op (some 40) (.binI .add) [(.v 6 (some 39)), (.k (.int .i64 1))])])]) <|
 .seq (.reg [
  .set 1 (.op (some 2) .mov [(.v 4 (some 112))]),
  .set 2 (.op (some 3) .mov [(.k (.int .i64 0))])]) <|
 .ret

/- (*sleuth/sleuthref1.reader).word -/
def s176___sleuthref1_reader__word : SFn := .src 28 [0, 2, 3, 19] [.tmp 1] <|
 .seq (.reg [
  .set 1 (.op (some 2) .mov [(.k (.str []))])]) <|
 .seq (.ifr [] (.op (some 9) (.binI .eql) [(.op (some 8) .lenL [(.op (some 7) .load1 [(.op (some 6) (.fadr 0) [(.op (some 5) .nilCheck [(.v 0 (some 4))])])])]), (.k (.int .i64 0))])
  (.seq (.reg [
   .ef (.op none (.store 1) [(.op (some 12) (.fadr 1) [(.op (some 11) .nilCheck [(.v 0 (some 10))])]), (.k (.bool true))])]) <|
  .seq (.reg [
   .set 1 (.op (some 2) .mov [(.k (.str []))])]) <|
  .ret)
  (.skip)) <|
 .seq (.reg [
  .set 2 (.op (some 3) .mov [(.op (some 18) .load1 [(.op (some 17) (.iadr 1) [(.op (some 16) .load1 [(.op (some 15) (.fadr 0) [(.op (some 14) .nilCheck [(.v 0 (some 13))])])]), (.k (.int .i64 0))])])])]) <|
 .seq (.reg [
  .set 3 (.op (some 19) .mov [(.v 0 none)]),
  .ef (.opr none (.store 1) (.op (some 26) (.fadr 0) [(.op (some 25) .nilCheck [(.v 3 none)])]) (.op (some 24) (.slL 1 true false false) [(.op (some 23) .load1 [(.op (some 22) (.fadr 0) [(.op (some 21) .nilCheck [(.v 0 (some 20))])])]), (.k (.int .i64 1))]))]) <|
 .seq (.reg [
  .set 1 (.op (some 2) .mov [(.v 2 (some 27))])]) <|
 .ret

/- (*sleuth/sleuthref1.reader).whole -/
def s177___sleuthref1_reader__whole : SFn := .src 31 [0, 1, 2, 6, 7, 8, 9, 12, 13] [.tmp 3] <|
 .seq (.reg [
  .set 3 (.op (some 6) .mov [(.k (.int .i64 0))])]) <|
 .seq (.reg [
  .set 6 (.op (some 9) .mov [(.op (some 11) (.call 39) [(.v 1 (some 10))])]),
  .set 7 (.op (some 12) (.ext 0) [(.v 6 none)]),
  .set 8 (.op (some 13) (.ext 1) [(.v 6 none)]),
  .set 4 (.op (some 7) .mov [(.v 7 none)]),
  .set 5 (.op (some 8) .mov [(.v 8 none)])]) <|
 .seq (.ifr [] (.or 22 26 (.or 16 21 (.op (some 15) (.binI .eql) [(.v 5 (some 14)), (.k (.int .i64 0))]) (.op (some 20) (.binI .neq) [(.v 5 (some 17)), (.op (some 19) .lenS [(.v 1 (some 18))])])) (.op (some 25) (.binI .gtr) [(.v 4 (some 23)), (.v 2 (some 24))]))
  (.seq (.reg [
   .ef (.op none (.store 1) [(.op (some 29) (.fadr 1) [(.op (some 28) .nilCheck [(.v 0 (some 27))])]), (.k (.bool true))])]) <|
  .seq (.reg [
   .set 3 (.op (some 6) .mov [(.k (.int .i64 0))])]) <|
  .ret)
  (.skip)) <|
 .seq (.reg [
  .set 3 (.op (some 6) .mov [(.v 4 (some 30))])]) <|
 .ret

/- (*sleuth/sleuthref1.reader).expr -/
def s178___sleuthref1_reader__expr : SFn := .src 80 [0, 2, 3, 4, 5, 7, 60, 63, 64, 65, 66] [.tmp 1] <|
 .seq (.reg [
  .set 1 (.op (some 2) .mov [(.k (.int .i64 0))])]) <|
 .seq (.reg [
  .set 2 (.op (some 3) .mov [(.op (some 9) (.call 176) [(.v 0 (some 8))])])]) <|
 .seq (.ifr [] (.or 18 25 (.or 14 17 (.op (some 13) .load1 [(.op (some 12) (.fadr 1) [(.op (some 11) .nilCheck [(.v 0 (some 10))])])]) (.op (some 16) (.binS .eql) [(.v 2 (some 15)), (.k (.str []))])) (.op (some 24) (.binI .gtr) [(.op (some 23) .lenL [(.op (some 22) .load1 [(.op (some 21) (.fadr 2) [(.op (some 20) .nilCheck [(.v 0 (some 19))])])])]), (.k (.int .i64 24))]))
  (.seq (.reg [
   .ef (.op none (.store 1) [(.op (some 28) (.fadr 1) [(.op (some 27) .nilCheck [(.v 0 (some 26))])]), (.k (.bool true))])]) <|
  .seq (.reg [
   .set 1 (.op (some 2) .mov [(.k (.int .i64 0))])]) <|
  .ret)
  (.skip)) <|
 .seq (.block 0 <|
  .ifr [] (.op (some 29) .mov [(.op (some 31) (.binS .eql) [(.v 2 (some 30)), (.k (.str [40]))])])
   (.seq (.reg [
    .set 1 (.op (some 2) .mov [(.op (some 33) (.call 199) [(.v 0 (some 32))])])]) <|
   .ret)
   (.ifr [] (.op (some 34) .mov [(.op (some 36) (.binS .eql) [(.v 2 (some 35)), (.k (.str [101, 114, 114, 111, 114]))])])
    (.seq (.reg [
     .set 1 (.op (some 2) .mov [(.op (some 39) (.call 200) [(.v 0 (some 37)), (.op (some 38) (.build [(.int .i64 0), (.int .i64 0), (.int .i64 0), .nils] [(0, 1)]) [(.k (.int .i64 7))])])])]) <|
    .ret)
    (.ifr [] (.op (some 40) .mov [(.op (some 43) (.binI .eql) [(.op (some 42) .idxS [(.v 2 (some 41)), (.k (.int .i64 0))]), (.k (.int .u8 36))])])
     (.seq (.reg [
      .set 1 (.op (some 2) .mov [(.op (some 49) (.call 200) [(.v 0 (some 44)), (.op (some 48) (.build [(.int .i64 0), (.int .i64 0), (.int .i64 0), .nils] [(0, 1), (1, 1)]) [(.k (.int .i64 1)), (.op (some 47) (.call 201) [(.v 0 (some 45)), (.v 2 (some 46)), (.k (.int .u8 36)), (.k (.int .i64 8))])])])])]) <|
     .ret)
     (.ifr [] (.op (some 50) .mov [(.op (some 53) (.binI .eql) [(.op (some 52) .idxS [(.v 2 (some 51)), (.k (.int .i64 0))]), (.k (.int .u8 64))])])
      (.seq (.reg [
       .set 1 (.op (some 2) .mov [(.op (some 59) (.call 200) [(.v 0 (some 54)), (.op (some 58) (.build [(.int .i64 0), (.int .i64 0), (.int .i64 0), .nils] [(0, 1), (1, 1)]) [(.k (.int .i64 3)), (.op (some 57) (.call 201) [(.v 0 (some 55)), (.v 2 (some 56)), (.k (.int .u8 64)), (.k (.int .i64 99))])])])])]) <|
      .ret)
      (.skip))))) <|
 .seq (.reg [
  .set 6 (.op (some 60) .mov [(.op (some 62) (.call 12) [(.v 2 (some 61))])]),
  .set 7 (.op (some 63) (.ext 0) [(.v 6 none)]),
  .set 8 (.op (some 64) (.ext 1) [(.v 6 none)]),
  .set 9 (.op (some 65) (.ext 2) [(.v 6 none)]),
  .set 10 (.op (some 66) (.ext 3) [(.v 6 none)]),
  .set 3 (.op (some 4) .mov [(.v 7 none)]),
  .set 4 (.op (some 5) .mov [(.v 8 none)]),
  .ef (.v 9 (some 6)),
  .set 5 (.op (some 7) .mov [(.v 10 none)])]) <|
 .seq (.ifr [] (.or 69 72 (.op (some 68) (.binI .neq) [(.v 5 (some 67)), (.k (.int .i64 0))]) (.op (some 71) (.binI .neq) [(.v 3 (some 70)), (.k (.int .i64 1))]))
  (.seq (.reg [
   .ef (.op none (.store 1) [(.op (some 75) (.fadr 1) [(.op (some 74) .nilCheck [(.v 0 (some 73))])]), (.k (.bool true))])]) <|
  .seq (.reg [
   .set 1 (.op (some 2) .mov [(.k (.int .i64 0))])]) <|
  .ret)
  (.skip)) <|
 .seq (.reg [
  .set 1 (.op (some 2) .mov [(.op (some 79) (.call 200) [(.v 0 (some 76)), (.op (some 78) (.build [(.int .i64 0), (.int .i64 0), (.int .i64 0), .nils] [(1, 1)]) [(.v 4 (some 77))])])])]) <|
 .ret

/- sleuth/sleuthref1.DefMay -/
def s179_sleuthref1_DefMay : SFn := .src 102 [0, 1, 2, 3, 4, 5, 6, 7, 21, 23, 26, 43, 66] [.tmp 2] <|
 .seq (.reg [
  .set 1 (.op (some 1) (.box 0) [(.v 0 none)]),
  .set 2 (.op (some 2) .mov [(.k (.bool false))])]) <|
 .seq (.ifr [] (.or 12 18 (.op (some 11) .notB [(.op (some 10) (.call 30) [(.op (some 9) .load1 [(.op (some 8) (.fadr 0) [(.v 1 none)])]), (.k (.int .i64 0)), (.k (.int .i64 3))])]) (.op (some 17) .notB [(.op (some 16) (.call 30) [(.op (some 15) .lenL [(.op (some 14) .load1 [(.op (some 13) (.fadr 1) [(.v 1 none)])])]), (.k (.int .i64 1)), (.k (.int .i64 24))])]))
  (.seq (.reg [
   .set 2 (.op (some 2) .mov [(.k (.bool false))])]) <|
  .ret)
  (.skip)) <|
 .seq (.reg [
  .set 8 (.op (some 21) .lenL [(.op (some 20) .load1 [(.op (some 19) (.fadr 1) [(.v 1 none)])])]),
  .set 3 (.op (some 3) .mov [(.op (some 22) (.mkslice 0 [(.int .i64 0)] 8) [(.v 8 none), (.v 8 none)])])]) <|
 .seq (.reg [
  .set 9 (.op (some 23) .mov [(.v 3 none)]),
  .set 10 (.op (some 26) (.binI .sub) [(.op (some 25) .lenL [(.v 3 (some 24))]), (.k (.int .i64 1))]),
  .ef (.opr none (.store 1) (.op (some 30) (.iadr 1) [(.v 9 none), (.v 10 none)]) (.op (some 29) (.binI .add) [(.op (some 28) .load1 [(.op (some 27) (.fadr 0) [(.v 1 none)])]), (.k (.int .i64 1))]))]) <|
 .seq (.seq (.reg [
  .set 4 (.op (some 4) .mov [(.op (some 34) (.binI .sub) [(.op (some 33) .lenL [(.op (some 32) .load1 [(.op (some 31) (.fadr 1) [(.v 1 none)])])]), (.k (.int .i64 1))])])]) <|
 .block 0 <|
  .loop [1, 3, 4] <|
   .seq (.ifr [] (.op (some 36) (.binI .geq) [(.v 4 (some 35)), (.k (.int .i64 0))])
    (.skip)
    (.exit 0)) <|
   .seq (.block 1 <|
    .seq (.reg [
     .set 11 (.op (some 43) (.loadN 4) [(.op (some 42) (.iadr 4) [(.op (some 40) .load1 [(.op (some 39) (.fadr 1) [(.v 1 none)])]), (.v 4 (some 41))])]),
     .set 5 (.op (some 5) (.alloc 0 [(.int .i64 0), (.int .i64 0), (.int .i64 0), .nils]) []),
     .ef (.op none (.store 4) [(.v 5 none), (.v 11 none)])]) <|
    .seq (.seq (.dreg [44, 45, 46, 47, 48, 49, 50, 51, 52, 53, 54, 55, 56, 57, 58, 59, 60, 61, 62, 63, 64, 65] [
     ⟨(some 13), .mov, [.t 3], none⟩,
     ⟨(some 14), .mov, [.t 4], none⟩,
     ⟨(some 15), .iadr 1, [.t 13, .t 14], none⟩,
     ⟨(some 16), .load1, [.t 15], none⟩,
     ⟨(some 17), .binI .eql, [.t 16, .c (.int .i64 0)], none⟩,
     ⟨(some 18), .mov, [.t 17], none⟩,
     ⟨(some 19), .mov, [.t 3], (some (18, false))⟩,
     ⟨(some 20), .mov, [.t 4], (some (18, false))⟩,
     ⟨(some 21), .iadr 1, [.t 19, .t 20], (some (18, false))⟩,
     ⟨(some 22), .load1, [.t 21], (some (18, false))⟩,
     ⟨(some 23), .binI .sub, [.t 22, .c (.int .i64 1)], (some (18, false))⟩,
     ⟨(some 24), .binI .gtr, [.t 23, .c (.int .i64 8)], (some (18, false))⟩,
     ⟨(some 25), .pick, [.t 18, .c (.bool true), .t 24], none⟩,
     ⟨(some 26), .mov, [.t 25], none⟩,
     ⟨(some 27), .loadN 4, [.t 5], (some (26, false))⟩,
     ⟨(some 28), .mov, [.t 3], (some (26, false))⟩,
     ⟨(some 29), .mov, [.t 4], (some (26, false))⟩,
     ⟨(some 30), .iadr 1, [.t 28, .t 29], (some (26, false))⟩,
     ⟨(some 31), .load1, [.t 30], (some (26, false))⟩,
     ⟨(some 32), .binI .sub, [.t 31, .c (.int .i64 1)], (some (26, false))⟩,
     ⟨(some 33), .call 202, [.t 27, .t 32], (some (26, false))⟩,
     ⟨(some 34), .notB, [.t 33], (some (26, false))⟩,
     ⟨(some 12), .pick, [.t 26, .c (.bool true), .t 34], none⟩]
     [.op 0, .op 1, .op 2, .op 3, .op 4, .op 5, .op 6, .op 7, .op 8, .op 9, .op 10, .op 11, .op 12, .op 13, .op 14, .op 15, .op 16, .op 17, .op 18, .op 19, .op 20, .op 21, .op 22]) <|
    .cond (.t 12)
     (.seq (.reg [
      .set 2 (.op (some 2) .mov [(.k (.bool false))])]) <|
     .ret)
     (.skip)) <|
    .seq (.reg [
     .set 6 (.op (some 6) .mov [(.k (.int .i64 0))])]) <|
    .block 2 <|
     .loop [1, 3, 4, 5, 6] <|
      .seq (.ifr [] (.op (some 71) (.binI .lss) [(.v 6 (some 67)), (.op (some 70) .lenL [(.op (some 69) .load1 [(.op (some 68) (.fadr 3) [(.v 5 none)])])])])
       (.skip)
       (.exit 2)) <|
      .seq (.block 3 <|
       .seq (.reg [
        .set 7 (.op (some 7) .mov [(.op (some 78) .load1 [(.op (some 77) (.iadr 1) [(.op (some 75) .load1 [(.op (some 74) (.fadr 3) [(.v 5 none)])]), (.v 6 (some 76))])])])]) <|
       .seq (.ifr [] (.or 84 90 (.op (some 83) .notB [(.op (some 82) (.call 30) [(.v 7 (some 79)), (.k (.int .i64 0)), (.op (some 81) (.binI .sub) [(.v 4 (some 80)), (.k (.int .i64 1))])])]) (.op (some 89) (.binI .neq) [(.op (some 88) .load1 [(.op (some 87) (.iadr 1) [(.v 3 (some 85)), (.v 7 (some 86))])]), (.k (.int .i64 0))]))
        (.seq (.reg [
         .set 2 (.op (some 2) .mov [(.k (.bool false))])]) <|
        .ret)
        (.skip)) <|
       .dreg [91, 92, 93, 94, 95, 96, 97, 98, 99, 100, 101] [
        ⟨(some 13), .mov, [.t 3], none⟩,
        ⟨(some 14), .mov, [.t 7], none⟩,
        ⟨(some 15), .mov, [.t 3], none⟩,
        ⟨(some 16), .mov, [.t 4], none⟩,
        ⟨(some 17), .iadr 1, [.t 15, .t 16], none⟩,
        ⟨(some 18), .load1, [.t 17], none⟩,
        ⟨(some 19), .loadN 4, [.t 5], none⟩,
        ⟨(some 20), .mov, [.t 6], none⟩,
        ⟨(some 21), .call 203, [.t 19, .t 20], none⟩,
        ⟨(some 22), .binI .add, [.t 18, .t 21], none⟩,
        ⟨(some 23), .iadr 1, [.t 13, .t 14], none⟩,
        ⟨none, .store 1, [.t 23, .t 22], none⟩]
        [.op 0, .op 1, .op 2, .op 3, .op 4, .op 5, .op 6, .op 7, .op 8, .chk 5, .op 9, .op 10, .op 11]) <|
      .reg [
       .set 6 (.op (some 6) .mov [(.op (some 73) (.binI .add) [(.v 6 (some 72)), (.k (.int .i64 1))])])]) <|
   .reg [
    .set 4 (.op (some 4) .mov [(.op (some 38) (.binI .sub) [(.v 4 (some 37)), (.k (.int .i64 1))])])]) <|
 .seq (.reg [
  .set 2 (.op (some 2) .mov [(.k (.bool true))])]) <|
 .ret

/- sleuth/program.May$1 -/
def s186_program_May_1 : SFn := .src 28 [0, 1, 2, 3] [.tmp 3] <|
 .seq (.reg [
  .set 2 (.op (some 2) (.box 0) [(.v 0 none)]),
  .set 3 (.op (some 3) .mov [(.k (.bool false))])]) <|
 .seq (.dreg [4, 5, 6, 7, 8, 9, 10, 11, 12, 13, 14, 15, 16, 17, 18, 19, 20, 21, 22, 23, 24, 25, 26, 27] [
  ⟨(some 4), .fadr 0, [.t 2], none⟩,
  ⟨(some 5), .load1, [.t 4], none⟩,
  ⟨(some 6), .binI .eql, [.t 5, .c (.int .i64 2)], none⟩,
  ⟨(some 7), .mov, [.t 6], none⟩,
  ⟨(some 8), .fadr 1, [.t 2], (some (7, true))⟩,
  ⟨(some 9), .load1, [.t 8], (some (7, true))⟩,
  ⟨(some 10), .fadr 0, [.t 1], (some (7, true))⟩,
  ⟨(some 11), .load1, [.t 10], (some (7, true))⟩,
  ⟨(some 12), .lenL, [.t 11], (some (7, true))⟩,
  ⟨(some 13), .binI .geq, [.t 9, .t 12], (some (7, true))⟩,
  ⟨(some 14), .mov, [.t 13], (some (7, true))⟩,
  ⟨(some 15), .fadr 3, [.t 2], (some (14, false))⟩,
  ⟨(some 16), .load1, [.t 15], (some (14, false))⟩,
  ⟨(some 17), .lenL, [.t 16], (some (14, false))⟩,
  ⟨(some 18), .fadr 0, [.t 1], (some (14, false))⟩,
  ⟨(some 19), .load1, [.t 18], (some (14, false))⟩,
  ⟨(some 20), .fadr 1, [.t 2], (some (14, false))⟩,
  ⟨(some 21), .load1, [.t 20], (some (14, false))⟩,
  ⟨(some 22), .iadr 2, [.t 19, .t 21], (some (14, false))⟩,
  ⟨(some 23), .fadr 0, [.t 22], (some (14, false))⟩,
  ⟨(some 24), .load1, [.t 23], (some (14, false))⟩,
  ⟨(some 25), .binI .neq, [.t 17, .t 24], (some (14, false))⟩,
  ⟨(some 26), .pick, [.t 14, .c (.bool true), .t 25], (some (7, true))⟩,
  ⟨(some 27), .pick, [.t 7, .t 26, .c (.bool false)], none⟩,
  ⟨(some 3), .mov, [.t 27], none⟩]
  [.op 0, .op 1, .op 2, .op 3, .op 4, .op 5, .op 6, .op 7, .op 8, .op 9, .op 10, .op 11, .op 12, .op 13, .op 14, .op 15, .op 16, .op 17, .op 18, .op 19, .op 20, .op 21, .op 22, .op 23, .op 24]) <|
 .ret

/- sleuth/expr.May -/
def s187_expr_May : SFn := .src 106 [0, 1, 2, 3, 4, 5, 6, 7, 8, 9, 25, 27, 28, 29, 35, 36, 73, 74, 75, 76, 77, 79] [.tmp 2] <|
 .seq (.reg [
  .set 1 (.op (some 1) (.box 0) [(.v 0 none)]),
  .set 2 (.op (some 2) .mov [(.k (.bool false))])]) <|
 .seq (.reg [
  .set 3 (.op (some 3) .mov [(.op (some 13) (.binI .sub) [(.op (some 12) .lenL [(.op (some 11) .load1 [(.op (some 10) (.fadr 1) [(.v 1 none)])])]), (.k (.int .i64 1))])])]) <|
 .seq (.ifr [] (.or 18 22 (.op (some 17) .notB [(.op (some 16) (.call 212) [(.op (some 15) .load1 [(.op (some 14) (.fadr 0) [(.v 1 none)])]), (.k (.int .i64 3))])]) (.op (some 21) .notB [(.op (some 20) (.call 212) [(.v 3 (some 19)), (.k (.int .i64 23))])]))
  (.seq (.reg [
   .set 2 (.op (some 2) .mov [(.k (.bool false))])]) <|
  .ret)
  (.skip)) <|
 .seq (.reg [
  .set 10 (.op (some 25) .lenL [(.op (some 24) .load1 [(.op (some 23) (.fadr 1) [(.v 1 none)])])]),
  .set 4 (.op (some 4) .mov [(.op (some 26) (.mkslice 0 [(.int .i64 0)] 8) [(.v 10 none), (.v 10 none)])])]) <|
 .seq (.seq (.reg [
  .set 11 (.op (some 27) .mov [(.v 3 none)]),
  .set 12 (.op (some 28) .mov [(.k (.int .i64 0))])]) <|
 .block 0 <|
  .loop [1, 3, 4, 11, 12] <|
   .seq (.reg [
    .set 13 (.op (some 29) (.binI .lss) [(.v 12 none), (.v 11 none)])]) <|
   .seq (.cond (.t 13)
    (.skip)
    (.exit 0)) <|
   .seq (.block 1 <|
    .seq (.reg [
     .set 5 (.op (some 5) .mov [(.v 12 (some 30))])]) <|
    .reg [
     .ef (.op none (.store 1) [(.op (some 33) (.iadr 1) [(.v 4 (some 31)), (.v 5 (some 32))]), (.k (.int .i64 (-1)))])]) <|
   .reg [
    .set 12 (.op (some 28) .mov [(.op (some 34) (.binI .add) [(.v 12 none), (.k (.int .i64 1))])])]) <|
 .seq (.reg [
  .set 14 (.op (some 35) .mov [(.v 4 none)]),
  .set 15 (.op (some 36) .mov [(.v 3 none)]),
  .ef (.opr none (.store 1) (.op (some 39) (.iadr 1) [(.v 14 none), (.v 15 none)]) (.op (some 38) .load1 [(.op (some 37) (.fadr 0) [(.v 1 none)])]))]) <|
 .seq (.seq (.reg [
  .set 6 (.op (some 6) .mov [(.v 3 (some 40))])]) <|
 .block 2 <|
  .loop [1, 4, 6] <|
   .seq (.ifr [] (.op (some 42) (.binI .geq) [(.v 6 (some 41)), (.k (.int .i64 0))])
    (.skip)
    (.exit 2)) <|
   .seq (.block 3 <|
    .seq (.reg [
     .set 7 (.op (some 7) .mov [(.op (some 48) (.iadr 4) [(.op (some 46) .load1 [(.op (some 45) (.fadr 1) [(.v 1 none)])]), (.v 6 (some 47))])])]) <|
    .seq (.ifr [] (.or 61 69 (.or 54 60 (.op (some 53) (.binI .eql) [(.op (some 52) .load1 [(.op (some 51) (.iadr 1) [(.v 4 (some 49)), (.v 6 (some 50))])]), (.k (.int .i64 (-1)))]) (.op (some 59) (.binI .gtr) [(.op (some 58) .load1 [(.op (some 57) (.iadr 1) [(.v 4 (some 55)), (.v 6 (some 56))])]), (.k (.int .i64 8))])) (.op (some 68) .notB [(.op (some 67) (.call 213) [(.v 7 (some 62)), (.op (some 66) .load1 [(.op (some 65) (.iadr 1) [(.v 4 (some 63)), (.v 6 (some 64))])])])]))
     (.seq (.reg [
      .set 2 (.op (some 2) .mov [(.k (.bool false))])]) <|
     .ret)
     (.skip)) <|
    .seq (.reg [
     .set 16 (.op (some 73) .load1 [(.op (some 72) (.fadr 3) [(.op (some 71) .nilCheck [(.v 7 (some 70))])])]),
     .set 17 (.op (some 74) .lenL [(.v 16 none)]),
     .set 18 (.op (some 75) .mov [(.k (.int .i64 0))])]) <|
    .block 4 <|
     .loop [1, 4, 6, 7, 16, 17, 18] <|
      .seq (.reg [
       .set 19 (.op (some 76) (.binI .lss) [(.v 18 none), (.v 17 none)])]) <|
      .seq (.cond (.t 19)
       (.skip)
       (.exit 4)) <|
      .seq (.block 5 <|
       .seq (.reg [
        .set 20 (.op (some 77) .mov [(.v 18 none)]),
        .set 21 (.op (some 79) .load1 [(.op (some 78) (.iadr 1) [(.v 16 none), (.v 18 none)])]),
        .set 8 (.op (some 8) .mov [(.v 20 none)]),
        .set 9 (.op (some 9) .mov [(.v 21 none)])]) <|
       .seq (.ifr [] (.or 87 93 (.or 82 86 (.op (some 81) (.binI .lss) [(.v 9 (some 80)), (.k (.int .i64 0))]) (.op (some 85) (.binI .geq) [(.v 9 (some 83)), (.v 6 (some 84))])) (.op (some 92) (.binI .neq) [(.op (some 91) .load1 [(.op (some 90) (.iadr 1) [(.v 4 (some 88)), (.v 9 (some 89))])]), (.k (.int .i64 (-1)))]))
        (.seq (.reg [
         .set 2 (.op (some 2) .mov [(.k (.bool false))])]) <|
        .ret)
        (.skip)) <|
       .dreg [94, 95, 96, 97, 98, 99, 100, 101, 102, 103, 104] [
        ⟨(some 22), .mov, [.t 4], none⟩,
        ⟨(some 23), .mov, [.t 9], none⟩,
        ⟨(some 24), .mov, [.t 4], none⟩,
        ⟨(some 25), .mov, [.t 6], none⟩,
        ⟨(some 26), .iadr 1, [.t 24, .t 25], none⟩,
        ⟨(some 27), .load1, [.t 26], none⟩,
        ⟨(some 28), .mov, [.t 7], none⟩,
        ⟨(some 29), .mov, [.t 8], none⟩,
        ⟨(some 30), .call 214, [.t 28, .t 29], none⟩,
        ⟨(some 31), .binI .add, [.t 27, .t 30], none⟩,
        ⟨(some 32), .iadr 1, [.t 22, .t 23], none⟩,
        ⟨none, .store 1, [.t 32, .t 31], none⟩]
        [.op 0, .op 1, .op 2, .op 3, .op 4, .op 5, .op 6, .op 7, .op 8, .chk 5, .op 9, .op 10, .op 11]) <|
      .reg [
       .set 18 (.op (some 75) .mov [(.op (some 105) (.binI .add) [(.v 18 none), (.k (.int .i64 1))])])]) <|
   .reg [
    .set 6 (.op (some 6) .mov [(.op (some 44) (.binI .sub) [(.v 6 (some 43)), (.k (.int .i64 1))])])]) <|
 .seq (.reg [
  .set 2 (.op (some 2) .mov [(.k (.bool true))])]) <|
 .ret

/- slices.ContainsFunc[[]sleuth/api.Expr,sleuth/api.Expr] -/
def s188_slices_ContainsFunc___api_Expr_api_Expr_ : SFn := .src 9 [0, 1, 4] [.tmp 2] <|
 .seq (.reg [
  .set 2 (.op (some 4) .mov [(.k (.bool false))])]) <|
 .seq (.reg [
  .set 2 (.op (some 4) .mov [(.op (some 8) (.binI .geq) [(.op (some 7) (.call 215) [(.v 0 (some 5)), (.v 1 (some 6))]), (.k (.int .i64 0))])])]) <|
 .ret

/- (*sleuth/need.machine).part -/
def s189___need_machine__part : SFn := .src 183 [0, 1, 2, 6, 7, 8, 14, 26, 42, 112, 130] [.cellN 3 3] <|
 .seq (.reg [
  .set 3 (.op (some 6) (.alloc 0 [(.int .i64 0), (.int .i64 0), .nils]) [])]) <|
 .seq (.block 0 <|
  .loop [0, 1, 2, 3] <|
   .seq (.ifr [] (.op (some 13) .notB [(.op (some 12) .load1 [(.op (some 11) (.fadr 3) [(.op (some 10) .nilCheck [(.v 0 (some 9))])])])])
    (.skip)
    (.exit 0)) <|
   .block 1 <|
    .seq (.seq (.reg [
     .set 6 (.op (some 14) .mov [(.v 0 none)]),
     .ef (.opr none (.store 1) (.op (some 21) (.fadr 3) [(.op (some 20) .nilCheck [(.v 6 none)])]) (.op (some 19) (.binI .eql) [(.op (some 18) .load1 [(.op (some 17) (.fadr 1) [(.op (some 16) .nilCheck [(.v 0 (some 15))])])]), (.k (.int .i64 0))]))]) <|
    .ifr [] (.op (some 25) .load1 [(.op (some 24) (.fadr 3) [(.op (some 23) .nilCheck [(.v 0 (some 22))])])])
     (.exit 0)
     (.skip)) <|
    .seq (.reg [
     .set 7 (.op (some 26) .mov [(.v 0 none)]),
     .ef (.opr none (.store 1) (.op (some 32) (.fadr 1) [(.op (some 31) .nilCheck [(.v 7 none)])]) (.op (some 30) (.binI .sub) [(.op (some 29) .load1 [(.op (some 28) (.fadr 1) [(.op (some 27) .nilCheck [(.v 7 none)])])]), (.k (.int .i64 1))]))]) <|
    .seq (.reg [
     .set 4 (.op (some 7) .mov [(.op (some 38) (.iadr 4) [(.op (some 36) .load1 [(.op (some 35) (.fadr 0) [(.op (some 34) .nilCheck [(.v 1 (some 33))])])]), (.v 2 (some 37))])])]) <|
    .seq (.reg [
     .set 8 (.op (some 42) .load1 [(.op (some 41) (.fadr 0) [(.op (some 40) .nilCheck [(.v 4 (some 39))])])])]) <|
    .block 2 <|
     .ifr [] (.op (some 44) .mov [(.op (some 45) (.binI .eql) [(.v 8 none), (.k (.int .i64 0))])])
      (.seq (.reg [
       .ef (.op none (.store 3) [(.v 3 none), (.op (some 50) (.build [(.int .i64 0), (.int .i64 0), .nils] [(0, 1), (1, 1)]) [(.k (.int .i64 1)), (.op (some 49) .load1 [(.op (some 48) (.fadr 1) [(.op (some 47) .nilCheck [(.v 4 (some 46))])])])])])]) <|
      .ret)
      (.ifr [] (.op (some 51) .mov [(.op (some 52) (.binI .eql) [(.v 8 none), (.k (.int .i64 1))])])
       (.seq (.dreg [53, 54, 55, 56, 57, 58, 59, 60, 61, 62, 63, 64] [
        ⟨(some 11), .mov, [.t 0], none⟩,
        ⟨(some 12), .mov, [.t 1], none⟩,
        ⟨(some 13), .nilCheck, [.t 12], none⟩,
        ⟨(some 14), .fadr 1, [.t 13], none⟩,
        ⟨(some 15), .load1, [.t 14], none⟩,
        ⟨(some 16), .mov, [.t 4], none⟩,
        ⟨(some 17), .nilCheck, [.t 16], none⟩,
        ⟨(some 18), .fadr 1, [.t 17], none⟩,
        ⟨(some 19), .load1, [.t 18], none⟩,
        ⟨(some 20), .iadr 1, [.t 15, .t 19], none⟩,
        ⟨(some 21), .load1, [.t 20], none⟩,
        ⟨(some 22), .call 190, [.t 11, .t 21], none⟩,
        ⟨none, .store 3, [.t 3, .t 22], none⟩]
        [.op 0, .op 1, .op 2, .op 3, .op 4, .op 5, .op 6, .op 7, .op 8, .op 9, .op 10, .op 11, .op 12]) <|
       .ret)
       (.ifr [] (.op (some 65) .mov [(.op (some 66) (.binI .eql) [(.v 8 none), (.k (.int .i64 2))])])
        (.seq (.dreg [67, 68, 69, 70, 71, 72, 73, 74, 75, 76, 77, 78, 79, 80, 81, 82] [
         ⟨(some 11), .mov, [.t 0], none⟩,
         ⟨(some 12), .mov, [.t 4], none⟩,
         ⟨(some 13), .nilCheck, [.t 12], none⟩,
         ⟨(some 14), .fadr 1, [.t 13], none⟩,
         ⟨(some 15), .load1, [.t 14], none⟩,
         ⟨(some 16), .mov, [.t 1], none⟩,
         ⟨(some 17), .nilCheck, [.t 16], none⟩,
         ⟨(some 18), .fadr 2, [.t 17], none⟩,
         ⟨(some 19), .load1, [.t 18], none⟩,
         ⟨(some 20), .mov, [.t 1], none⟩,
         ⟨(some 21), .mov, [.t 4], none⟩,
         ⟨(some 22), .nilCheck, [.t 21], none⟩,
         ⟨(some 23), .fadr 3, [.t 22], none⟩,
         ⟨(some 24), .load1, [.t 23], none⟩,
         ⟨(some 25), .call 216, [.t 20, .t 24], none⟩,
         ⟨(some 26), .call 158, [.t 11, .t 15, .t 19, .t 25], none⟩,
         ⟨none, .store 3, [.t 3, .t 26], none⟩]
         [.op 0, .op 1, .op 2, .op 3, .op 4, .op 5, .op 6, .op 7, .op 8, .op 9, .op 10, .op 11, .op 12, .op 13, .op 14, .chk 8, .chk 4, .op 15, .op 16]) <|
        .ret)
        (.ifr [] (.op (some 83) .mov [(.op (some 84) (.binI .eql) [(.v 8 none), (.k (.int .i64 3))])])
         (.seq (.dreg [85, 86, 87, 88, 89, 90, 91, 92, 93, 94, 95] [
          ⟨(some 11), .mov, [.t 4], none⟩,
          ⟨(some 12), .nilCheck, [.t 11], none⟩,
          ⟨(some 13), .fadr 1, [.t 12], none⟩,
          ⟨(some 14), .load1, [.t 13], none⟩,
          ⟨(some 15), .mov, [.t 1], none⟩,
          ⟨(some 16), .mov, [.t 4], none⟩,
          ⟨(some 17), .nilCheck, [.t 16], none⟩,
          ⟨(some 18), .fadr 3, [.t 17], none⟩,
          ⟨(some 19), .load1, [.t 18], none⟩,
          ⟨(some 20), .call 216, [.t 15, .t 19], none⟩,
          ⟨(some 21), .build [(.int .i64 0), (.int .i64 0), .nils] [(0, 1), (1, 1), (2, 1)], [.c (.int .i64 2), .t 14, .t 20], none⟩,
          ⟨none, .store 3, [.t 3, .t 21], none⟩]
          [.op 0, .op 1, .op 2, .op 3, .op 4, .op 5, .op 6, .op 7, .op 8, .op 9, .chk 3, .op 10, .op 11]) <|
         .ret)
         (.ifr [] (.op (some 96) .mov [(.op (some 97) (.binI .eql) [(.v 8 none), (.k (.int .i64 4))])])
          (.seq (.reg [
           .ef (.op none (.store 3) [(.v 3 none), (.op (some 101) (.call 217) [(.v 0 (some 98)), (.v 1 (some 99)), (.v 4 (some 100))])])]) <|
          .ret)
          (.ifr [] (.op (some 102) .mov [(.op (some 103) (.binI .eql) [(.v 8 none), (.k (.int .i64 5))])])
           (.seq (.reg [
            .set 9 (.op (some 112) (.call 189) [(.v 0 (some 104)), (.v 1 (some 105)), (.op (some 111) .load1 [(.op (some 110) (.iadr 1) [(.op (some 109) .load1 [(.op (some 108) (.fadr 3) [(.op (some 107) .nilCheck [(.v 4 (some 106))])])]), (.k (.int .i64 0))])])]),
            .set 5 (.op (some 8) (.alloc 0 [(.int .i64 0), (.int .i64 0), .nils]) []),
            .ef (.op none (.store 3) [(.v 5 none), (.v 9 none)])]) <|
           .block 3 <|
            .ifr [] (.op (some 119) .mov [(.or 124 128 (.op (some 123) .load1 [(.op (some 122) (.fadr 3) [(.op (some 121) .nilCheck [(.v 0 (some 120))])])]) (.op (some 127) (.binI .eql) [(.op (some 126) .load1 [(.op (some 125) (.fadr 0) [(.v 5 none)])]), (.k (.int .i64 3))]))])
             (.seq (.reg [
              .ef (.op none (.store 3) [(.v 3 none), (.op (some 129) (.loadN 3) [(.v 5 none)])])]) <|
             .ret)
             (.seq (.dreg [131, 132, 133, 134, 135, 136, 137, 138, 139, 140, 141, 142, 143, 144, 145, 146, 147, 148, 149, 150, 151, 152] [
              ⟨(some 11), .fadr 0, [.t 5], none⟩,
              ⟨(some 12), .load1, [.t 11], none⟩,
              ⟨(some 13), .binI .eql, [.t 12, .c (.int .i64 2)], none⟩,
              ⟨(some 14), .mov, [.t 13], none⟩,
              ⟨(some 15), .fadr 1, [.t 5], (some (14, true))⟩,
              ⟨(some 16), .load1, [.t 15], (some (14, true))⟩,
              ⟨(some 17), .mov, [.t 4], (some (14, true))⟩,
              ⟨(some 18), .nilCheck, [.t 17], (some (14, true))⟩,
              ⟨(some 19), .fadr 1, [.t 18], (some (14, true))⟩,
              ⟨(some 20), .load1, [.t 19], (some (14, true))⟩,
              ⟨(some 21), .binI .eql, [.t 16, .t 20], (some (14, true))⟩,
              ⟨(some 22), .pick, [.t 14, .t 21, .c (.bool false)], none⟩,
              ⟨(some 23), .mov, [.t 22], none⟩,
              ⟨(some 24), .fadr 2, [.t 5], (some (23, true))⟩,
              ⟨(some 25), .load1, [.t 24], (some (23, true))⟩,
              ⟨(some 26), .lenL, [.t 25], (some (23, true))⟩,
              ⟨(some 27), .mov, [.t 4], (some (23, true))⟩,
              ⟨(some 28), .nilCheck, [.t 27], (some (23, true))⟩,
              ⟨(some 29), .fadr 2, [.t 28], (some (23, true))⟩,
              ⟨(some 30), .load1, [.t 29], (some (23, true))⟩,
              ⟨(some 31), .binI .eql, [.t 26, .t 30], (some (23, true))⟩,
              ⟨(some 32), .pick, [.t 23, .t 31, .c (.bool false)], none⟩,
              ⟨(some 10), .mov, [.t 32], none⟩]
              [.op 0, .op 1, .op 2, .op 3, .op 4, .op 5, .op 6, .op 7, .op 8, .op 9, .op 10, .op 11, .op 12, .op 13, .op 14, .op 15, .op 16, .op 17, .op 18, .op 19, .op 20, .op 21, .op 22]) <|
             .cond (.t 10)
              (.dreg [153, 154, 155, 156, 157, 158, 159, 160, 161, 162] [
               ⟨(some 11), .mov, [.t 1], none⟩,
               ⟨(some 12), .fadr 2, [.t 5], none⟩,
               ⟨(some 13), .load1, [.t 12], none⟩,
               ⟨(some 14), .call 218, [.t 11, .t 13], none⟩,
               ⟨(some 15), .mov, [.t 4], none⟩,
               ⟨(some 16), .nilCheck, [.t 15], none⟩,
               ⟨(some 17), .fadr 3, [.t 16], none⟩,
               ⟨(some 18), .load1, [.t 17], none⟩,
               ⟨(some 19), .iadr 1, [.t 18, .c (.int .i64 1)], none⟩,
               ⟨(some 20), .load1, [.t 19], none⟩,
               ⟨(some 1), .mov, [.t 14], none⟩,
               ⟨(some 2), .mov, [.t 20], none⟩]
               [.op 0, .op 1, .op 2, .op 4, .op 5, .op 6, .op 7, .op 8, .op 9, .op 3, .chk 9, .chk 7, .op 10, .op 11])
              (.reg [
               .set 2 (.op (some 2) .mov [(.op (some 118) .load1 [(.op (some 117) (.iadr 1) [(.op (some 116) .load1 [(.op (some 115) (.fadr 3) [(.op (some 114) .nilCheck [(.v 4 (some 113))])])]), (.k (.int .i64 2))])])])])))
           (.ifr [] (.op (some 163) .mov [(.op (some 164) (.binI .eql) [(.v 8 none), (.k (.int .i64 6))])])
            (.dreg [165, 166, 167, 168, 169, 170, 171, 172, 173, 174, 175, 176, 177, 178, 179, 180, 181] [
             ⟨(some 11), .mov, [.t 1], none⟩,
             ⟨(some 12), .mov, [.t 1], none⟩,
             ⟨(some 13), .mov, [.t 4], none⟩,
             ⟨(some 14), .nilCheck, [.t 13], none⟩,
             ⟨(some 15), .fadr 3, [.t 14], none⟩,
             ⟨(some 16), .load1, [.t 15], none⟩,
             ⟨(some 17), .iadr 1, [.t 16, .c (.int .i64 0)], none⟩,
             ⟨(some 18), .load1, [.t 17], none⟩,
             ⟨(some 19), .call 219, [.t 12, .t 18], none⟩,
             ⟨(some 20), .bslice 0 [.nilp] 1 [(0, 1)], [.t 19], none⟩,
             ⟨(some 21), .call 218, [.t 11, .t 20], none⟩,
             ⟨(some 22), .mov, [.t 4], none⟩,
             ⟨(some 23), .nilCheck, [.t 22], none⟩,
             ⟨(some 24), .fadr 3, [.t 23], none⟩,
             ⟨(some 25), .load1, [.t 24], none⟩,
             ⟨(some 26), .iadr 1, [.t 25, .c (.int .i64 1)], none⟩,
             ⟨(some 27), .load1, [.t 26], none⟩,
             ⟨(some 1), .mov, [.t 21], none⟩,
             ⟨(some 2), .mov, [.t 27], none⟩]
             [.op 0, .op 1, .op 2, .op 3, .op 4, .op 5, .op 6, .op 7, .op 11, .op 12, .op 13, .op 14, .op 15, .op 16, .op 8, .chk 16, .chk 14, .op 9, .chk 16, .chk 14, .op 10, .chk 16, .chk 14, .op 17, .op 18])
            (.seq (.reg [
             .ef (.op none (.store 3) [(.v 3 none), (.op (some 43) (.build [(.int .i64 0), (.int .i64 0), .nils] [(0, 1)]) [(.k (.int .i64 3))])])]) <|
            .ret)))))))) <|
 .seq (.reg [
  .ef (.op none (.store 3) [(.v 3 none), (.op (some 182) (.build [(.int .i64 0), (.int .i64 0), .nils] []) [])])]) <|
 .ret

/- (*sleuth/need.machine).force -/
def s190___need_machine__force : SFn := .src 47 [0, 1, 4, 5, 36, 37] [.cellN 2 3] <|
 .seq (.reg [
  .set 2 (.op (some 4) (.alloc 0 [(.int .i64 0), (.int .i64 0), .nils]) [])]) <|
 .seq (.ifr [] (.op (some 10) .notB [(.op (some 9) .load1 [(.op (some 8) (.fadr 4) [(.op (some 7) .nilCheck [(.v 1 (some 6))])])])])
  (.seq (.dreg [11, 12, 13, 14, 15, 16, 17, 18, 19, 20, 21, 22, 23, 24, 25, 26, 27, 28, 29, 30] [
   ⟨(some 6), .mov, [.t 0], none⟩,
   ⟨(some 7), .mov, [.t 1], none⟩,
   ⟨(some 8), .nilCheck, [.t 7], none⟩,
   ⟨(some 9), .fadr 0, [.t 8], none⟩,
   ⟨(some 10), .load1, [.t 9], none⟩,
   ⟨(some 11), .mov, [.t 1], none⟩,
   ⟨(some 12), .nilCheck, [.t 11], none⟩,
   ⟨(some 13), .fadr 2, [.t 12], none⟩,
   ⟨(some 14), .load1, [.t 13], none⟩,
   ⟨(some 15), .mov, [.t 1], none⟩,
   ⟨(some 16), .nilCheck, [.t 15], none⟩,
   ⟨(some 17), .fadr 3, [.t 16], none⟩,
   ⟨(some 18), .load1, [.t 17], none⟩,
   ⟨(some 19), .build [.nils, .nils, (.int .i64 0)] [(0, 1), (1, 1), (2, 1)], [.t 10, .t 14, .t 18], none⟩,
   ⟨(some 20), .box 0, [.t 19], none⟩,
   ⟨(some 21), .mov, [.t 1], none⟩,
   ⟨(some 22), .nilCheck, [.t 21], none⟩,
   ⟨(some 23), .fadr 1, [.t 22], none⟩,
   ⟨(some 24), .load1, [.t 23], none⟩,
   ⟨(some 25), .call 189, [.t 6, .t 20, .t 24], none⟩,
   ⟨(some 3), .alloc 0 [(.int .i64 0), (.int .i64 0), .nils], [], none⟩,
   ⟨none, .store 3, [.t 3, .t 25], none⟩]
   [.op 0, .op 1, .op 2, .op 3, .op 4, .op 5, .op 6, .op 7, .op 8, .op 9, .op 10, .op 11, .op 12, .op 13, .op 15, .op 16, .op 17, .op 18, .op 14, .chk 18, .op 19, .op 20, .chk 18, .chk 12, .chk 8, .chk 4, .op 21]) <|
  .ifr [] (.op (some 35) .notB [(.op (some 34) .load1 [(.op (some 33) (.fadr 3) [(.op (some 32) .nilCheck [(.v 0 (some 31))])])])])
   (.reg [
    .set 4 (.op (some 36) .mov [(.v 1 none)]),
    .set 5 (.op (some 37) .mov [(.v 1 none)]),
    .ef (.opr none (.store 3) (.op (some 40) (.fadr 5) [(.op (some 39) .nilCheck [(.v 4 none)])]) (.op (some 38) (.loadN 3) [(.v 3 none)])),
    .ef (.op none (.store 1) [(.op (some 42) (.fadr 4) [(.op (some 41) .nilCheck [(.v 5 none)])]), (.k (.bool true))])])
   (.skip))
  (.skip)) <|
 .seq (.reg [
  .ef (.op none (.store 3) [(.v 2 none), (.op (some 46) (.loadN 3) [(.op (some 45) (.fadr 5) [(.op (some 44) .nilCheck [(.v 1 (some 43))])])])])]) <|
 .ret

/- (*sleuth/need.cell).long -/
def s191___need_cell__long : SFn := .src 97 [0, 2, 4, 5, 20, 21, 22, 23, 46, 83] [.tmp 1] <|
 .seq (.reg [
  .set 1 (.op (some 2) .mov [(.k (.int .i64 0))])]) <|
 .seq (.block 0 <|
  .ifr [] (.op (some 53) .mov [(.op (some 58) (.binI .gtr) [(.op (some 57) .load1 [(.op (some 56) (.fadr 9) [(.op (some 55) .nilCheck [(.v 0 (some 54))])])]), (.k (.int .i64 0))])])
   (.skip)
   (.ifr [] (.op (some 59) .mov [(.or 65 72 (.op (some 64) .notB [(.op (some 63) .load1 [(.op (some 62) (.fadr 4) [(.op (some 61) .nilCheck [(.v 0 (some 60))])])])]) (.op (some 71) (.binI .eql) [(.op (some 70) .load1 [(.op (some 69) (.fadr 0) [(.op (some 68) (.fadr 5) [(.op (some 67) .nilCheck [(.v 0 (some 66))])])])]), (.k (.int .i64 3))]))])
    (.reg [
     .ef (.op none (.store 1) [(.op (some 75) (.fadr 9) [(.op (some 74) .nilCheck [(.v 0 (some 73))])]), (.k (.int .i64 1))])])
    (.ifr [] (.op (some 76) .mov [(.op (some 82) (.binI .eql) [(.op (some 81) .load1 [(.op (some 80) (.fadr 0) [(.op (some 79) (.fadr 5) [(.op (some 78) .nilCheck [(.v 0 (some 77))])])])]), (.k (.int .i64 1))])])
     (.reg [
      .set 9 (.op (some 83) .mov [(.v 0 none)]),
      .ef (.opr none (.store 1) (.op (some 92) (.fadr 9) [(.op (some 91) .nilCheck [(.v 9 none)])]) (.op (some 90) .lenS [(.op (some 89) (.call 29) [(.op (some 88) .load1 [(.op (some 87) (.fadr 1) [(.op (some 86) (.fadr 5) [(.op (some 85) .nilCheck [(.v 0 (some 84))])])])])])]))])
     (.seq (.reg [
      .set 3 (.op (some 5) .mov [(.v 0 none)]),
      .ef (.opr none (.store 1) (.op (some 15) (.fadr 9) [(.op (some 14) .nilCheck [(.v 3 none)])]) (.op (some 13) (.binI .add) [(.op (some 12) .lenS [(.op (some 11) (.call 27) [(.op (some 10) .load1 [(.op (some 9) (.fadr 1) [(.op (some 8) (.fadr 5) [(.op (some 7) .nilCheck [(.v 0 (some 6))])])])]), (.k .nils)])]), (.k (.int .i64 1))]))]) <|
     .seq (.seq (.reg [
      .set 4 (.op (some 20) .load1 [(.op (some 19) (.fadr 2) [(.op (some 18) (.fadr 5) [(.op (some 17) .nilCheck [(.v 0 (some 16))])])])]),
      .set 5 (.op (some 21) .lenL [(.v 4 none)]),
      .set 6 (.op (some 22) .mov [(.k (.int .i64 0))])]) <|
     .block 1 <|
      .loop [0, 4, 5, 6] <|
       .seq (.reg [
        .set 7 (.op (some 23) (.binI .lss) [(.v 6 none), (.v 5 none)])]) <|
       .seq (.cond (.t 7)
        (.skip)
        (.exit 1)) <|
       .seq (.block 2 <|
        .seq (.reg [
         .set 2 (.op (some 4) .mov [(.op (some 25) .load1 [(.op (some 24) (.iadr 1) [(.v 4 none), (.v 6 none)])])])]) <|
        .dreg [26, 27, 28, 29, 30, 31, 32, 33, 34, 35, 36, 37] [
         ⟨(some 10), .mov, [.t 0], none⟩,
         ⟨(some 11), .mov, [.t 0], none⟩,
         ⟨(some 12), .nilCheck, [.t 11], none⟩,
         ⟨(some 13), .fadr 9, [.t 12], none⟩,
         ⟨(some 14), .load1, [.t 13], none⟩,
         ⟨(some 15), .mov, [.t 2], none⟩,
         ⟨(some 16), .call 191, [.t 15], none⟩,
         ⟨(some 17), .binI .add, [.t 14, .t 16], none⟩,
         ⟨(some 18), .binI .add, [.t 17, .c (.int .i64 1)], none⟩,
         ⟨(some 19), .minI, [.t 18, .c (.int .i64 1025)], none⟩,
         ⟨(some 20), .nilCheck, [.t 10], none⟩,
         ⟨(some 21), .fadr 9, [.t 20], none⟩,
         ⟨none, .store 1, [.t 21, .t 19], none⟩]
         [.op 0, .op 1, .op 2, .op 3, .op 4, .op 5, .op 6, .chk 4, .op 7, .op 8, .op 9, .op 10, .op 11, .op 12]) <|
       .reg [
        .set 6 (.op (some 22) .mov [(.op (some 38) (.binI .add) [(.v 6 none), (.k (.int .i64 1))])])]) <|
     .ifr [] (.op (some 45) (.binI .eql) [(.op (some 44) .lenL [(.op (some 43) .load1 [(.op (some 42) (.fadr 2) [(.op (some 41) (.fadr 5) [(.op (some 40) .nilCheck [(.v 0 (some 39))])])])])]), (.k (.int .i64 0))])
      (.reg [
       .set 8 (.op (some 46) .mov [(.v 0 none)]),
       .ef (.opr none (.store 1) (.op (some 52) (.fadr 9) [(.op (some 51) .nilCheck [(.v 8 none)])]) (.op (some 50) (.binI .sub) [(.op (some 49) .load1 [(.op (some 48) (.fadr 9) [(.op (some 47) .nilCheck [(.v 8 none)])])]), (.k (.int .i64 1))]))])
      (.skip))))) <|
 .seq (.reg [
  .set 1 (.op (some 2) .mov [(.op (some 96) .load1 [(.op (some 95) (.fadr 9) [(.op (some 94) .nilCheck [(.v 0 (some 93))])])])])]) <|
 .ret

/- (*sleuth/sleuthref1.reader).open -/
def s199___sleuthref1_reader__open : SFn := .src 116 [0, 2, 3, 4, 5, 6, 7, 8, 9, 10, 11, 12, 13, 96] [.tmp 1] <|
 .seq (.reg [
  .set 1 (.op (some 2) .mov [(.k (.int .i64 0))])]) <|
 .seq (.reg [
  .set 2 (.op (some 3) .mov [(.op (some 15) (.call 176) [(.v 0 (some 14))])])]) <|
 .seq (.ifr [] (.or 20 23 (.op (some 19) .load1 [(.op (some 18) (.fadr 1) [(.op (some 17) .nilCheck [(.v 0 (some 16))])])]) (.op (some 22) (.binS .eql) [(.v 2 (some 21)), (.k (.str []))]))
  (.seq (.reg [
   .ef (.op none (.store 1) [(.op (some 26) (.fadr 1) [(.op (some 25) .nilCheck [(.v 0 (some 24))])]), (.k (.bool true))])]) <|
  .seq (.reg [
   .set 1 (.op (some 2) .mov [(.k (.int .i64 0))])]) <|
  .ret)
  (.skip)) <|
 .seq (.block 0 <|
  .ifr [] (.op (some 27) .mov [(.op (some 30) (.binI .geq) [(.op (some 29) (.call 224) [(.v 2 (some 28))]), (.k (.int .i64 0))])])
   (.seq (.reg [
    .set 3 (.op (some 4) .mov [(.op (some 32) (.call 225) [(.v 0 (some 31)), (.k (.int .i64 2))])])]) <|
   .seq (.reg [
    .set 1 (.op (some 2) .mov [(.op (some 38) (.call 200) [(.v 0 (some 33)), (.op (some 37) (.build [(.int .i64 0), (.int .i64 0), (.int .i64 0), .nils] [(0, 1), (1, 1), (3, 1)]) [(.k (.int .i64 4)), (.op (some 35) (.call 224) [(.v 2 (some 34))]), (.v 3 (some 36))])])])]) <|
   .ret)
   (.ifr [] (.op (some 39) .mov [(.op (some 41) (.binS .eql) [(.v 2 (some 40)), (.k (.str [99, 97, 115, 101]))])])
    (.seq (.reg [
     .set 4 (.op (some 5) .mov [(.op (some 43) (.call 178) [(.v 0 (some 42))])])]) <|
    .seq (.reg [
     .set 5 (.op (some 6) .mov [(.op (some 47) (.call 201) [(.v 0 (some 44)), (.op (some 46) (.call 176) [(.v 0 (some 45))]), (.k (.int .u8 64)), (.k (.int .i64 99))])])]) <|
    .seq (.reg [
     .set 6 (.op (some 7) .mov [(.op (some 51) (.call 177) [(.v 0 (some 48)), (.op (some 50) (.call 176) [(.v 0 (some 49))]), (.k (.int .i64 3))])])]) <|
    .seq (.reg [
     .set 7 (.op (some 8) .mov [(.op (some 53) (.bslice 0 [(.int .i64 0)] 1 [(0, 1)]) [(.v 4 (some 52))])])]) <|
    .seq (.reg [
     .set 7 (.op (some 8) .mov [(.op (some 57) (.app 0 1 8) [(.v 7 (some 54)), (.op (some 56) (.call 225) [(.v 0 (some 55)), (.k (.int .i64 2))])])])]) <|
    .seq (.reg [
     .set 1 (.op (some 2) .mov [(.op (some 63) (.call 200) [(.v 0 (some 58)), (.op (some 62) (.build [(.int .i64 0), (.int .i64 0), (.int .i64 0), .nils] [(0, 1), (1, 1), (2, 1), (3, 1)]) [(.k (.int .i64 5)), (.v 5 (some 59)), (.v 6 (some 60)), (.v 7 (some 61))])])])]) <|
    .ret)
    (.ifr [] (.op (some 64) .mov [(.op (some 66) (.binS .eql) [(.v 2 (some 65)), (.k (.str [108, 101, 116]))])])
     (.seq (.reg [
      .set 8 (.op (some 9) .mov [(.op (some 68) (.call 225) [(.v 0 (some 67)), (.k (.int .i64 2))])])]) <|
     .seq (.reg [
      .set 1 (.op (some 2) .mov [(.op (some 72) (.call 200) [(.v 0 (some 69)), (.op (some 71) (.build [(.int .i64 0), (.int .i64 0), (.int .i64 0), .nils] [(0, 1), (3, 1)]) [(.k (.int .i64 6)), (.v 8 (some 70))])])])]) <|
     .ret)
     (.ifr [] (.op (some 73) .mov [(.op (some 76) (.binI .eql) [(.op (some 75) .idxS [(.v 2 (some 74)), (.k (.int .i64 0))]), (.k (.int .u8 102))])])
      (.seq (.reg [
       .set 9 (.op (some 10) .mov [(.op (some 79) (.call 201) [(.v 0 (some 77)), (.v 2 (some 78)), (.k (.int .u8 102)), (.k (.int .i64 7))])])]) <|
      .seq (.reg [
       .set 10 (.op (some 11) .mov [(.op (some 81) (.call 225) [(.v 0 (some 80)), (.k (.int .i64 3))])])]) <|
      .seq (.reg [
       .set 1 (.op (some 2) .mov [(.op (some 86) (.call 200) [(.v 0 (some 82)), (.op (some 85) (.build [(.int .i64 0), (.int .i64 0), (.int .i64 0), .nils] [(0, 1), (1, 1), (3, 1)]) [(.k (.int .i64 2)), (.v 9 (some 83)), (.v 10 (some 84))])])])]) <|
      .ret)
      (.ifr [] (.op (some 87) .mov [(.op (some 90) (.binI .eql) [(.op (some 89) .idxS [(.v 2 (some 88)), (.k (.int .i64 0))]), (.k (.int .u8 64))])])
       (.seq (.reg [
        .set 11 (.op (some 12) .mov [(.op (some 93) (.call 201) [(.v 0 (some 91)), (.v 2 (some 92)), (.k (.int .u8 64)), (.k (.int .i64 99))])])]) <|
       .seq (.reg [
        .set 12 (.op (some 13) .mov [(.op (some 95) (.call 225) [(.v 0 (some 94)), (.k (.int .i64 3))])])]) <|
       .seq (.reg [
        .set 13 (.op (some 96) .mov [(.v 0 none)]),
        .ef (.opr none (.store 1) (.op (some 107) (.fadr 1) [(.op (some 106) .nilCheck [(.v 13 none)])]) (.or 101 105 (.op (some 100) .load1 [(.op (some 99) (.fadr 1) [(.op (some 98) .nilCheck [(.v 0 (some 97))])])]) (.op (some 104) (.binI .eql) [(.op (some 103) .lenL [(.v 12 (some 102))]), (.k (.int .i64 0))])))]) <|
       .seq (.reg [
        .set 1 (.op (some 2) .mov [(.op (some 112) (.call 200) [(.v 0 (some 108)), (.op (some 111) (.build [(.int .i64 0), (.int .i64 0), (.int .i64 0), .nils] [(0, 1), (1, 1), (3, 1)]) [(.k (.int .i64 3)), (.v 11 (some 109)), (.v 12 (some 110))])])])]) <|
       .ret)
       (.skip)))))) <|
 .seq (.reg [
  .ef (.op none (.store 1) [(.op (some 115) (.fadr 1) [(.op (some 114) .nilCheck [(.v 0 (some 113))])]), (.k (.bool true))])]) <|
 .seq (.reg [
  .set 1 (.op (some 2) .mov [(.k (.int .i64 0))])]) <|
 .ret

/- (*sleuth/sleuthref1.reader).part -/
def s200___sleuthref1_reader__part : SFn := .src 21 [0, 1, 3, 4] [.tmp 3] <|
 .seq (.reg [
  .set 2 (.op (some 3) (.box 0) [(.v 1 none)]),
  .set 3 (.op (some 4) .mov [(.k (.int .i64 0))])]) <|
 .seq (.dreg [5, 6, 7, 8, 9, 10, 11, 12, 13, 14] [
  ⟨(some 4), .mov, [.t 0], none⟩,
  ⟨(some 5), .mov, [.t 0], none⟩,
  ⟨(some 6), .nilCheck, [.t 5], none⟩,
  ⟨(some 7), .fadr 2, [.t 6], none⟩,
  ⟨(some 8), .load1, [.t 7], none⟩,
  ⟨(some 9), .loadN 4, [.t 2], none⟩,
  ⟨(some 10), .bslice 0 [(.int .i64 0), (.int .i64 0), (.int .i64 0), .nils] 1 [(0, 4)], [.t 9], none⟩,
  ⟨(some 11), .app 0 4 48, [.t 8, .t 10], none⟩,
  ⟨(some 12), .nilCheck, [.t 4], none⟩,
  ⟨(some 13), .fadr 2, [.t 12], none⟩,
  ⟨none, .store 1, [.t 13, .t 11], none⟩]
  [.op 0, .op 1, .op 2, .op 3, .op 4, .op 5, .op 6, .chk 4, .op 7, .op 8, .op 9, .op 10]) <|
 .seq (.reg [
  .set 3 (.op (some 4) .mov [(.op (some 20) (.binI .sub) [(.op (some 19) .lenL [(.op (some 18) .load1 [(.op (some 17) (.fadr 2) [(.op (some 16) .nilCheck [(.v 0 (some 15))])])])]), (.k (.int .i64 1))])])]) <|
 .ret

/- (*sleuth/sleuthref1.reader).after -/
def s201___sleuthref1_reader__after : SFn := .src 25 [0, 1, 2, 3, 8] [.tmp 4] <|
 .seq (.reg [
  .set 4 (.op (some 8) .mov [(.k (.int .i64 0))])]) <|
 .seq (.ifr [] (.or 11 16 (.op (some 10) (.binS .eql) [(.v 1 (some 9)), (.k (.str []))]) (.op (some 15) (.binI .neq) [(.op (some 13) .idxS [(.v 1 (some 12)), (.k (.int .i64 0))]), (.v 2 (some 14))]))
  (.seq (.reg [
   .ef (.op none (.store 1) [(.op (some 19) (.fadr 1) [(.op (some 18) .nilCheck [(.v 0 (some 17))])]), (.k (.bool true))])]) <|
  .seq (.reg [
   .set 4 (.op (some 8) .mov [(.k (.int .i64 0))])]) <|
  .ret)
  (.skip)) <|
 .seq (.reg [
  .set 4 (.op (some 8) .mov [(.op (some 24) (.call 177) [(.v 0 (some 20)), (.op (some 22) (.slS true false) [(.v 1 (some 21)), (.k (.int .i64 1))]), (.v 3 (some 23))])])]) <|
 .ret

/- sleuth/sleuthref1.kinds -/
def s202_sleuthref1_kinds : SFn := .src 115 [0, 1, 2, 4, 5, 6, 14] [.tmp 3] <|
 .seq (.reg [
  .set 2 (.op (some 2) (.box 0) [(.v 0 none)]),
  .set 3 (.op (some 4) .mov [(.k (.bool false))])]) <|
 .seq (.reg [
  .set 4 (.op (some 5) .mov [(.op (some 9) .lenL [(.op (some 8) .load1 [(.op (some 7) (.fadr 3) [(.v 2 none)])])])])]) <|
 .seq (.reg [
  .set 5 (.op (some 6) .mov [(.op (some 12) (.binI .eql) [(.op (some 11) .load1 [(.op (some 10) (.fadr 2) [(.v 2 none)])]), (.k (.int .i64 0))])])]) <|
 .seq (.seq (.reg [
  .set 6 (.op (some 14) .load1 [(.op (some 13) (.fadr 0) [(.v 2 none)])])]) <|
 .block 0 <|
  .ifr [] (.op (some 15) .mov [(.op (some 16) (.binI .eql) [(.v 6 none), (.k (.int .i64 0))])])
   (.seq (.reg [
    .set 3 (.op (some 4) .mov [(.and 22 26 (.and 18 21 (.v 5 (some 17)) (.op (some 20) (.binI .eql) [(.v 4 (some 19)), (.k (.int .i64 0))])) (.op (some 25) (.call 41) [(.op (some 24) .load1 [(.op (some 23) (.fadr 1) [(.v 2 none)])])]))])]) <|
   .ret)
   (.ifr [] (.op (some 27) .mov [(.op (some 28) (.binI .eql) [(.v 6 none), (.k (.int .i64 1))])])
    (.seq (.reg [
     .set 3 (.op (some 4) .mov [(.and 34 40 (.and 30 33 (.v 5 (some 29)) (.op (some 32) (.binI .eql) [(.v 4 (some 31)), (.k (.int .i64 0))])) (.op (some 39) (.call 30) [(.op (some 36) .load1 [(.op (some 35) (.fadr 1) [(.v 2 none)])]), (.k (.int .i64 0)), (.op (some 38) (.binI .sub) [(.v 1 (some 37)), (.k (.int .i64 1))])]))])]) <|
    .ret)
    (.ifr [] (.op (some 41) .mov [(.op (some 42) (.binI .eql) [(.v 6 none), (.k (.int .i64 2))])])
     (.seq (.reg [
      .set 3 (.op (some 4) .mov [(.and 48 52 (.and 44 47 (.v 5 (some 43)) (.op (some 46) (.binI .leq) [(.v 4 (some 45)), (.k (.int .i64 3))])) (.op (some 51) (.call 30) [(.op (some 50) .load1 [(.op (some 49) (.fadr 1) [(.v 2 none)])]), (.k (.int .i64 0)), (.k (.int .i64 7))]))])]) <|
     .ret)
     (.ifr [] (.op (some 53) .mov [(.op (some 54) (.binI .eql) [(.v 6 none), (.k (.int .i64 3))])])
      (.seq (.reg [
       .set 3 (.op (some 4) .mov [(.and 60 64 (.and 56 59 (.v 5 (some 55)) (.op (some 58) (.binI .leq) [(.v 4 (some 57)), (.k (.int .i64 3))])) (.op (some 63) (.call 30) [(.op (some 62) .load1 [(.op (some 61) (.fadr 1) [(.v 2 none)])]), (.k (.int .i64 0)), (.k (.int .i64 99))]))])]) <|
      .ret)
      (.ifr [] (.op (some 65) .mov [(.op (some 66) (.binI .eql) [(.v 6 none), (.k (.int .i64 4))])])
       (.seq (.reg [
        .set 3 (.op (some 4) .mov [(.and 72 76 (.and 68 71 (.v 5 (some 67)) (.op (some 70) (.binI .eql) [(.v 4 (some 69)), (.k (.int .i64 2))])) (.op (some 75) (.call 30) [(.op (some 74) .load1 [(.op (some 73) (.fadr 1) [(.v 2 none)])]), (.k (.int .i64 0)), (.k (.int .i64 4))]))])]) <|
       .ret)
       (.ifr [] (.op (some 77) .mov [(.op (some 78) (.binI .eql) [(.v 6 none), (.k (.int .i64 5))])])
        (.seq (.reg [
         .set 3 (.op (some 4) .mov [(.and 86 90 (.and 81 85 (.op (some 80) (.binI .eql) [(.v 4 (some 79)), (.k (.int .i64 3))]) (.op (some 84) (.call 30) [(.op (some 83) .load1 [(.op (some 82) (.fadr 1) [(.v 2 none)])]), (.k (.int .i64 0)), (.k (.int .i64 99))])) (.op (some 89) (.call 30) [(.op (some 88) .load1 [(.op (some 87) (.fadr 2) [(.v 2 none)])]), (.k (.int .i64 0)), (.k (.int .i64 3))]))])]) <|
        .ret)
        (.ifr [] (.op (some 91) .mov [(.op (some 92) (.binI .eql) [(.v 6 none), (.k (.int .i64 6))])])
         (.seq (.reg [
          .set 3 (.op (some 4) .mov [(.and 98 102 (.and 94 97 (.v 5 (some 93)) (.op (some 96) (.binI .eql) [(.v 4 (some 95)), (.k (.int .i64 2))])) (.op (some 101) (.binI .eql) [(.op (some 100) .load1 [(.op (some 99) (.fadr 1) [(.v 2 none)])]), (.k (.int .i64 0))]))])]) <|
         .ret)
         (.ifr [] (.op (some 103) .mov [(.op (some 104) (.binI .eql) [(.v 6 none), (.k (.int .i64 7))])])
          (.seq (.reg [
           .set 3 (.op (some 4) .mov [(.and 110 114 (.and 106 109 (.v 5 (some 105)) (.op (some 108) (.binI .eql) [(.v 4 (some 107)), (.k (.int .i64 0))])) (.op (some 113) (.binI .eql) [(.op (some 112) .load1 [(.op (some 111) (.fadr 1) [(.v 2 none)])]), (.k (.int .i64 0))]))])]) <|
          .ret)
          (.skip))))))))) <|
 .seq (.reg [
  .set 3 (.op (some 4) .mov [(.k (.bool false))])]) <|
 .ret

/- sleuth/sleuthref1.deeper -/
def s203_sleuthref1_deeper : SFn := .src 21 [0, 1, 2, 4] [.tmp 3] <|
 .seq (.reg [
  .set 2 (.op (some 2) (.box 0) [(.v 0 none)]),
  .set 3 (.op (some 4) .mov [(.k (.int .i64 0))])]) <|
 .seq (.ifr [] (.and 7 11 (.op (some 6) (.binI .eql) [(.v 1 (some 5)), (.k (.int .i64 1))]) (.op (some 10) (.binI .eql) [(.op (some 9) .load1 [(.op (some 8) (.fadr 0) [(.v 2 none)])]), (.k (.int .i64 5))]))
  (.seq (.reg [
   .set 3 (.op (some 4) .mov [(.op (some 13) .load1 [(.op (some 12) (.fadr 2) [(.v 2 none)])])])]) <|
  .ret)
  (.skip)) <|
 .seq (.ifr [] (.and 16 20 (.op (some 15) (.binI .eql) [(.v 1 (some 14)), (.k (.int .i64 1))]) (.op (some 19) (.binI .eql) [(.op (some 18) .load1 [(.op (some 17) (.fadr 0) [(.v 2 none)])]), (.k (.int .i64 6))]))
  (.seq (.reg [
   .set 3 (.op (some 4) .mov [(.k (.int .i64 1))])]) <|
  .ret)
  (.skip)) <|
 .seq (.reg [
  .set 3 (.op (some 4) .mov [(.k (.int .i64 0))])]) <|
 .ret

/- sleuth/expr.within -/
def s212_expr_within : SFn := .src 12 [0, 1, 4] [.tmp 2] <|
 .seq (.reg [
  .set 2 (.op (some 4) .mov [(.k (.bool false))])]) <|
 .seq (.reg [
  .set 2 (.op (some 4) .mov [(.and 7 11 (.op (some 6) (.binI .geq) [(.v 0 (some 5)), (.k (.int .i64 0))]) (.op (some 10) (.binI .leq) [(.v 0 (some 8)), (.v 1 (some 9))]))])]) <|
 .ret

/- sleuth/expr.part -/
def s213_expr_part : SFn := .src 99 [0, 1, 4, 8] [.tmp 2] <|
 .seq (.reg [
  .set 2 (.op (some 4) .mov [(.k (.bool false))])]) <|
 .seq (.seq (.reg [
  .set 3 (.op (some 8) .load1 [(.op (some 7) (.fadr 0) [(.op (some 6) .nilCheck [(.v 0 (some 5))])])])]) <|
 .block 0 <|
  .ifr [] (.op (some 9) .mov [(.op (some 10) (.binI .eql) [(.v 3 none), (.k (.int .i64 0))])])
   (.seq (.reg [
    .set 2 (.op (some 4) .mov [(.and 16 19 (.op (some 15) (.call 28) [(.op (some 14) .load1 [(.op (some 13) (.fadr 1) [(.op (some 12) .nilCheck [(.v 0 (some 11))])])])]) (.op (some 18) (.call 229) [(.v 0 (some 17)), (.k (.int .i64 0)), (.k (.int .i64 0)), (.k (.int .i64 0))]))])]) <|
   .ret)
   (.ifr [] (.op (some 20) .mov [(.op (some 21) (.binI .eql) [(.v 3 none), (.k (.int .i64 1))])])
    (.seq (.reg [
     .set 2 (.op (some 4) .mov [(.and 29 32 (.op (some 28) (.call 212) [(.op (some 25) .load1 [(.op (some 24) (.fadr 1) [(.op (some 23) .nilCheck [(.v 0 (some 22))])])]), (.op (some 27) (.binI .sub) [(.v 1 (some 26)), (.k (.int .i64 1))])]) (.op (some 31) (.call 229) [(.v 0 (some 30)), (.k (.int .i64 0)), (.k (.int .i64 0)), (.k (.int .i64 0))]))])]) <|
    .ret)
    (.ifr [] (.op (some 33) .mov [(.op (some 34) (.binI .eql) [(.v 3 none), (.k (.int .i64 2))])])
     (.seq (.reg [
      .set 2 (.op (some 4) .mov [(.and 40 43 (.op (some 39) (.call 212) [(.op (some 38) .load1 [(.op (some 37) (.fadr 1) [(.op (some 36) .nilCheck [(.v 0 (some 35))])])]), (.k (.int .i64 7))]) (.op (some 42) (.call 229) [(.v 0 (some 41)), (.k (.int .i64 0)), (.k (.int .i64 0)), (.k (.int .i64 3))]))])]) <|
     .ret)
     (.ifr [] (.op (some 44) .mov [(.op (some 45) (.binI .eql) [(.v 3 none), (.k (.int .i64 3))])])
      (.seq (.reg [
       .set 2 (.op (some 4) .mov [(.and 51 54 (.op (some 50) (.call 212) [(.op (some 49) .load1 [(.op (some 48) (.fadr 1) [(.op (some 47) .nilCheck [(.v 0 (some 46))])])]), (.k (.int .i64 99))]) (.op (some 53) (.call 229) [(.v 0 (some 52)), (.k (.int .i64 0)), (.k (.int .i64 0)), (.k (.int .i64 3))]))])]) <|
      .ret)
      (.ifr [] (.op (some 55) .mov [(.op (some 56) (.binI .eql) [(.v 3 none), (.k (.int .i64 4))])])
       (.seq (.reg [
        .set 2 (.op (some 4) .mov [(.and 62 65 (.op (some 61) (.call 212) [(.op (some 60) .load1 [(.op (some 59) (.fadr 1) [(.op (some 58) .nilCheck [(.v 0 (some 57))])])]), (.k (.int .i64 4))]) (.op (some 64) (.call 229) [(.v 0 (some 63)), (.k (.int .i64 0)), (.k (.int .i64 2)), (.k (.int .i64 2))]))])]) <|
       .ret)
       (.ifr [] (.op (some 66) .mov [(.op (some 67) (.binI .eql) [(.v 3 none), (.k (.int .i64 5))])])
        (.seq (.reg [
         .set 2 (.op (some 4) .mov [(.and 73 76 (.op (some 72) (.call 212) [(.op (some 71) .load1 [(.op (some 70) (.fadr 1) [(.op (some 69) .nilCheck [(.v 0 (some 68))])])]), (.k (.int .i64 99))]) (.op (some 75) (.call 229) [(.v 0 (some 74)), (.k (.int .i64 3)), (.k (.int .i64 3)), (.k (.int .i64 3))]))])]) <|
        .ret)
        (.ifr [] (.op (some 77) .mov [(.op (some 78) (.binI .eql) [(.v 3 none), (.k (.int .i64 6))])])
         (.seq (.reg [
          .set 2 (.op (some 4) .mov [(.and 84 87 (.op (some 83) (.binI .eql) [(.op (some 82) .load1 [(.op (some 81) (.fadr 1) [(.op (some 80) .nilCheck [(.v 0 (some 79))])])]), (.k (.int .i64 0))]) (.op (some 86) (.call 229) [(.v 0 (some 85)), (.k (.int .i64 0)), (.k (.int .i64 2)), (.k (.int .i64 2))]))])]) <|
         .ret)
         (.ifr [] (.op (some 88) .mov [(.op (some 89) (.binI .eql) [(.v 3 none), (.k (.int .i64 7))])])
          (.seq (.reg [
           .set 2 (.op (some 4) .mov [(.and 95 98 (.op (some 94) (.binI .eql) [(.op (some 93) .load1 [(.op (some 92) (.fadr 1) [(.op (some 91) .nilCheck [(.v 0 (some 90))])])]), (.k (.int .i64 0))]) (.op (some 97) (.call 229) [(.v 0 (some 96)), (.k (.int .i64 0)), (.k (.int .i64 0)), (.k (.int .i64 0))]))])]) <|
          .ret)
          (.skip))))))))) <|
 .seq (.reg [
  .set 2 (.op (some 4) .mov [(.k (.bool false))])]) <|
 .ret

/- sleuth/expr.more -/
def s214_expr_more : SFn := .src 24 [0, 1, 4] [.tmp 2] <|
 .seq (.reg [
  .set 2 (.op (some 4) .mov [(.k (.int .i64 0))])]) <|
 .seq (.block 0 <|
  .ifr [] (.op (some 5) .mov [(.op (some 7) (.binI .neq) [(.v 1 (some 6)), (.k (.int .i64 1))])])
   (.seq (.reg [
    .set 2 (.op (some 4) .mov [(.k (.int .i64 0))])]) <|
   .ret)
   (.ifr [] (.op (some 8) .mov [(.op (some 13) (.binI .eql) [(.op (some 12) .load1 [(.op (some 11) (.fadr 0) [(.op (some 10) .nilCheck [(.v 0 (some 9))])])]), (.k (.int .i64 5))])])
    (.seq (.reg [
     .set 2 (.op (some 4) .mov [(.op (some 17) .load1 [(.op (some 16) (.fadr 2) [(.op (some 15) .nilCheck [(.v 0 (some 14))])])])])]) <|
    .ret)
    (.ifr [] (.op (some 18) .mov [(.op (some 23) (.binI .eql) [(.op (some 22) .load1 [(.op (some 21) (.fadr 0) [(.op (some 20) .nilCheck [(.v 0 (some 19))])])]), (.k (.int .i64 6))])])
     (.seq (.reg [
      .set 2 (.op (some 4) .mov [(.k (.int .i64 1))])]) <|
     .ret)
     (.skip)))) <|
 .seq (.reg [
  .set 2 (.op (some 4) .mov [(.k (.int .i64 0))])]) <|
 .ret

/- slices.IndexFunc[[]sleuth/api.Expr,sleuth/api.Expr] -/
def s215_slices_IndexFunc___api_Expr_api_Expr_ : SFn := .src 19 [0, 1, 4, 5, 7, 8, 9] [.tmp 2] <|
 .seq (.reg [
  .set 2 (.op (some 4) .mov [(.k (.int .i64 0))])]) <|
 .seq (.seq (.reg [
  .set 4 (.op (some 7) .lenL [(.v 0 (some 6))]),
  .set 5 (.op (some 8) .mov [(.k (.int .i64 0))])]) <|
 .block 0 <|
  .loop [0, 1, 4, 5] <|
   .seq (.reg [
    .set 6 (.op (some 9) (.binI .lss) [(.v 5 none), (.v 4 none)])]) <|
   .seq (.cond (.t 6)
    (.skip)
    (.exit 0)) <|
   .seq (.block 1 <|
    .seq (.reg [
     .set 3 (.op (some 5) .mov [(.v 5 (some 10))])]) <|
    .ifr [] (.op (some 16) .callv [(.v 1 (some 11)), (.op (some 15) (.loadN 4) [(.op (some 14) (.iadr 4) [(.v 0 (some 12)), (.v 3 (some 13))])])])
     (.seq (.reg [
      .set 2 (.op (some 4) .mov [(.v 3 (some 17))])]) <|
     .ret)
     (.skip)) <|
   .reg [
    .set 5 (.op (some 8) .mov [(.op (some 18) (.binI .add) [(.v 5 none), (.k (.int .i64 1))])])]) <|
 .seq (.reg [
  .set 2 (.op (some 4) .mov [(.k (.int .i64 (-1)))])]) <|
 .ret

/- (*sleuth/need.frame).kids -/
def s216___need_frame__kids : SFn := .src 22 [0, 1, 4, 5, 7, 8, 9, 10, 11] [.tmp 2] <|
 .seq (.reg [
  .set 2 (.op (some 4) .mov [(.k .nils)])]) <|
 .seq (.reg [
  .set 3 (.op (some 5) .mov [(.k .nils)])]) <|
 .seq (.seq (.reg [
  .set 5 (.op (some 8) .mov [(.v 1 none)]),
  .set 6 (.op (some 9) .lenL [(.v 5 none)]),
  .set 7 (.op (some 10) .mov [(.k (.int .i64 0))])]) <|
 .block 0 <|
  .loop [0, 3, 5, 6, 7] <|
   .seq (.reg [
    .set 8 (.op (some 11) (.binI .lss) [(.v 7 none), (.v 6 none)])]) <|
   .seq (.cond (.t 8)
    (.skip)
    (.exit 0)) <|
   .seq (.block 1 <|
    .seq (.reg [
     .set 4 (.op (some 7) .mov [(.op (some 13) .load1 [(.op (some 12) (.iadr 1) [(.v 5 none), (.v 7 none)])])])]) <|
    .reg [
     .set 3 (.op (some 5) .mov [(.op (some 19) (.app 0 1 8) [(.v 3 (some 14)), (.op (some 18) (.bslice 0 [.nilp] 1 [(0, 1)]) [(.op (some 17) (.call 219) [(.v 0 (some 15)), (.v 4 (some 16))])])])])]) <|
   .reg [
    .set 7 (.op (some 10) .mov [(.op (some 20) (.binI .add) [(.v 7 none), (.k (.int .i64 1))])])]) <|
 .seq (.reg [
  .set 2 (.op (some 4) .mov [(.v 3 (some 21))])]) <|
 .ret

/- (*sleuth/need.machine).prim -/
def s217___need_machine__prim : SFn := .src 50 [0, 1, 2, 6, 7, 8, 9, 10, 11, 16, 17, 18, 19, 20, 22, 26, 31] [.cellN 3 3] <|
 .seq (.reg [
  .set 3 (.op (some 6) (.alloc 0 [(.int .i64 0), (.int .i64 0), .nils]) [])]) <|
 .seq (.reg [
  .set 4 (.op (some 7) (.alloc 0 [(.int .i64 0), (.int .i64 0)]) [])]) <|
 .seq (.seq (.reg [
  .set 9 (.op (some 16) .load1 [(.op (some 15) (.fadr 3) [(.op (some 14) .nilCheck [(.v 2 (some 13))])])]),
  .set 10 (.op (some 17) .lenL [(.v 9 none)]),
  .set 11 (.op (some 18) .mov [(.k (.int .i64 0))])]) <|
 .block 0 <|
  .loop [0, 1, 2, 3, 4, 9, 10, 11] <|
   .seq (.reg [
    .set 12 (.op (some 19) (.binI .lss) [(.v 11 none), (.v 10 none)])]) <|
   .seq (.cond (.t 12)
    (.skip)
    (.exit 0)) <|
   .seq (.block 1 <|
    .seq (.reg [
     .set 13 (.op (some 20) .mov [(.v 11 none)]),
     .set 14 (.op (some 22) .load1 [(.op (some 21) (.iadr 1) [(.v 9 none), (.v 11 none)])]),
     .set 5 (.op (some 8) .mov [(.v 13 none)]),
     .set 6 (.op (some 9) .mov [(.v 14 none)])]) <|
    .seq (.reg [
     .set 15 (.op (some 26) (.call 189) [(.v 0 (some 23)), (.v 1 (some 24)), (.v 6 (some 25))]),
     .set 7 (.op (some 10) (.alloc 0 [(.int .i64 0), (.int .i64 0), .nils]) []),
     .ef (.op none (.store 3) [(.v 7 none), (.v 15 none)])]) <|
    .seq (.ifr [] (.op (some 29) (.binI .neq) [(.op (some 28) .load1 [(.op (some 27) (.fadr 0) [(.v 7 none)])]), (.k (.int .i64 1))])
     (.seq (.reg [
      .ef (.op none (.store 3) [(.v 3 none), (.op (some 30) (.build [(.int .i64 0), (.int .i64 0), .nils] [(0, 1)]) [(.k (.int .i64 3))])])]) <|
     .ret)
     (.skip)) <|
    .reg [
     .set 16 (.op (some 31) .mov [(.v 5 none)]),
     .ef (.opr none (.store 1) (.op (some 34) (.iadrA 2 1) [(.v 4 none), (.v 16 none)]) (.op (some 33) .load1 [(.op (some 32) (.fadr 1) [(.v 7 none)])]))]) <|
   .reg [
    .set 11 (.op (some 18) .mov [(.op (some 35) (.binI .add) [(.v 11 none), (.k (.int .i64 1))])])]) <|
 .seq (.dreg [12, 36, 37, 38, 39, 40, 41, 42, 43, 44, 45, 46, 47] [
  ⟨(some 19), .mov, [.t 2], none⟩,
  ⟨(some 20), .nilCheck, [.t 19], none⟩,
  ⟨(some 21), .fadr 1, [.t 20], none⟩,
  ⟨(some 22), .load1, [.t 21], none⟩,
  ⟨(some 23), .iadrA 2 1, [.t 4, .c (.int .i64 0)], none⟩,
  ⟨(some 24), .load1, [.t 23], none⟩,
  ⟨(some 25), .iadrA 2 1, [.t 4, .c (.int .i64 1)], none⟩,
  ⟨(some 26), .load1, [.t 25], none⟩,
  ⟨(some 27), .call 226, [.t 22, .t 24, .t 26], none⟩,
  ⟨(some 18), .mov, [.t 27], none⟩,
  ⟨(some 28), .ext 0, [.t 18], none⟩,
  ⟨(some 29), .ext 1, [.t 18], none⟩,
  ⟨(some 8), .mov, [.t 28], none⟩,
  ⟨(some 17), .mov, [.t 29], none⟩]
  [.op 0, .op 1, .op 2, .op 3, .op 4, .op 5, .op 6, .op 7, .op 8, .op 9, .op 10, .op 11, .op 12, .op 13]) <|
 .seq (.reg [
  .ef (.op none (.store 3) [(.v 3 none), (.op (some 49) (.build [(.int .i64 0), (.int .i64 0), .nils] [(0, 1), (1, 1)]) [(.k (.int .i64 1)), (.v 8 (some 48))])])]) <|
 .ret

/- (*sleuth/need.frame).with -/
def s218___need_frame__with : SFn := .src 34 [0, 1, 4, 5] [.tmp 2] <|
 .seq (.reg [
  .set 2 (.op (some 4) .mov [(.k .nilp)])]) <|
 .seq (.dreg [6, 7, 8, 9, 10, 11, 12, 13, 14, 15, 16, 17, 18, 19, 20, 21, 22] [
  ⟨(some 4), .mov, [.t 0], none⟩,
  ⟨(some 5), .nilCheck, [.t 4], none⟩,
  ⟨(some 6), .fadr 1, [.t 5], none⟩,
  ⟨(some 7), .load1, [.t 6], none⟩,
  ⟨(some 8), .mov, [.t 0], none⟩,
  ⟨(some 9), .nilCheck, [.t 8], none⟩,
  ⟨(some 10), .fadr 1, [.t 9], none⟩,
  ⟨(some 11), .load1, [.t 10], none⟩,
  ⟨(some 12), .lenL, [.t 11], none⟩,
  ⟨(some 13), .mov, [.t 0], none⟩,
  ⟨(some 14), .nilCheck, [.t 13], none⟩,
  ⟨(some 15), .fadr 1, [.t 14], none⟩,
  ⟨(some 16), .load1, [.t 15], none⟩,
  ⟨(some 17), .lenL, [.t 16], none⟩,
  ⟨(some 18), .slL 1 false true true, [.t 7, .t 12, .t 17], none⟩,
  ⟨(some 19), .mov, [.t 1], none⟩,
  ⟨(some 20), .app 0 1 8, [.t 18, .t 19], none⟩,
  ⟨(some 3), .mov, [.t 20], none⟩]
  [.op 0, .op 1, .op 2, .op 3, .op 4, .op 5, .op 6, .op 7, .op 8, .op 9, .op 10, .op 11, .op 12, .op 13, .op 14, .op 15, .op 16, .op 17]) <|
 .seq (.dreg [23, 24, 25, 26, 27, 28, 29, 30, 31, 32, 33] [
  ⟨(some 4), .mov, [.t 0], none⟩,
  ⟨(some 5), .nilCheck, [.t 4], none⟩,
  ⟨(some 6), .fadr 0, [.t 5], none⟩,
  ⟨(some 7), .load1, [.t 6], none⟩,
  ⟨(some 8), .mov, [.t 3], none⟩,
  ⟨(some 9), .mov, [.t 0], none⟩,
  ⟨(some 10), .nilCheck, [.t 9], none⟩,
  ⟨(some 11), .fadr 2, [.t 10], none⟩,
  ⟨(some 12), .load1, [.t 11], none⟩,
  ⟨(some 13), .build [.nils, .nils, (.int .i64 0)] [(0, 1), (1, 1), (2, 1)], [.t 7, .t 8, .t 12], none⟩,
  ⟨(some 14), .box 0, [.t 13], none⟩,
  ⟨(some 2), .mov, [.t 14], none⟩]
  [.op 0, .op 1, .op 2, .op 3, .op 4, .op 5, .op 6, .op 7, .op 8, .op 9, .op 10, .op 11]) <|
 .ret

/- (*sleuth/need.frame).kid -/
def s219___need_frame__kid : SFn := .src 42 [0, 1, 4, 5] [.tmp 2] <|
 .seq (.reg [
  .set 2 (.op (some 4) .mov [(.k .nilp)])]) <|
 .seq (.seq (.reg [
  .set 3 (.op (some 5) .mov [(.op (some 11) (.iadr 4) [(.op (some 9) .load1 [(.op (some 8) (.fadr 0) [(.op (some 7) .nilCheck [(.v 0 (some 6))])])]), (.v 1 (some 10))])])]) <|
 .ifr [] (.op (some 16) (.binI .eql) [(.op (some 15) .load1 [(.op (some 14) (.fadr 0) [(.op (some 13) .nilCheck [(.v 3 (some 12))])])]), (.k (.int .i64 1))])
  (.seq (.dreg [17, 18, 19, 20, 21, 22, 23, 24, 25, 26] [
   ⟨(some 4), .mov, [.t 0], none⟩,
   ⟨(some 5), .nilCheck, [.t 4], none⟩,
   ⟨(some 6), .fadr 1, [.t 5], none⟩,
   ⟨(some 7), .load1, [.t 6], none⟩,
   ⟨(some 8), .mov, [.t 3], none⟩,
   ⟨(some 9), .nilCheck, [.t 8], none⟩,
   ⟨(some 10), .fadr 1, [.t 9], none⟩,
   ⟨(some 11), .load1, [.t 10], none⟩,
   ⟨(some 12), .iadr 1, [.t 7, .t 11], none⟩,
   ⟨(some 13), .load1, [.t 12], none⟩,
   ⟨(some 2), .mov, [.t 13], none⟩]
   [.op 0, .op 1, .op 2, .op 3, .op 4, .op 5, .op 6, .op 7, .op 8, .op 9, .op 10]) <|
  .ret)
  (.skip)) <|
 .seq (.dreg [27, 28, 29, 30, 31, 32, 33, 34, 35, 36, 37, 38, 39, 40, 41] [
  ⟨(some 4), .mov, [.t 0], none⟩,
  ⟨(some 5), .nilCheck, [.t 4], none⟩,
  ⟨(some 6), .fadr 0, [.t 5], none⟩,
  ⟨(some 7), .load1, [.t 6], none⟩,
  ⟨(some 8), .mov, [.t 1], none⟩,
  ⟨(some 9), .mov, [.t 0], none⟩,
  ⟨(some 10), .nilCheck, [.t 9], none⟩,
  ⟨(some 11), .fadr 1, [.t 10], none⟩,
  ⟨(some 12), .load1, [.t 11], none⟩,
  ⟨(some 13), .mov, [.t 0], none⟩,
  ⟨(some 14), .nilCheck, [.t 13], none⟩,
  ⟨(some 15), .fadr 2, [.t 14], none⟩,
  ⟨(some 16), .load1, [.t 15], none⟩,
  ⟨(some 17), .build [.nils, (.int .i64 0), .nils, (.int .i64 0), (.bool false), (.int .i64 0), (.int .i64 0), .nils, (.bool false), (.int .i64 0)] [(0, 1), (1, 1), (2, 1), (3, 1)], [.t 7, .t 8, .t 12, .t 16], none⟩,
  ⟨(some 18), .box 0, [.t 17], none⟩,
  ⟨(some 2), .mov, [.t 18], none⟩]
  [.op 0, .op 1, .op 2, .op 3, .op 4, .op 5, .op 6, .op 7, .op 8, .op 9, .op 10, .op 11, .op 12, .op 13, .op 14, .op 15]) <|
 .ret

/- sleuth/sleuthref1.op -/
def s224_sleuthref1_op : SFn := .src 19 [0, 2, 3, 4] [.tmp 1] <|
 .seq (.reg [
  .set 1 (.op (some 2) .mov [(.k (.int .i64 0))])]) <|
 .seq (.reg [
  .set 2 (.op (some 3) .mov [(.op (some 5) (.bslice 0 [(.str []), (.str []), (.str []), (.str []), (.str [])] 5 [(0, 1), (1, 1), (2, 1), (3, 1), (4, 1)]) [(.k (.str [43])), (.k (.str [45])), (.k (.str [42])), (.k (.str [61])), (.k (.str [60]))])])]) <|
 .seq (.seq (.reg [
  .set 3 (.op (some 4) .mov [(.k (.int .i64 0))])]) <|
 .block 0 <|
  .loop [0, 2, 3] <|
   .seq (.ifr [] (.op (some 9) (.binI .lss) [(.v 3 (some 6)), (.op (some 8) .lenL [(.v 2 (some 7))])])
    (.skip)
    (.exit 0)) <|
   .seq (.block 1 <|
    .ifr [] (.op (some 17) (.binS .eql) [(.op (some 15) .load1 [(.op (some 14) (.iadr 1) [(.v 2 (some 12)), (.v 3 (some 13))])]), (.v 0 (some 16))])
     (.seq (.reg [
      .set 1 (.op (some 2) .mov [(.v 3 (some 18))])]) <|
     .ret)
     (.skip)) <|
   .reg [
    .set 3 (.op (some 4) .mov [(.op (some 11) (.binI .add) [(.v 3 (some 10)), (.k (.int .i64 1))])])]) <|
 .seq (.reg [
  .set 1 (.op (some 2) .mov [(.k (.int .i64 (-1)))])]) <|
 .ret

/- (*sleuth/sleuthref1.reader).kids -/
def s225___sleuthref1_reader__kids : SFn := .src 50 [0, 1, 4, 5, 6] [.tmp 2] <|
 .seq (.reg [
  .set 2 (.op (some 4) .mov [(.k .nils)])]) <|
 .seq (.reg [
  .set 3 (.op (some 5) .mov [(.k .nils)])]) <|
 .seq (.block 0 <|
  .loop [0, 1, 3] <|
   .seq (.ifr [] (.and 20 28 (.and 12 19 (.op (some 11) .notB [(.op (some 10) .load1 [(.op (some 9) (.fadr 1) [(.op (some 8) .nilCheck [(.v 0 (some 7))])])])]) (.op (some 18) (.binI .gtr) [(.op (some 17) .lenL [(.op (some 16) .load1 [(.op (some 15) (.fadr 0) [(.op (some 14) .nilCheck [(.v 0 (some 13))])])])]), (.k (.int .i64 0))])) (.op (some 27) (.binS .neq) [(.op (some 26) .load1 [(.op (some 25) (.iadr 1) [(.op (some 24) .load1 [(.op (some 23) (.fadr 0) [(.op (some 22) .nilCheck [(.v 0 (some 21))])])]), (.k (.int .i64 0))])]), (.k (.str [41]))]))
    (.skip)
    (.exit 0)) <|
   .block 1 <|
    .seq (.ifr [] (.op (some 32) (.binI .eql) [(.op (some 30) .lenL [(.v 3 (some 29))]), (.v 1 (some 31))])
     (.seq (.reg [
      .ef (.op none (.store 1) [(.op (some 35) (.fadr 1) [(.op (some 34) .nilCheck [(.v 0 (some 33))])]), (.k (.bool true))])]) <|
     .seq (.reg [
      .set 2 (.op (some 4) .mov [(.v 3 (some 36))])]) <|
     .ret)
     (.skip)) <|
    .seq (.reg [
     .set 4 (.op (some 6) .mov [(.op (some 38) (.call 178) [(.v 0 (some 37))])])]) <|
    .reg [
     .set 3 (.op (some 5) .mov [(.op (some 42) (.app 0 1 8) [(.v 3 (some 39)), (.op (some 41) (.bslice 0 [(.int .i64 0)] 1 [(0, 1)]) [(.v 4 (some 40))])])])]) <|
 .seq (.ifr [] (.op (some 45) (.binS .neq) [(.op (some 44) (.call 176) [(.v 0 (some 43))]), (.k (.str [41]))])
  (.reg [
   .ef (.op none (.store 1) [(.op (some 48) (.fadr 1) [(.op (some 47) .nilCheck [(.v 0 (some 46))])]), (.k (.bool true))])])
  (.skip)) <|
 .seq (.reg [
  .set 2 (.op (some 4) .mov [(.v 3 (some 49))])]) <|
 .ret

/- sleuth/prim.Do -/
def s226_prim_Do : SFn := .src 48 [0, 1, 2, 6, 7, 8, 17] [.tmp 3, .tmp 4] <|
 .seq (.reg [
  .set 3 (.op (some 6) .mov [(.k (.int .i64 0))]),
  .set 4 (.op (some 7) .mov [(.k (.int .i64 0))])]) <|
 .seq (.ifr [] (.or 12 16 (.op (some 11) .notB [(.op (some 10) (.call 28) [(.v 1 (some 9))])]) (.op (some 15) .notB [(.op (some 14) (.call 28) [(.v 2 (some 13))])]))
  (.seq (.reg [
   .set 3 (.op (some 6) .mov [(.k (.int .i64 0))]),
   .set 4 (.op (some 7) .mov [(.k (.int .i64 100))])]) <|
  .ret)
  (.skip)) <|
 .seq (.reg [
  .set 5 (.op (some 8) .mov [(.k (.int .i64 0))])]) <|
 .seq (.seq (.reg [
  .set 6 (.op (some 17) .mov [(.v 0 none)])]) <|
 .block 0 <|
  .ifr [] (.op (some 18) .mov [(.op (some 19) (.binI .eql) [(.v 6 none), (.k (.int .i64 0))])])
   (.reg [
    .set 5 (.op (some 8) .mov [(.op (some 22) (.binI .add) [(.v 1 (some 20)), (.v 2 (some 21))])])])
   (.ifr [] (.op (some 23) .mov [(.op (some 24) (.binI .eql) [(.v 6 none), (.k (.int .i64 1))])])
    (.reg [
     .set 5 (.op (some 8) .mov [(.op (some 27) (.binI .sub) [(.v 1 (some 25)), (.v 2 (some 26))])])])
    (.ifr [] (.op (some 28) .mov [(.op (some 29) (.binI .eql) [(.v 6 none), (.k (.int .i64 2))])])
     (.reg [
      .set 5 (.op (some 8) .mov [(.op (some 32) (.binI .mul) [(.v 1 (some 30)), (.v 2 (some 31))])])])
     (.ifr [] (.op (some 33) .mov [(.op (some 34) (.binI .eql) [(.v 6 none), (.k (.int .i64 3))])])
      (.reg [
       .set 5 (.op (some 8) .mov [(.op (some 38) (.call 230) [(.op (some 37) (.binI .eql) [(.v 1 (some 35)), (.v 2 (some 36))])])])])
      (.ifr [] (.op (some 39) .mov [(.op (some 40) (.binI .eql) [(.v 6 none), (.k (.int .i64 4))])])
       (.reg [
        .set 5 (.op (some 8) .mov [(.op (some 44) (.call 230) [(.op (some 43) (.binI .lss) [(.v 1 (some 41)), (.v 2 (some 42))])])])])
       (.seq (.reg [
        .set 3 (.op (some 6) .mov [(.k (.int .i64 0))]),
        .set 4 (.op (some 7) .mov [(.k (.int .i64 100))])]) <|
       .ret)))))) <|
 .seq (.reg [
  .set 3 (.op (some 6) .mov [(.op (some 47) (.conv .i64) [(.op (some 46) (.conv .i16) [(.v 5 (some 45))])])]),
  .set 4 (.op (some 7) .mov [(.k (.int .i64 0))])]) <|
 .ret

/- sleuth/expr.plain -/
def s229_expr_plain : SFn := .src 40 [0, 1, 2, 3, 8] [.tmp 4] <|
 .seq (.reg [
  .set 4 (.op (some 8) .mov [(.k (.bool false))])]) <|
 .seq (.reg [
  .set 4 (.op (some 8) .mov [(.and 31 39 (.and 22 30 (.and 14 21 (.op (some 13) (.binI .geq) [(.op (some 12) .load1 [(.op (some 11) (.fadr 2) [(.op (some 10) .nilCheck [(.v 0 (some 9))])])]), (.k (.int .i64 0))]) (.op (some 20) (.binI .leq) [(.op (some 18) .load1 [(.op (some 17) (.fadr 2) [(.op (some 16) .nilCheck [(.v 0 (some 15))])])]), (.v 1 (some 19))])) (.op (some 29) (.binI .geq) [(.op (some 27) .lenL [(.op (some 26) .load1 [(.op (some 25) (.fadr 3) [(.op (some 24) .nilCheck [(.v 0 (some 23))])])])]), (.v 2 (some 28))])) (.op (some 38) (.binI .leq) [(.op (some 36) .lenL [(.op (some 35) .load1 [(.op (some 34) (.fadr 3) [(.op (some 33) .nilCheck [(.v 0 (some 32))])])])]), (.v 3 (some 37))]))])]) <|
 .ret

/- sleuth/prim.truth -/
def s230_prim_truth : SFn := .src 4 [0, 2] [.tmp 1] <|
 .seq (.reg [
  .set 1 (.op (some 2) .mov [(.k (.int .i64 0))])]) <|
 .seq (.ifr [] (.v 0 (some 3))
  (.seq (.reg [
   .set 1 (.op (some 2) .mov [(.k (.int .i64 1))])]) <|
  .ret)
  (.skip)) <|
 .seq (.reg [
  .set 1 (.op (some 2) .mov [(.k (.int .i64 0))])]) <|
 .ret

end Am.T
