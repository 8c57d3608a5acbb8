/- Functions of the program, as the abstract machine has them. -/
import Derived.Test.YtpalaplnolcimaaDoorAmSrc2
namespace Am.T
open Go
/- sleuth/sleuthlaw0.LendTexts -/
def s10_sleuthlaw0_LendTexts : SFn := .src 12 [0, 2, 3] [.tmp 1] <|
 .seq (.reg [
  .set 1 (.op (some 2) .mov [(.k .nils)])]) <|
 .seq (.reg [
  .set 2 (.op (some 3) .mov [(.op (some 7) (.app 0 1 16) [(.op (some 5) (.call 23) [(.v 0 (some 4))]), (.op (some 6) (.bslice 0 [(.str []), (.str [])] 2 [(0, 1), (1, 1)]) [(.k (.str [126, 114, 111, 111, 109])), (.k (.str [126, 98, 101, 104, 105, 110, 100]))])])])]) <|
 .seq (.reg [
  .set 1 (.op (some 2) .mov [(.op (some 11) (.slL 1 false true false) [(.v 2 (some 8)), (.op (some 10) .lenL [(.v 0 (some 9))])])])]) <|
 .ret

/- sleuth/term.Cut -/
def s11_term_Cut : SFn := .src 25 [0, 2, 3, 4, 5, 6, 7, 8, 14, 17, 18, 19, 20, 21, 22, 23, 24] [.tmp 1, .tmp 2, .tmp 3, .tmp 4] <|
 .seq (.reg [
  .set 1 (.op (some 2) .mov [(.k (.int .i64 0))]),
  .set 2 (.op (some 3) .mov [(.k (.int .i64 0))]),
  .set 3 (.op (some 4) .mov [(.k .nils)]),
  .set 4 (.op (some 5) .mov [(.k (.int .i64 0))])]) <|
 .seq (.ifr [] (.op (some 13) .notB [(.op (some 12) (.call 17) [(.v 0 (some 11))])])
  (.seq (.reg [
   .set 1 (.op (some 2) .mov [(.k (.int .i64 0))]),
   .set 2 (.op (some 3) .mov [(.k (.int .i64 0))]),
   .set 3 (.op (some 4) .mov [(.k .nils)]),
   .set 4 (.op (some 5) .mov [(.k (.int .i64 200))])]) <|
  .ret)
  (.skip)) <|
 .seq (.reg [
  .set 8 (.op (some 14) .mov [(.op (some 16) (.call 24) [(.v 0 (some 15))])]),
  .set 9 (.op (some 17) (.ext 0) [(.v 8 none)]),
  .set 10 (.op (some 18) (.ext 1) [(.v 8 none)]),
  .set 11 (.op (some 19) (.ext 2) [(.v 8 none)]),
  .set 12 (.op (some 20) (.ext 3) [(.v 8 none)]),
  .set 13 (.op (some 21) (.ext 4) [(.v 8 none)]),
  .set 5 (.op (some 6) .mov [(.v 9 none)]),
  .set 6 (.op (some 7) .mov [(.v 10 none)]),
  .set 7 (.op (some 8) .mov [(.v 11 none)]),
  .ef (.v 12 (some 9)),
  .ef (.v 13 (some 10))]) <|
 .seq (.reg [
  .set 14 (.op (some 22) .mov [(.v 5 none)]),
  .set 15 (.op (some 23) .mov [(.v 6 none)]),
  .set 16 (.op (some 24) .mov [(.v 7 none)]),
  .set 1 (.op (some 2) .mov [(.v 14 none)]),
  .set 2 (.op (some 3) .mov [(.v 15 none)]),
  .set 3 (.op (some 4) .mov [(.v 16 none)]),
  .set 4 (.op (some 5) .mov [(.k (.int .i64 0))])]) <|
 .ret

/- sleuth/sleuthref1.Cut -/
def s12_sleuthref1_Cut : SFn := .src 23 [0, 2, 3, 4, 5, 6, 11] [.tmp 1, .tmp 2, .tmp 3, .tmp 4] <|
 .seq (.reg [
  .set 1 (.op (some 2) .mov [(.k (.int .i64 0))]),
  .set 2 (.op (some 3) .mov [(.k (.int .i64 0))]),
  .set 3 (.op (some 4) .mov [(.k .nils)]),
  .set 4 (.op (some 5) .mov [(.k (.int .i64 0))])]) <|
 .seq (.ifr [] (.op (some 9) (.binI .gtr) [(.op (some 8) .lenS [(.v 0 (some 7))]), (.k (.int .i64 1024))])
  (.seq (.reg [
   .set 1 (.op (some 2) .mov [(.k (.int .i64 0))]),
   .set 2 (.op (some 3) .mov [(.k (.int .i64 0))]),
   .set 3 (.op (some 4) .mov [(.k .nils)]),
   .set 4 (.op (some 5) .mov [(.k (.int .i64 200))])]) <|
  .ret)
  (.skip)) <|
 .seq (.reg [
  .set 6 (.op (some 11) (.call 25) [(.v 0 (some 10)), (.k (.int .i64 0))]),
  .set 5 (.op (some 6) (.alloc 0 [(.int .i64 0), (.int .i64 0), .nils, (.int .i64 0)]) []),
  .ef (.op none (.store 4) [(.v 5 none), (.v 6 none)])]) <|
 .seq (.ifr [] (.op (some 16) (.binI .neq) [(.op (some 13) .load1 [(.op (some 12) (.fadr 3) [(.v 5 none)])]), (.op (some 15) .lenS [(.v 0 (some 14))])])
  (.seq (.reg [
   .set 1 (.op (some 2) .mov [(.k (.int .i64 0))]),
   .set 2 (.op (some 3) .mov [(.k (.int .i64 0))]),
   .set 3 (.op (some 4) .mov [(.k .nils)]),
   .set 4 (.op (some 5) .mov [(.k (.int .i64 200))])]) <|
  .ret)
  (.skip)) <|
 .seq (.dreg [17, 18, 19, 20, 21, 22] [
  ⟨(some 7), .fadr 0, [.t 5], none⟩,
  ⟨(some 8), .load1, [.t 7], none⟩,
  ⟨(some 9), .fadr 1, [.t 5], none⟩,
  ⟨(some 10), .load1, [.t 9], none⟩,
  ⟨(some 11), .fadr 2, [.t 5], none⟩,
  ⟨(some 12), .load1, [.t 11], none⟩,
  ⟨(some 1), .mov, [.t 8], none⟩,
  ⟨(some 2), .mov, [.t 10], none⟩,
  ⟨(some 3), .mov, [.t 12], none⟩,
  ⟨(some 4), .mov, [.c (.int .i64 0)], none⟩]
  [.op 0, .op 1, .op 2, .op 3, .op 4, .op 5, .op 6, .op 7, .op 8, .op 9]) <|
 .ret

/- sleuth/term.Make -/
def s13_term_Make : SFn := .src 63 [0, 1, 2, 6, 7, 8] [.tmp 3, .tmp 4] <|
 .seq (.reg [
  .set 3 (.op (some 6) .mov [(.k (.str []))]),
  .set 4 (.op (some 7) .mov [(.k (.int .i64 0))])]) <|
 .seq (.reg [
  .set 5 (.op (some 8) .mov [(.k (.str []))])]) <|
 .seq (.block 0 <|
  .ifr [] (.op (some 9) .mov [(.and 25 28 (.and 20 24 (.and 16 19 (.and 12 15 (.op (some 11) (.binI .eql) [(.v 0 (some 10)), (.k (.int .i64 2))]) (.op (some 14) (.binI .geq) [(.v 1 (some 13)), (.k (.int .i64 0))])) (.op (some 18) (.binI .leq) [(.v 1 (some 17)), (.k (.int .i64 99))])) (.op (some 23) (.binI .leq) [(.op (some 22) .lenL [(.v 2 (some 21))]), (.k (.int .i64 3))])) (.op (some 27) (.call 26) [(.v 2 (some 26))]))])
   (.reg [
    .set 5 (.op (some 8) .mov [(.op (some 31) (.call 27) [(.v 1 (some 29)), (.v 2 (some 30))])])])
   (.ifr [] (.op (some 32) .mov [(.op (some 35) (.binI .gtr) [(.op (some 34) .lenL [(.v 2 (some 33))]), (.k (.int .i64 0))])])
    (.skip)
    (.ifr [] (.op (some 36) .mov [(.and 39 42 (.op (some 38) (.binI .eql) [(.v 0 (some 37)), (.k (.int .i64 0))]) (.op (some 41) (.binI .eql) [(.v 1 (some 40)), (.k (.int .i64 0))]))])
     (.reg [
      .set 5 (.op (some 8) .mov [(.k (.str [95]))])])
     (.ifr [] (.op (some 43) .mov [(.and 46 49 (.op (some 45) (.binI .eql) [(.v 0 (some 44)), (.k (.int .i64 3))]) (.op (some 48) (.binI .eql) [(.v 1 (some 47)), (.k (.int .i64 0))]))])
      (.reg [
       .set 5 (.op (some 8) .mov [(.k (.str [33]))])])
      (.ifr [] (.op (some 50) .mov [(.and 53 56 (.op (some 52) (.binI .eql) [(.v 0 (some 51)), (.k (.int .i64 1))]) (.op (some 55) (.call 28) [(.v 1 (some 54))]))])
       (.reg [
        .set 5 (.op (some 8) .mov [(.op (some 58) (.call 29) [(.v 1 (some 57))])])])
       (.skip)))))) <|
 .seq (.ifr [] (.op (some 61) .notB [(.op (some 60) (.call 17) [(.v 5 (some 59))])])
  (.seq (.reg [
   .set 3 (.op (some 6) .mov [(.k (.str []))]),
   .set 4 (.op (some 7) .mov [(.k (.int .i64 200))])]) <|
  .ret)
  (.skip)) <|
 .seq (.reg [
  .set 3 (.op (some 6) .mov [(.v 5 (some 62))]),
  .set 4 (.op (some 7) .mov [(.k (.int .i64 0))])]) <|
 .ret

/- sleuth/sleuthref1.Make -/
def s14_sleuthref1_Make : SFn := .src 70 [0, 1, 2, 6, 7, 8, 9, 10, 11, 12, 21, 44, 47, 48, 49, 50] [.tmp 3, .tmp 4] <|
 .seq (.reg [
  .set 3 (.op (some 6) .mov [(.k (.str []))]),
  .set 4 (.op (some 7) .mov [(.k (.int .i64 0))])]) <|
 .seq (.ifr [] (.or 16 20 (.op (some 15) (.binI .gtr) [(.op (some 14) .lenL [(.v 2 (some 13))]), (.k (.int .i64 3))]) (.op (some 19) .notB [(.op (some 18) (.call 30) [(.v 1 (some 17)), (.k (.int .i64 (-32768))), (.k (.int .i64 32767))])]))
  (.seq (.reg [
   .set 3 (.op (some 6) .mov [(.k (.str []))]),
   .set 4 (.op (some 7) .mov [(.k (.int .i64 200))])]) <|
  .ret)
  (.skip)) <|
 .seq (.reg [
  .set 5 (.op (some 8) .mov [(.k (.str []))])]) <|
 .seq (.seq (.reg [
  .set 10 (.op (some 21) .mov [(.v 0 none)])]) <|
 .block 0 <|
  .ifr [] (.op (some 22) .mov [(.op (some 23) (.binI .eql) [(.v 10 none), (.k (.int .i64 0))])])
   (.reg [
    .set 5 (.op (some 8) .mov [(.k (.str [95]))])])
   (.ifr [] (.op (some 24) .mov [(.op (some 25) (.binI .eql) [(.v 10 none), (.k (.int .i64 3))])])
    (.reg [
     .set 5 (.op (some 8) .mov [(.k (.str [33]))])])
    (.ifr [] (.op (some 26) .mov [(.op (some 27) (.binI .eql) [(.v 10 none), (.k (.int .i64 1))])])
     (.reg [
      .set 5 (.op (some 8) .mov [(.op (some 29) (.call 22) [(.v 1 (some 28))])])])
     (.ifr [] (.op (some 30) .mov [(.op (some 31) (.binI .eql) [(.v 10 none), (.k (.int .i64 2))])])
      (.seq (.reg [
       .set 5 (.op (some 8) .mov [(.op (some 34) (.binS .add) [(.k (.str [64])), (.op (some 33) (.call 22) [(.v 1 (some 32))])])])]) <|
      .ifr [] (.op (some 37) (.binI .gtr) [(.op (some 36) .lenL [(.v 2 (some 35))]), (.k (.int .i64 0))])
       (.reg [
        .set 5 (.op (some 8) .mov [(.op (some 43) (.binS .add) [(.op (some 42) (.binS .add) [(.op (some 39) (.binS .add) [(.v 5 (some 38)), (.k (.str [40]))]), (.op (some 41) (.call 31) [(.v 2 (some 40))])]), (.k (.str [41]))])])])
       (.skip))
      (.skip))))) <|
 .seq (.reg [
  .set 11 (.op (some 44) .mov [(.op (some 46) (.call 12) [(.v 5 (some 45))])]),
  .set 12 (.op (some 47) (.ext 0) [(.v 11 none)]),
  .set 13 (.op (some 48) (.ext 1) [(.v 11 none)]),
  .set 14 (.op (some 49) (.ext 2) [(.v 11 none)]),
  .set 15 (.op (some 50) (.ext 3) [(.v 11 none)]),
  .set 6 (.op (some 9) .mov [(.v 12 none)]),
  .set 7 (.op (some 10) .mov [(.v 13 none)]),
  .set 8 (.op (some 11) .mov [(.v 14 none)]),
  .set 9 (.op (some 12) .mov [(.v 15 none)])]) <|
 .seq (.ifr [] (.or 63 68 (.or 58 62 (.or 53 57 (.op (some 52) (.binI .neq) [(.v 9 (some 51)), (.k (.int .i64 0))]) (.op (some 56) (.binI .neq) [(.v 6 (some 54)), (.v 0 (some 55))])) (.op (some 61) (.binI .neq) [(.v 7 (some 59)), (.v 1 (some 60))])) (.op (some 67) .notB [(.op (some 66) (.call 32) [(.v 8 (some 64)), (.v 2 (some 65))])]))
  (.seq (.reg [
   .set 3 (.op (some 6) .mov [(.k (.str []))]),
   .set 4 (.op (some 7) .mov [(.k (.int .i64 200))])]) <|
  .ret)
  (.skip)) <|
 .seq (.reg [
  .set 3 (.op (some 6) .mov [(.v 5 (some 69))]),
  .set 4 (.op (some 7) .mov [(.k (.int .i64 0))])]) <|
 .ret

/- sleuth/sleuthlaw0.SameTexts -/
def s15_sleuthlaw0_SameTexts : SFn := .src 26 [0, 1, 4, 5, 25] [.tmp 2] <|
 .seq (.reg [
  .set 2 (.op (some 4) .mov [(.k (.bool false))])]) <|
 .seq (.ifr [] (.op (some 10) (.binI .neq) [(.op (some 7) .lenL [(.v 0 (some 6))]), (.op (some 9) .lenL [(.v 1 (some 8))])])
  (.seq (.reg [
   .set 2 (.op (some 4) .mov [(.k (.bool false))])]) <|
  .ret)
  (.skip)) <|
 .seq (.seq (.reg [
  .set 3 (.op (some 5) .mov [(.k (.int .i64 0))])]) <|
 .block 0 <|
  .loop [0, 1, 3] <|
   .seq (.ifr [] (.op (some 14) (.binI .lss) [(.v 3 (some 11)), (.op (some 13) .lenL [(.v 0 (some 12))])])
    (.skip)
    (.exit 0)) <|
   .seq (.block 1 <|
    .seq (.dreg [17, 18, 19, 20, 21, 22, 23, 24] [
     ⟨(some 5), .mov, [.t 0], none⟩,
     ⟨(some 6), .mov, [.t 3], none⟩,
     ⟨(some 7), .iadr 1, [.t 5, .t 6], none⟩,
     ⟨(some 8), .load1, [.t 7], none⟩,
     ⟨(some 9), .mov, [.t 1], none⟩,
     ⟨(some 10), .mov, [.t 3], none⟩,
     ⟨(some 11), .iadr 1, [.t 9, .t 10], none⟩,
     ⟨(some 12), .load1, [.t 11], none⟩,
     ⟨(some 4), .binS .neq, [.t 8, .t 12], none⟩]
     [.op 0, .op 1, .op 2, .op 3, .op 4, .op 5, .op 6, .op 7, .op 8]) <|
    .cond (.t 4)
     (.seq (.reg [
      .set 2 (.op (some 4) .mov [(.k (.bool false))])]) <|
     .ret)
     (.skip)) <|
   .reg [
    .set 3 (.op (some 5) .mov [(.op (some 16) (.binI .add) [(.v 3 (some 15)), (.k (.int .i64 1))])])]) <|
 .seq (.reg [
  .set 2 (.op (some 4) .mov [(.k (.bool true))])]) <|
 .ret

/- sleuth/sleuthlaw0.Num -/
def s16_sleuthlaw0_Num : SFn := .src 4 [0, 2] [.tmp 1] <|
 .seq (.reg [
  .set 1 (.op (some 2) .mov [(.k (.int .i64 0))])]) <|
 .seq (.reg [
  .set 1 (.op (some 2) .mov [(.v 0 (some 3))])]) <|
 .ret

/- sleuth/term.May -/
def s17_term_May : SFn := .src 24 [0, 2, 6, 7, 11, 14, 15, 16, 17, 18] [.tmp 1] <|
 .seq (.reg [
  .set 1 (.op (some 2) .mov [(.k (.bool false))])]) <|
 .seq (.ifr [] (.op (some 10) (.binI .gtr) [(.op (some 9) .lenS [(.v 0 (some 8))]), (.k (.int .i64 1024))])
  (.seq (.reg [
   .set 1 (.op (some 2) .mov [(.k (.bool false))])]) <|
  .ret)
  (.skip)) <|
 .seq (.reg [
  .set 4 (.op (some 11) .mov [(.op (some 13) (.call 24) [(.v 0 (some 12))])]),
  .set 5 (.op (some 14) (.ext 0) [(.v 4 none)]),
  .set 6 (.op (some 15) (.ext 1) [(.v 4 none)]),
  .set 7 (.op (some 16) (.ext 2) [(.v 4 none)]),
  .set 8 (.op (some 17) (.ext 3) [(.v 4 none)]),
  .set 9 (.op (some 18) (.ext 4) [(.v 4 none)]),
  .ef (.v 5 (some 3)),
  .ef (.v 6 (some 4)),
  .ef (.v 7 (some 5)),
  .set 2 (.op (some 6) .mov [(.v 8 none)]),
  .set 3 (.op (some 7) .mov [(.v 9 none)])]) <|
 .seq (.reg [
  .set 1 (.op (some 2) .mov [(.and 20 23 (.v 3 (some 19)) (.op (some 22) (.binS .eql) [(.v 2 (some 21)), (.k (.str []))]))])]) <|
 .ret

/- sleuth/sleuthref1.TermMay -/
def s18_sleuthref1_TermMay : SFn := .src 16 [0, 2, 6, 7, 10, 11, 12, 13] [.tmp 1] <|
 .seq (.reg [
  .set 1 (.op (some 2) .mov [(.k (.bool false))])]) <|
 .seq (.reg [
  .set 3 (.op (some 7) .mov [(.op (some 9) (.call 12) [(.v 0 (some 8))])]),
  .set 4 (.op (some 10) (.ext 0) [(.v 3 none)]),
  .set 5 (.op (some 11) (.ext 1) [(.v 3 none)]),
  .set 6 (.op (some 12) (.ext 2) [(.v 3 none)]),
  .set 7 (.op (some 13) (.ext 3) [(.v 3 none)]),
  .ef (.v 4 (some 3)),
  .ef (.v 5 (some 4)),
  .ef (.v 6 (some 5)),
  .set 2 (.op (some 6) .mov [(.v 7 none)])]) <|
 .seq (.reg [
  .set 1 (.op (some 2) .mov [(.op (some 15) (.binI .eql) [(.v 2 (some 14)), (.k (.int .i64 0))])])]) <|
 .ret

/- sleuth/sleuthlaw0.SpoilTexts -/
def s19_sleuthlaw0_SpoilTexts : SFn := .src 17 [0, 2, 9, 10] [] <|
 .seq (.reg [
  .set 1 (.op (some 2) .mov [(.k (.int .i64 0))])]) <|
 .block 0 <|
  .loop [0, 1] <|
   .seq (.ifr [] (.op (some 6) (.binI .lss) [(.v 1 (some 3)), (.op (some 5) .lenL [(.v 0 (some 4))])])
    (.skip)
    (.exit 0)) <|
   .seq (.block 1 <|
    .reg [
     .set 2 (.op (some 9) .mov [(.v 0 none)]),
     .set 3 (.op (some 10) .mov [(.v 1 none)]),
     .ef (.opr none (.store 1) (.op (some 16) (.iadr 1) [(.v 2 none), (.v 3 none)]) (.op (some 15) (.binS .add) [(.k (.str [126])), (.op (some 14) .load1 [(.op (some 13) (.iadr 1) [(.v 0 (some 11)), (.v 1 (some 12))])])]))]) <|
   .reg [
    .set 1 (.op (some 2) .mov [(.op (some 8) (.binI .add) [(.v 1 (some 7)), (.k (.int .i64 1))])])]

/- sleuth/sleuthlaw0.KeptTexts -/
def s20_sleuthlaw0_KeptTexts : SFn := .src 31 [0, 1, 4, 5] [.tmp 2] <|
 .seq (.reg [
  .set 2 (.op (some 4) .mov [(.k (.bool false))])]) <|
 .seq (.reg [
  .set 3 (.op (some 5) .mov [(.op (some 10) (.slL 1 false true false) [(.v 0 (some 6)), (.op (some 9) (.binI .add) [(.op (some 8) .lenL [(.v 0 (some 7))]), (.k (.int .i64 2))])])])]) <|
 .seq (.reg [
  .set 2 (.op (some 4) .mov [(.and 22 30 (.and 14 21 (.op (some 13) (.call 15) [(.v 0 (some 11)), (.v 1 (some 12))]) (.op (some 20) (.binS .eql) [(.op (some 19) .load1 [(.op (some 18) (.iadr 1) [(.v 3 (some 15)), (.op (some 17) .lenL [(.v 1 (some 16))])])]), (.k (.str [126, 114, 111, 111, 109]))])) (.op (some 29) (.binS .eql) [(.op (some 28) .load1 [(.op (some 27) (.iadr 1) [(.v 3 (some 23)), (.op (some 26) (.binI .add) [(.op (some 25) .lenL [(.v 1 (some 24))]), (.k (.int .i64 1))])])]), (.k (.str [126, 98, 101, 104, 105, 110, 100]))]))])]) <|
 .ret

/- sleuth/sleuthref0.Decimal -/
def s22_sleuthref0_Decimal : SFn := .src 37 [0, 2, 3, 4] [.tmp 1] <|
 .seq (.reg [
  .set 1 (.op (some 2) .mov [(.k (.str []))])]) <|
 .seq (.reg [
  .set 2 (.op (some 3) .mov [(.op (some 6) (.conv .u64) [(.v 0 (some 5))])])]) <|
 .seq (.ifr [] (.op (some 8) (.binI .lss) [(.v 0 (some 7)), (.k (.int .i64 0))])
  (.reg [
   .set 2 (.op (some 3) .mov [(.op (some 13) (.binI .add) [(.op (some 12) (.conv .u64) [(.op (some 11) .negI [(.op (some 10) (.binI .add) [(.v 0 (some 9)), (.k (.int .i64 1))])])]), (.k (.int .u64 1))])])])
  (.skip)) <|
 .seq (.reg [
  .set 3 (.op (some 4) .mov [(.k .nils)])]) <|
 .seq (.block 0 <|
  .loop [0, 2, 3] <|
   .seq (.ifr [] (.or 16 20 (.op (some 15) (.binI .gtr) [(.v 2 (some 14)), (.k (.int .u64 0))]) (.op (some 19) (.binI .eql) [(.op (some 18) .lenL [(.v 3 (some 17))]), (.k (.int .i64 0))]))
    (.skip)
    (.exit 0)) <|
   .block 1 <|
    .seq (.reg [
     .set 3 (.op (some 4) .mov [(.op (some 27) (.app 0 1 1) [(.op (some 25) (.bslice 0 [(.int .u8 0)] 1 [(0, 1)]) [(.op (some 24) (.conv .u8) [(.op (some 23) (.binI .add) [(.k (.int .u64 48)), (.op (some 22) (.binI .rem) [(.v 2 (some 21)), (.k (.int .u64 10))])])])]), (.v 3 (some 26))])])]) <|
    .reg [
     .set 2 (.op (some 3) .mov [(.op (some 29) (.binI .quo) [(.v 2 (some 28)), (.k (.int .u64 10))])])]) <|
 .seq (.ifr [] (.op (some 31) (.binI .lss) [(.v 0 (some 30)), (.k (.int .i64 0))])
  (.reg [
   .set 3 (.op (some 4) .mov [(.op (some 34) (.app 0 1 1) [(.op (some 32) (.bslice 0 [(.int .u8 0)] 1 [(0, 1)]) [(.k (.int .u8 45))]), (.v 3 (some 33))])])])
  (.skip)) <|
 .seq (.reg [
  .set 1 (.op (some 2) .mov [(.op (some 36) .b2s [(.v 3 (some 35))])])]) <|
 .ret

/- sleuth/sleuthlaw0.CopyTexts -/
def s23_sleuthlaw0_CopyTexts : SFn := .src 6 [0, 2] [.tmp 1] <|
 .seq (.reg [
  .set 1 (.op (some 2) .mov [(.k .nils)])]) <|
 .seq (.reg [
  .set 1 (.op (some 2) .mov [(.op (some 5) (.app 0 1 16) [(.op (some 3) (.bslice 0 [] 0 []) []), (.v 0 (some 4))])])]) <|
 .ret

/- sleuth/term.cut -/
def s24_term_cut : SFn := .src 94 [0, 2, 3, 4, 5, 6, 7, 8, 9, 10, 11, 12, 13, 14, 18, 19, 20, 21, 22, 25, 26, 29, 32, 33, 36, 37, 39, 40, 41, 44, 45, 53, 54, 55, 61, 64, 65, 66, 67, 68, 80, 81, 85, 88, 89, 90, 91, 92, 93] [.tmp 1, .tmp 2, .tmp 3, .tmp 4, .tmp 5] <|
 .seq (.reg [
  .set 1 (.op (some 2) .mov [(.k (.int .i64 0))]),
  .set 2 (.op (some 3) .mov [(.k (.int .i64 0))]),
  .set 3 (.op (some 4) .mov [(.k .nils)]),
  .set 4 (.op (some 5) .mov [(.k (.str []))]),
  .set 5 (.op (some 6) .mov [(.k (.bool false))])]) <|
 .seq (.reg [
  .set 18 (.op (some 22) .mov [(.op (some 24) (.call 33) [(.v 0 (some 23))])]),
  .set 19 (.op (some 25) (.ext 0) [(.v 18 none)]),
  .set 20 (.op (some 26) (.ext 1) [(.v 18 none)]),
  .set 6 (.op (some 7) .mov [(.v 19 none)]),
  .set 7 (.op (some 8) .mov [(.v 20 none)])]) <|
 .seq (.ifr [] (.op (some 28) (.binS .eql) [(.v 6 (some 27)), (.k (.str [95]))])
  (.seq (.reg [
   .set 21 (.op (some 29) .mov [(.v 7 none)]),
   .set 1 (.op (some 2) .mov [(.k (.int .i64 0))]),
   .set 2 (.op (some 3) .mov [(.k (.int .i64 0))]),
   .set 3 (.op (some 4) .mov [(.k .nils)]),
   .set 4 (.op (some 5) .mov [(.v 21 none)]),
   .set 5 (.op (some 6) .mov [(.k (.bool true))])]) <|
  .ret)
  (.skip)) <|
 .seq (.ifr [] (.op (some 31) (.binS .eql) [(.v 6 (some 30)), (.k (.str [33]))])
  (.seq (.reg [
   .set 22 (.op (some 32) .mov [(.v 7 none)]),
   .set 1 (.op (some 2) .mov [(.k (.int .i64 3))]),
   .set 2 (.op (some 3) .mov [(.k (.int .i64 0))]),
   .set 3 (.op (some 4) .mov [(.k .nils)]),
   .set 4 (.op (some 5) .mov [(.v 22 none)]),
   .set 5 (.op (some 6) .mov [(.k (.bool true))])]) <|
  .ret)
  (.skip)) <|
 .seq (.seq (.reg [
  .set 23 (.op (some 33) .mov [(.op (some 35) (.call 34) [(.v 6 (some 34))])]),
  .set 24 (.op (some 36) (.ext 0) [(.v 23 none)]),
  .set 25 (.op (some 37) (.ext 1) [(.v 23 none)]),
  .set 8 (.op (some 9) .mov [(.v 24 none)]),
  .set 9 (.op (some 10) .mov [(.v 25 none)])]) <|
 .ifr [] (.v 9 (some 38))
  (.seq (.reg [
   .set 26 (.op (some 39) .mov [(.v 8 none)]),
   .set 27 (.op (some 40) .mov [(.v 7 none)]),
   .set 1 (.op (some 2) .mov [(.k (.int .i64 1))]),
   .set 2 (.op (some 3) .mov [(.v 26 none)]),
   .set 3 (.op (some 4) .mov [(.k .nils)]),
   .set 4 (.op (some 5) .mov [(.v 27 none)]),
   .set 5 (.op (some 6) .mov [(.k (.bool true))])]) <|
  .ret)
  (.skip)) <|
 .seq (.reg [
  .set 28 (.op (some 41) .mov [(.op (some 43) (.call 35) [(.v 6 (some 42))])]),
  .set 29 (.op (some 44) (.ext 0) [(.v 28 none)]),
  .set 30 (.op (some 45) (.ext 1) [(.v 28 none)]),
  .set 10 (.op (some 11) .mov [(.v 29 none)]),
  .set 11 (.op (some 12) .mov [(.v 30 none)])]) <|
 .seq (.ifr [] (.or 48 52 (.op (some 47) .notB [(.v 11 (some 46))]) (.op (some 51) .notB [(.op (some 50) (.call 36) [(.v 7 (some 49)), (.k (.str [40]))])]))
  (.seq (.reg [
   .set 31 (.op (some 53) .mov [(.v 10 none)]),
   .set 32 (.op (some 54) .mov [(.v 7 none)]),
   .set 33 (.op (some 55) .mov [(.v 11 none)]),
   .set 1 (.op (some 2) .mov [(.k (.int .i64 2))]),
   .set 2 (.op (some 3) .mov [(.v 31 none)]),
   .set 3 (.op (some 4) .mov [(.k .nils)]),
   .set 4 (.op (some 5) .mov [(.v 32 none)]),
   .set 5 (.op (some 6) .mov [(.v 33 none)])]) <|
  .ret)
  (.skip)) <|
 .seq (.reg [
  .set 12 (.op (some 13) .mov [(.k .nils)])]) <|
 .seq (.block 0 <|
  .loop [7, 10, 12] <|
   .seq (.ifr [] (.op (some 58) (.binI .lss) [(.op (some 57) .lenL [(.v 12 (some 56))]), (.k (.int .i64 3))])
    (.skip)
    (.exit 0)) <|
   .block 1 <|
    .seq (.reg [
     .set 13 (.op (some 14) .mov [(.op (some 60) (.slS true false) [(.v 7 (some 59)), (.k (.int .i64 1))])])]) <|
    .seq (.reg [
     .set 34 (.op (some 61) .mov [(.op (some 63) (.call 24) [(.v 13 (some 62))])]),
     .set 35 (.op (some 64) (.ext 0) [(.v 34 none)]),
     .set 36 (.op (some 65) (.ext 1) [(.v 34 none)]),
     .set 37 (.op (some 66) (.ext 2) [(.v 34 none)]),
     .set 38 (.op (some 67) (.ext 3) [(.v 34 none)]),
     .set 39 (.op (some 68) (.ext 4) [(.v 34 none)]),
     .ef (.v 35 (some 15)),
     .ef (.v 36 (some 16)),
     .ef (.v 37 (some 17)),
     .set 14 (.op (some 18) .mov [(.v 38 none)]),
     .set 15 (.op (some 19) .mov [(.v 39 none)])]) <|
    .seq (.ifr [] (.op (some 70) .notB [(.v 15 (some 69))])
     (.seq (.reg [
      .set 1 (.op (some 2) .mov [(.k (.int .i64 0))]),
      .set 2 (.op (some 3) .mov [(.k (.int .i64 0))]),
      .set 3 (.op (some 4) .mov [(.k .nils)]),
      .set 4 (.op (some 5) .mov [(.k (.str []))]),
      .set 5 (.op (some 6) .mov [(.k (.bool false))])]) <|
     .ret)
     (.skip)) <|
    .seq (.reg [
     .set 40 (.op (some 80) (.app 0 1 16) [(.v 12 (some 71)), (.op (some 79) (.bslice 0 [(.str [])] 1 [(0, 1)]) [(.op (some 78) (.slS false true) [(.v 13 (some 72)), (.op (some 77) (.binI .sub) [(.op (some 74) .lenS [(.v 13 (some 73))]), (.op (some 76) .lenS [(.v 14 (some 75))])])])])]),
     .set 41 (.op (some 81) .mov [(.v 14 none)]),
     .set 12 (.op (some 13) .mov [(.v 40 none)]),
     .set 7 (.op (some 8) .mov [(.v 41 none)])]) <|
    .ifr [] (.op (some 84) .notB [(.op (some 83) (.call 36) [(.v 7 (some 82)), (.k (.str [32]))])])
     (.exit 0)
     (.skip)) <|
 .seq (.reg [
  .set 42 (.op (some 85) .mov [(.op (some 87) (.call 37) [(.v 7 (some 86)), (.k (.str [41]))])]),
  .set 43 (.op (some 88) (.ext 0) [(.v 42 none)]),
  .set 44 (.op (some 89) (.ext 1) [(.v 42 none)]),
  .set 16 (.op (some 20) .mov [(.v 43 none)]),
  .set 17 (.op (some 21) .mov [(.v 44 none)])]) <|
 .seq (.reg [
  .set 45 (.op (some 90) .mov [(.v 10 none)]),
  .set 46 (.op (some 91) .mov [(.v 12 none)]),
  .set 47 (.op (some 92) .mov [(.v 16 none)]),
  .set 48 (.op (some 93) .mov [(.v 17 none)]),
  .set 1 (.op (some 2) .mov [(.k (.int .i64 2))]),
  .set 2 (.op (some 3) .mov [(.v 45 none)]),
  .set 3 (.op (some 4) .mov [(.v 46 none)]),
  .set 4 (.op (some 5) .mov [(.v 47 none)]),
  .set 5 (.op (some 6) .mov [(.v 48 none)])]) <|
 .ret

/- sleuth/sleuthref1.term -/
def s25_sleuthref1_term : SFn := .src 122 [0, 1, 4, 5, 6, 7, 8, 9, 10, 11, 19, 32, 38, 39, 52, 74, 80, 81, 102, 107, 108] [.cellN 2 4] <|
 .seq (.reg [
  .set 2 (.op (some 4) (.alloc 0 [(.int .i64 0), (.int .i64 0), .nils, (.int .i64 0)]) [])]) <|
 .seq (.ifr [] (.op (some 15) (.binI .geq) [(.v 1 (some 12)), (.op (some 14) .lenS [(.v 0 (some 13))])])
  (.seq (.reg [
   .ef (.op none (.store 4) [(.v 2 none), (.op (some 16) (.call 38) [])])]) <|
  .ret)
  (.skip)) <|
 .seq (.seq (.reg [
  .set 10 (.op (some 19) .idxS [(.v 0 (some 17)), (.v 1 (some 18))])]) <|
 .block 0 <|
  .ifr [] (.op (some 20) .mov [(.op (some 21) (.binI .eql) [(.v 10 none), (.k (.int .u8 95))])])
   (.seq (.reg [
    .ef (.op none (.store 4) [(.v 2 none), (.op (some 24) (.build [(.int .i64 0), (.int .i64 0), .nils, (.int .i64 0)] [(0, 1), (3, 1)]) [(.k (.int .i64 0)), (.op (some 23) (.binI .add) [(.v 1 (some 22)), (.k (.int .i64 1))])])])]) <|
   .ret)
   (.ifr [] (.op (some 25) .mov [(.op (some 26) (.binI .eql) [(.v 10 none), (.k (.int .u8 33))])])
    (.seq (.reg [
     .ef (.op none (.store 4) [(.v 2 none), (.op (some 29) (.build [(.int .i64 0), (.int .i64 0), .nils, (.int .i64 0)] [(0, 1), (3, 1)]) [(.k (.int .i64 3)), (.op (some 28) (.binI .add) [(.v 1 (some 27)), (.k (.int .i64 1))])])])]) <|
    .ret)
    (.ifr [] (.op (some 30) .mov [(.op (some 31) (.binI .eql) [(.v 10 none), (.k (.int .u8 64))])])
     (.seq (.reg [
      .set 11 (.op (some 32) .mov [(.op (some 37) (.call 39) [(.op (some 36) (.slS true false) [(.v 0 (some 33)), (.op (some 35) (.binI .add) [(.v 1 (some 34)), (.k (.int .i64 1))])])])]),
      .set 12 (.op (some 38) (.ext 0) [(.v 11 none)]),
      .set 13 (.op (some 39) (.ext 1) [(.v 11 none)]),
      .set 3 (.op (some 5) .mov [(.v 12 none)]),
      .set 4 (.op (some 6) .mov [(.v 13 none)])]) <|
     .seq (.ifr [] (.or 42 45 (.op (some 41) (.binI .eql) [(.v 4 (some 40)), (.k (.int .i64 0))]) (.op (some 44) (.binI .gtr) [(.v 3 (some 43)), (.k (.int .i64 99))]))
      (.seq (.reg [
       .ef (.op none (.store 4) [(.v 2 none), (.op (some 46) (.call 38) [])])]) <|
      .ret)
      (.skip)) <|
     .seq (.reg [
      .set 14 (.op (some 52) (.build [(.int .i64 0), (.int .i64 0), .nils, (.int .i64 0)] [(0, 1), (1, 1), (3, 1)]) [(.k (.int .i64 2)), (.v 3 (some 47)), (.op (some 51) (.binI .add) [(.op (some 49) (.binI .add) [(.v 1 (some 48)), (.k (.int .i64 1))]), (.v 4 (some 50))])]),
      .set 5 (.op (some 7) (.alloc 0 [(.int .i64 0), (.int .i64 0), .nils, (.int .i64 0)]) []),
      .ef (.op none (.store 4) [(.v 5 none), (.v 14 none)])]) <|
     .seq (.ifr [] (.and 58 64 (.op (some 57) (.binI .lss) [(.op (some 54) .load1 [(.op (some 53) (.fadr 3) [(.v 5 none)])]), (.op (some 56) .lenS [(.v 0 (some 55))])]) (.op (some 63) (.binI .eql) [(.op (some 62) .idxS [(.v 0 (some 59)), (.op (some 61) .load1 [(.op (some 60) (.fadr 3) [(.v 5 none)])])]), (.k (.int .u8 40))]))
      (.seq (.reg [
       .ef (.op none (.store 4) [(.v 2 none), (.op (some 70) (.call 40) [(.v 0 (some 65)), (.op (some 66) (.loadN 4) [(.v 5 none)]), (.op (some 69) (.binI .add) [(.op (some 68) .load1 [(.op (some 67) (.fadr 3) [(.v 5 none)])]), (.k (.int .i64 1))])])])]) <|
      .ret)
      (.skip)) <|
     .seq (.reg [
      .ef (.op none (.store 4) [(.v 2 none), (.op (some 71) (.loadN 4) [(.v 5 none)])])]) <|
     .ret)
     (.ifr [] (.op (some 72) .mov [(.op (some 73) (.binI .eql) [(.v 10 none), (.k (.int .u8 45))])])
      (.seq (.reg [
       .set 15 (.op (some 74) .mov [(.op (some 79) (.call 39) [(.op (some 78) (.slS true false) [(.v 0 (some 75)), (.op (some 77) (.binI .add) [(.v 1 (some 76)), (.k (.int .i64 1))])])])]),
       .set 16 (.op (some 80) (.ext 0) [(.v 15 none)]),
       .set 17 (.op (some 81) (.ext 1) [(.v 15 none)]),
       .set 6 (.op (some 8) .mov [(.v 16 none)]),
       .set 7 (.op (some 9) .mov [(.v 17 none)])]) <|
      .seq (.ifr [] (.or 88 93 (.or 84 87 (.op (some 83) (.binI .eql) [(.v 7 (some 82)), (.k (.int .i64 0))]) (.op (some 86) (.binI .eql) [(.v 6 (some 85)), (.k (.int .i64 0))])) (.op (some 92) .notB [(.op (some 91) (.call 41) [(.op (some 90) .negI [(.v 6 (some 89))])])]))
       (.seq (.reg [
        .ef (.op none (.store 4) [(.v 2 none), (.op (some 94) (.call 38) [])])]) <|
       .ret)
       (.skip)) <|
      .seq (.reg [
       .ef (.op none (.store 4) [(.v 2 none), (.op (some 101) (.build [(.int .i64 0), (.int .i64 0), .nils, (.int .i64 0)] [(0, 1), (1, 1), (3, 1)]) [(.k (.int .i64 1)), (.op (some 96) .negI [(.v 6 (some 95))]), (.op (some 100) (.binI .add) [(.op (some 98) (.binI .add) [(.v 1 (some 97)), (.k (.int .i64 1))]), (.v 7 (some 99))])])])]) <|
      .ret)
      (.skip))))) <|
 .seq (.reg [
  .set 18 (.op (some 102) .mov [(.op (some 106) (.call 39) [(.op (some 105) (.slS true false) [(.v 0 (some 103)), (.v 1 (some 104))])])]),
  .set 19 (.op (some 107) (.ext 0) [(.v 18 none)]),
  .set 20 (.op (some 108) (.ext 1) [(.v 18 none)]),
  .set 8 (.op (some 10) .mov [(.v 19 none)]),
  .set 9 (.op (some 11) .mov [(.v 20 none)])]) <|
 .seq (.ifr [] (.or 111 115 (.op (some 110) (.binI .eql) [(.v 9 (some 109)), (.k (.int .i64 0))]) (.op (some 114) .notB [(.op (some 113) (.call 41) [(.v 8 (some 112))])]))
  (.seq (.reg [
   .ef (.op none (.store 4) [(.v 2 none), (.op (some 116) (.call 38) [])])]) <|
  .ret)
  (.skip)) <|
 .seq (.reg [
  .ef (.op none (.store 4) [(.v 2 none), (.op (some 121) (.build [(.int .i64 0), (.int .i64 0), .nils, (.int .i64 0)] [(0, 1), (1, 1), (3, 1)]) [(.k (.int .i64 1)), (.v 8 (some 117)), (.op (some 120) (.binI .add) [(.v 1 (some 118)), (.v 9 (some 119))])])])]) <|
 .ret

/- sleuth/term.All -/
def s26_term_All : SFn := .src 15 [0, 2, 4, 5, 6, 7, 8] [.tmp 1] <|
 .seq (.reg [
  .set 1 (.op (some 2) .mov [(.k (.bool false))])]) <|
 .seq (.seq (.reg [
  .set 3 (.op (some 5) .mov [(.v 0 none)]),
  .set 4 (.op (some 6) .lenL [(.v 3 none)]),
  .set 5 (.op (some 7) .mov [(.k (.int .i64 0))])]) <|
 .block 0 <|
  .loop [3, 4, 5] <|
   .seq (.reg [
    .set 6 (.op (some 8) (.binI .lss) [(.v 5 none), (.v 4 none)])]) <|
   .seq (.cond (.t 6)
    (.skip)
    (.exit 0)) <|
   .seq (.block 1 <|
    .seq (.reg [
     .set 2 (.op (some 4) .mov [(.op (some 10) .load1 [(.op (some 9) (.iadr 1) [(.v 3 none), (.v 5 none)])])])]) <|
    .ifr [] (.op (some 13) .notB [(.op (some 12) (.call 17) [(.v 2 (some 11))])])
     (.seq (.reg [
      .set 1 (.op (some 2) .mov [(.k (.bool false))])]) <|
     .ret)
     (.skip)) <|
   .reg [
    .set 5 (.op (some 7) .mov [(.op (some 14) (.binI .add) [(.v 5 none), (.k (.int .i64 1))])])]) <|
 .seq (.reg [
  .set 1 (.op (some 2) .mov [(.k (.bool true))])]) <|
 .ret

/- sleuth/term.Con -/
def s27_term_Con : SFn := .src 19 [0, 1, 4, 5] [.tmp 2] <|
 .seq (.reg [
  .set 2 (.op (some 4) .mov [(.k (.str []))])]) <|
 .seq (.reg [
  .set 3 (.op (some 5) .mov [(.op (some 8) (.binS .add) [(.k (.str [64])), (.op (some 7) (.call 29) [(.v 0 (some 6))])])])]) <|
 .seq (.ifr [] (.op (some 11) (.binI .gtr) [(.op (some 10) .lenL [(.v 1 (some 9))]), (.k (.int .i64 0))])
  (.reg [
   .set 3 (.op (some 5) .mov [(.op (some 17) (.binS .add) [(.v 3 (some 12)), (.op (some 16) (.binS .add) [(.op (some 15) (.binS .add) [(.k (.str [40])), (.op (some 14) (.call 42) [(.v 1 (some 13)), (.k (.str [32]))])]), (.k (.str [41]))])])])])
  (.skip)) <|
 .seq (.reg [
  .set 2 (.op (some 4) .mov [(.v 3 (some 18))])]) <|
 .ret

/- sleuth/prim.May -/
def s28_prim_May : SFn := .src 9 [0, 2] [.tmp 1] <|
 .seq (.reg [
  .set 1 (.op (some 2) .mov [(.k (.bool false))])]) <|
 .seq (.reg [
  .set 1 (.op (some 2) .mov [(.and 5 8 (.op (some 4) (.binI .geq) [(.v 0 (some 3)), (.k (.int .i64 (-32768)))]) (.op (some 7) (.binI .leq) [(.v 0 (some 6)), (.k (.int .i64 32767))]))])]) <|
 .ret

/- sleuth/sleuthref1.upTo -/
def s30_sleuthref1_upTo : SFn := .src 15 [0, 1, 2, 6] [.tmp 3] <|
 .seq (.reg [
  .set 3 (.op (some 6) .mov [(.k (.bool false))])]) <|
 .seq (.reg [
  .set 3 (.op (some 6) .mov [(.and 10 14 (.op (some 9) (.binI .geq) [(.v 0 (some 7)), (.v 1 (some 8))]) (.op (some 13) (.binI .leq) [(.v 0 (some 11)), (.v 2 (some 12))]))])]) <|
 .ret

/- sleuth/sleuthref1.Join -/
def s31_sleuthref1_Join : SFn := .src 22 [0, 2, 3, 4] [.tmp 1] <|
 .seq (.reg [
  .set 1 (.op (some 2) .mov [(.k (.str []))])]) <|
 .seq (.reg [
  .set 2 (.op (some 3) .mov [(.k (.str []))])]) <|
 .seq (.seq (.reg [
  .set 3 (.op (some 4) .mov [(.k (.int .i64 0))])]) <|
 .block 0 <|
  .loop [0, 2, 3] <|
   .seq (.ifr [] (.op (some 8) (.binI .lss) [(.v 3 (some 5)), (.op (some 7) .lenL [(.v 0 (some 6))])])
    (.skip)
    (.exit 0)) <|
   .seq (.block 1 <|
    .seq (.ifr [] (.op (some 12) (.binI .gtr) [(.v 3 (some 11)), (.k (.int .i64 0))])
     (.reg [
      .set 2 (.op (some 3) .mov [(.op (some 14) (.binS .add) [(.v 2 (some 13)), (.k (.str [32]))])])])
     (.skip)) <|
    .reg [
     .set 2 (.op (some 3) .mov [(.op (some 20) (.binS .add) [(.v 2 (some 15)), (.op (some 19) .load1 [(.op (some 18) (.iadr 1) [(.v 0 (some 16)), (.v 3 (some 17))])])])])]) <|
   .reg [
    .set 3 (.op (some 4) .mov [(.op (some 10) (.binI .add) [(.v 3 (some 9)), (.k (.int .i64 1))])])]) <|
 .seq (.reg [
  .set 1 (.op (some 2) .mov [(.v 2 (some 21))])]) <|
 .ret

/- sleuth/sleuthref1.same -/
def s32_sleuthref1_same : SFn := .src 26 [0, 1, 4, 5, 25] [.tmp 2] <|
 .seq (.reg [
  .set 2 (.op (some 4) .mov [(.k (.bool false))])]) <|
 .seq (.ifr [] (.op (some 10) (.binI .neq) [(.op (some 7) .lenL [(.v 0 (some 6))]), (.op (some 9) .lenL [(.v 1 (some 8))])])
  (.seq (.reg [
   .set 2 (.op (some 4) .mov [(.k (.bool false))])]) <|
  .ret)
  (.skip)) <|
 .seq (.seq (.reg [
  .set 3 (.op (some 5) .mov [(.k (.int .i64 0))])]) <|
 .block 0 <|
  .loop [0, 1, 3] <|
   .seq (.ifr [] (.op (some 14) (.binI .lss) [(.v 3 (some 11)), (.op (some 13) .lenL [(.v 0 (some 12))])])
    (.skip)
    (.exit 0)) <|
   .seq (.block 1 <|
    .seq (.dreg [17, 18, 19, 20, 21, 22, 23, 24] [
     ⟨(some 5), .mov, [.t 0], none⟩,
     ⟨(some 6), .mov, [.t 3], none⟩,
     ⟨(some 7), .iadr 1, [.t 5, .t 6], none⟩,
     ⟨(some 8), .load1, [.t 7], none⟩,
     ⟨(some 9), .mov, [.t 1], none⟩,
     ⟨(some 10), .mov, [.t 3], none⟩,
     ⟨(some 11), .iadr 1, [.t 9, .t 10], none⟩,
     ⟨(some 12), .load1, [.t 11], none⟩,
     ⟨(some 4), .binS .neq, [.t 8, .t 12], none⟩]
     [.op 0, .op 1, .op 2, .op 3, .op 4, .op 5, .op 6, .op 7, .op 8]) <|
    .cond (.t 4)
     (.seq (.reg [
      .set 2 (.op (some 4) .mov [(.k (.bool false))])]) <|
     .ret)
     (.skip)) <|
   .reg [
    .set 3 (.op (some 5) .mov [(.op (some 16) (.binI .add) [(.v 3 (some 15)), (.k (.int .i64 1))])])]) <|
 .seq (.reg [
  .set 2 (.op (some 4) .mov [(.k (.bool true))])]) <|
 .ret

/- sleuth/term.word -/
def s33_term_word : SFn := .src 17 [0, 2, 3, 4] [.tmp 1, .tmp 2] <|
 .seq (.reg [
  .set 1 (.op (some 2) .mov [(.k (.str []))]),
  .set 2 (.op (some 3) .mov [(.k (.str []))])]) <|
 .seq (.reg [
  .set 3 (.op (some 4) .mov [(.op (some 6) (.call 44) [(.v 0 (some 5)), (.k (.str [32, 40, 41]))])])]) <|
 .seq (.ifr [] (.op (some 8) (.binI .lss) [(.v 3 (some 7)), (.k (.int .i64 0))])
  (.reg [
   .set 3 (.op (some 4) .mov [(.op (some 10) .lenS [(.v 0 (some 9))])])])
  (.skip)) <|
 .seq (.dreg [11, 12, 13, 14, 15, 16] [
  ⟨(some 4), .mov, [.t 0], none⟩,
  ⟨(some 5), .mov, [.t 3], none⟩,
  ⟨(some 6), .slS false true, [.t 4, .t 5], none⟩,
  ⟨(some 7), .mov, [.t 0], none⟩,
  ⟨(some 8), .mov, [.t 3], none⟩,
  ⟨(some 9), .slS true false, [.t 7, .t 8], none⟩,
  ⟨(some 1), .mov, [.t 6], none⟩,
  ⟨(some 2), .mov, [.t 9], none⟩]
  [.op 0, .op 1, .op 2, .op 3, .op 4, .op 5, .op 6, .op 7]) <|
 .ret

/- sleuth/term.Number -/
def s34_term_Number : SFn := .src 24 [0, 2, 3, 4, 5, 6, 9, 10, 11, 23] [.tmp 1, .tmp 2] <|
 .seq (.reg [
  .set 1 (.op (some 2) .mov [(.k (.int .i64 0))]),
  .set 2 (.op (some 3) .mov [(.k (.bool false))])]) <|
 .seq (.reg [
  .set 5 (.op (some 6) .mov [(.op (some 8) (.call 45) [(.v 0 (some 7))])]),
  .set 6 (.op (some 9) (.ext 0) [(.v 5 none)]),
  .set 7 (.op (some 10) (.ext 1) [(.v 5 none)]),
  .set 3 (.op (some 4) .mov [(.v 6 none)]),
  .set 4 (.op (some 5) .mov [(.v 7 none)])]) <|
 .seq (.reg [
  .set 8 (.op (some 11) .mov [(.v 3 none)]),
  .set 9 (.and 18 23 (.and 14 17 (.op (some 13) (.isNil .ifc false) [(.v 4 (some 12))]) (.op (some 16) (.call 28) [(.v 3 (some 15))])) (.op (some 22) (.binS .eql) [(.op (some 20) (.call 29) [(.v 3 (some 19))]), (.v 0 (some 21))])),
  .set 1 (.op (some 2) .mov [(.v 8 none)]),
  .set 2 (.op (some 3) .mov [(.v 9 none)])]) <|
 .ret

/- sleuth/term.Tag -/
def s35_term_Tag : SFn := .src 23 [0, 2, 3, 4, 5, 6, 7, 8, 11, 12, 13, 16, 17, 18, 22] [.tmp 1, .tmp 2] <|
 .seq (.reg [
  .set 1 (.op (some 2) .mov [(.k (.int .i64 0))]),
  .set 2 (.op (some 3) .mov [(.k (.bool false))])]) <|
 .seq (.reg [
  .set 7 (.op (some 8) .mov [(.op (some 10) (.call 37) [(.v 0 (some 9)), (.k (.str [64]))])]),
  .set 8 (.op (some 11) (.ext 0) [(.v 7 none)]),
  .set 9 (.op (some 12) (.ext 1) [(.v 7 none)]),
  .set 3 (.op (some 4) .mov [(.v 8 none)]),
  .set 4 (.op (some 5) .mov [(.v 9 none)])]) <|
 .seq (.reg [
  .set 10 (.op (some 13) .mov [(.op (some 15) (.call 46) [(.v 3 (some 14)), (.k (.int .i64 99))])]),
  .set 11 (.op (some 16) (.ext 0) [(.v 10 none)]),
  .set 12 (.op (some 17) (.ext 1) [(.v 10 none)]),
  .set 5 (.op (some 6) .mov [(.v 11 none)]),
  .set 6 (.op (some 7) .mov [(.v 12 none)])]) <|
 .seq (.reg [
  .set 13 (.op (some 18) .mov [(.v 5 none)]),
  .set 14 (.and 20 22 (.v 4 (some 19)) (.v 6 (some 21))),
  .set 1 (.op (some 2) .mov [(.v 13 none)]),
  .set 2 (.op (some 3) .mov [(.v 14 none)])]) <|
 .ret

/- strings.HasPrefix -/
def s36_strings_HasPrefix : SFn := .src 8 [0, 1, 4] [.tmp 2] <|
 .seq (.reg [
  .set 2 (.op (some 4) .mov [(.k (.bool false))])]) <|
 .seq (.reg [
  .set 2 (.op (some 4) .mov [(.op (some 7) (.call 47) [(.v 0 (some 5)), (.v 1 (some 6))])])]) <|
 .ret

/- strings.CutPrefix -/
def s37_strings_CutPrefix : SFn := .src 11 [0, 1, 4, 5, 8, 9, 10] [.tmp 2, .tmp 3] <|
 .seq (.reg [
  .set 2 (.op (some 4) .mov [(.k (.str []))]),
  .set 3 (.op (some 5) .mov [(.k (.bool false))])]) <|
 .seq (.reg [
  .set 4 (.op (some 8) (.call 48) [(.v 0 (some 6)), (.v 1 (some 7))]),
  .set 5 (.op (some 9) (.ext 0) [(.v 4 none)]),
  .set 6 (.op (some 10) (.ext 1) [(.v 4 none)]),
  .set 2 (.op (some 4) .mov [(.v 5 none)]),
  .set 3 (.op (some 5) .mov [(.v 6 none)])]) <|
 .ret

/- sleuth/sleuthref1.bad -/
def s38_sleuthref1_bad : SFn := .src 2 [0] [.cellN 0 4] <|
 .seq (.reg [
  .set 0 (.op (some 0) (.alloc 0 [(.int .i64 0), (.int .i64 0), .nils, (.int .i64 0)]) [])]) <|
 .seq (.reg [
  .ef (.op none (.store 4) [(.v 0 none), (.op (some 1) (.build [(.int .i64 0), (.int .i64 0), .nils, (.int .i64 0)] [(3, 1)]) [(.k (.int .i64 (-1)))])])]) <|
 .ret

/- sleuth/sleuthref1.digits -/
def s39_sleuthref1_digits : SFn := .src 47 [0, 2, 3, 4, 5, 45, 46] [.tmp 1, .tmp 2] <|
 .seq (.reg [
  .set 1 (.op (some 2) .mov [(.k (.int .i64 0))]),
  .set 2 (.op (some 3) .mov [(.k (.int .i64 0))])]) <|
 .seq (.reg [
  .set 3 (.op (some 4) .mov [(.k (.int .i64 0))]),
  .set 4 (.op (some 5) .mov [(.k (.int .i64 0))])]) <|
 .seq (.block 0 <|
  .loop [0, 3, 4] <|
   .seq (.ifr [] (.and 26 34 (.and 20 25 (.and 14 19 (.and 10 13 (.op (some 9) (.binI .lss) [(.v 4 (some 6)), (.op (some 8) .lenS [(.v 0 (some 7))])]) (.op (some 12) (.binI .lss) [(.v 4 (some 11)), (.k (.int .i64 6))])) (.op (some 18) (.binI .geq) [(.op (some 17) .idxS [(.v 0 (some 15)), (.v 4 (some 16))]), (.k (.int .u8 48))])) (.op (some 24) (.binI .leq) [(.op (some 23) .idxS [(.v 0 (some 21)), (.v 4 (some 22))]), (.k (.int .u8 57))])) (.or 29 33 (.op (some 28) (.binI .eql) [(.v 4 (some 27)), (.k (.int .i64 0))]) (.op (some 32) (.binI .neq) [(.op (some 31) .idxS [(.v 0 (some 30)), (.k (.int .i64 0))]), (.k (.int .u8 48))])))
    (.skip)
    (.exit 0)) <|
   .block 1 <|
    .seq (.reg [
     .set 3 (.op (some 4) .mov [(.op (some 42) (.binI .add) [(.op (some 36) (.binI .mul) [(.k (.int .i64 10)), (.v 3 (some 35))]), (.op (some 41) (.conv .i64) [(.op (some 40) (.binI .sub) [(.op (some 39) .idxS [(.v 0 (some 37)), (.v 4 (some 38))]), (.k (.int .u8 48))])])])])]) <|
    .reg [
     .set 4 (.op (some 5) .mov [(.op (some 44) (.binI .add) [(.v 4 (some 43)), (.k (.int .i64 1))])])]) <|
 .seq (.reg [
  .set 5 (.op (some 45) .mov [(.v 3 none)]),
  .set 6 (.op (some 46) .mov [(.v 4 none)]),
  .set 1 (.op (some 2) .mov [(.v 5 none)]),
  .set 2 (.op (some 3) .mov [(.v 6 none)])]) <|
 .ret

/- sleuth/sleuthref1.parts -/
def s40_sleuthref1_parts : SFn := .src 56 [0, 1, 2, 4, 6, 7, 14] [.cellN 4 4] <|
 .seq (.reg [
  .set 3 (.op (some 4) (.box 0) [(.v 1 none)]),
  .set 4 (.op (some 6) (.alloc 0 [(.int .i64 0), (.int .i64 0), .nils, (.int .i64 0)]) [])]) <|
 .seq (.block 0 <|
  .loop [0, 2, 3, 4] <|
   .seq (.ifr [] (.op (some 11) (.binI .lss) [(.op (some 10) .lenL [(.op (some 9) .load1 [(.op (some 8) (.fadr 2) [(.v 3 none)])])]), (.k (.int .i64 3))])
    (.skip)
    (.exit 0)) <|
   .block 1 <|
    .seq (.reg [
     .set 6 (.op (some 14) (.call 25) [(.v 0 (some 12)), (.v 2 (some 13))]),
     .set 5 (.op (some 7) (.alloc 0 [(.int .i64 0), (.int .i64 0), .nils, (.int .i64 0)]) []),
     .ef (.op none (.store 4) [(.v 5 none), (.v 6 none)])]) <|
    .seq (.ifr [] (.or 18 24 (.op (some 17) (.binI .lss) [(.op (some 16) .load1 [(.op (some 15) (.fadr 3) [(.v 5 none)])]), (.k (.int .i64 0))]) (.op (some 23) (.binI .geq) [(.op (some 20) .load1 [(.op (some 19) (.fadr 3) [(.v 5 none)])]), (.op (some 22) .lenS [(.v 0 (some 21))])]))
     (.seq (.reg [
      .ef (.op none (.store 4) [(.v 4 none), (.op (some 25) (.call 38) [])])]) <|
     .ret)
     (.skip)) <|
    .seq (.dreg [26, 27, 28, 29, 30, 31, 32, 33, 34, 35] [
     ⟨(some 7), .fadr 2, [.t 3], none⟩,
     ⟨(some 8), .load1, [.t 7], none⟩,
     ⟨(some 9), .mov, [.t 0], none⟩,
     ⟨(some 10), .mov, [.t 2], none⟩,
     ⟨(some 11), .fadr 3, [.t 5], none⟩,
     ⟨(some 12), .load1, [.t 11], none⟩,
     ⟨(some 13), .slS true true, [.t 9, .t 10, .t 12], none⟩,
     ⟨(some 14), .bslice 0 [(.str [])] 1 [(0, 1)], [.t 13], none⟩,
     ⟨(some 15), .app 0 1 16, [.t 8, .t 14], none⟩,
     ⟨(some 16), .fadr 2, [.t 3], none⟩,
     ⟨none, .store 1, [.t 16, .t 15], none⟩]
     [.op 0, .op 1, .op 2, .op 3, .op 4, .op 5, .op 6, .op 7, .chk 1, .op 8, .op 9, .op 10]) <|
    .seq (.ifr [] (.op (some 40) (.binI .eql) [(.op (some 39) .idxS [(.v 0 (some 36)), (.op (some 38) .load1 [(.op (some 37) (.fadr 3) [(.v 5 none)])])]), (.k (.int .u8 41))])
     (.seq (.reg [
      .ef (.opr none (.store 1) (.op (some 44) (.fadr 3) [(.v 3 none)]) (.op (some 43) (.binI .add) [(.op (some 42) .load1 [(.op (some 41) (.fadr 3) [(.v 5 none)])]), (.k (.int .i64 1))]))]) <|
     .seq (.reg [
      .ef (.op none (.store 4) [(.v 4 none), (.op (some 45) (.loadN 4) [(.v 3 none)])])]) <|
     .ret)
     (.skip)) <|
    .seq (.ifr [] (.op (some 50) (.binI .neq) [(.op (some 49) .idxS [(.v 0 (some 46)), (.op (some 48) .load1 [(.op (some 47) (.fadr 3) [(.v 5 none)])])]), (.k (.int .u8 32))])
     (.seq (.reg [
      .ef (.op none (.store 4) [(.v 4 none), (.op (some 51) (.call 38) [])])]) <|
     .ret)
     (.skip)) <|
    .reg [
     .set 2 (.op (some 2) .mov [(.op (some 54) (.binI .add) [(.op (some 53) .load1 [(.op (some 52) (.fadr 3) [(.v 5 none)])]), (.k (.int .i64 1))])])]) <|
 .seq (.reg [
  .ef (.op none (.store 4) [(.v 4 none), (.op (some 55) (.call 38) [])])]) <|
 .ret

/- sleuth/sleuthref1.NumMay -/
def s41_sleuthref1_NumMay : SFn := .src 5 [0, 2] [.tmp 1] <|
 .seq (.reg [
  .set 1 (.op (some 2) .mov [(.k (.bool false))])]) <|
 .seq (.reg [
  .set 1 (.op (some 2) .mov [(.op (some 4) (.call 30) [(.v 0 (some 3)), (.k (.int .i64 (-32768))), (.k (.int .i64 32767))])])]) <|
 .ret

/- sleuth/term.Digits -/
def s46_term_Digits : SFn := .src 31 [0, 1, 4, 5, 6, 7, 8, 11, 12, 13, 30] [.tmp 2, .tmp 3] <|
 .seq (.reg [
  .set 2 (.op (some 4) .mov [(.k (.int .i64 0))]),
  .set 3 (.op (some 5) .mov [(.k (.bool false))])]) <|
 .seq (.reg [
  .set 6 (.op (some 8) .mov [(.op (some 10) (.call 45) [(.v 0 (some 9))])]),
  .set 7 (.op (some 11) (.ext 0) [(.v 6 none)]),
  .set 8 (.op (some 12) (.ext 1) [(.v 6 none)]),
  .set 4 (.op (some 6) .mov [(.v 7 none)]),
  .set 5 (.op (some 7) .mov [(.v 8 none)])]) <|
 .seq (.reg [
  .set 9 (.op (some 13) .mov [(.v 4 none)]),
  .set 10 (.and 25 30 (.and 20 24 (.and 16 19 (.op (some 15) (.isNil .ifc false) [(.v 5 (some 14))]) (.op (some 18) (.binI .geq) [(.v 4 (some 17)), (.k (.int .i64 0))])) (.op (some 23) (.binI .leq) [(.v 4 (some 21)), (.v 1 (some 22))])) (.op (some 29) (.binS .eql) [(.op (some 27) (.call 29) [(.v 4 (some 26))]), (.v 0 (some 28))])),
  .set 2 (.op (some 4) .mov [(.v 9 none)]),
  .set 3 (.op (some 5) .mov [(.v 10 none)])]) <|
 .ret

/- internal/stringslite.HasPrefix -/
def s47_internal_stringslite_HasPrefix : SFn := .src 18 [0, 1, 4] [.tmp 2] <|
 .seq (.reg [
  .set 2 (.op (some 4) .mov [(.k (.bool false))])]) <|
 .seq (.reg [
  .set 2 (.op (some 4) .mov [(.and 10 17 (.op (some 9) (.binI .geq) [(.op (some 6) .lenS [(.v 0 (some 5))]), (.op (some 8) .lenS [(.v 1 (some 7))])]) (.op (some 16) (.binS .eql) [(.op (some 14) (.slS false true) [(.v 0 (some 11)), (.op (some 13) .lenS [(.v 1 (some 12))])]), (.v 1 (some 15))]))])]) <|
 .ret

/- internal/stringslite.CutPrefix -/
def s48_internal_stringslite_CutPrefix : SFn := .src 15 [0, 1, 4, 5] [.tmp 2, .tmp 3] <|
 .seq (.reg [
  .set 2 (.op (some 4) .mov [(.k (.str []))]),
  .set 3 (.op (some 5) .mov [(.k (.bool false))])]) <|
 .seq (.ifr [] (.op (some 9) .notB [(.op (some 8) (.call 47) [(.v 0 (some 6)), (.v 1 (some 7))])])
  (.seq (.reg [
   .set 2 (.op (some 4) .mov [(.v 0 (some 10))]),
   .set 3 (.op (some 5) .mov [(.k (.bool false))])]) <|
  .ret)
  (.skip)) <|
 .seq (.reg [
  .set 2 (.op (some 4) .mov [(.op (some 14) (.slS true false) [(.v 0 (some 11)), (.op (some 13) .lenS [(.v 1 (some 12))])])]),
  .set 3 (.op (some 5) .mov [(.k (.bool true))])]) <|
 .ret
end Am.T
