/- Texts that belong together: no condition. -/
import Derived.Test.YtmddflmckmopiaaDoorAmJc
section
/- Functions of the program, as the abstract machine has them. -/
namespace Am.T
open Go
/- sleuth/sleuthlaw0.LendTexts -/
def s10 : SFn := .src 12 [0, 2, 3] [.tmp 1] <|
 .seq (.reg [
  .set 1 (.op (some 2) .mov [(.k .nils)])]) <|
 .seq (.reg [
  .set 2 (.op (some 3) .mov [(.op (some 7) (.app 0 1 16) [(.op (some 5) (.call 23) [(.v 0 (some 4))]), (.op (some 6) (.bslice 0 [(.str []), (.str [])] 2 [(0, 1), (1, 1)]) [(.k (.str [126, 114, 111, 111, 109])), (.k (.str [126, 98, 101, 104, 105, 110, 100]))])])])]) <|
 .seq (.reg [
  .set 1 (.op (some 2) .mov [(.op (some 11) (.slL 1 false true false) [(.v 2 (some 8)), (.op (some 10) .lenL [(.v 0 (some 9))])])])]) <|
 .ret
/- sleuth/term.Cut -/
def s11 : SFn := .src 25 [0, 2, 3, 4, 5, 6, 7, 8, 14, 17, 18, 19, 20, 21, 22, 23, 24] [.tmp 1, .tmp 2, .tmp 3, .tmp 4] <|
 .seq (.reg [
  .set 1 (.op (some 2) .mov [(.k (.int .i64 0))]),
  .set 2 (.op (some 3) .mov [(.k (.int .i64 0))]),
  .set 3 (.op (some 4) .mov [(.k .nils)]),
  .set 4 (.op (some 5) .mov [(.k (.int .i64 0))])]) <|
 .seq (.ifr [] (.op (some 13) .notB [(.op (some 12) (.call 17) [(.v 0 (some 11))])])
  (.seq (.reg [
   .set 1 (.op (some 2) .mov [(.k (.int .i64 0))]),
   .set 2 (.op (some 3) .mov [(.k (.int .i64 0))]),
   .set 3 (.op (some 4) .mov [(.k .nils)]),
   .set 4 (.op (some 5) .mov [(.k (.int .i64 200))])]) <|
  .ret)
  (.skip)) <|
 .seq (.reg [
  .set 8 (.op (some 14) .mov [(.op (some 16) (.call 24) [(.v 0 (some 15))])]),
  .set 9 (.op (some 17) (.ext 0) [(.v 8 none)]),
  .set 10 (.op (some 18) (.ext 1) [(.v 8 none)]),
  .set 11 (.op (some 19) (.ext 2) [(.v 8 none)]),
  .set 12 (.op (some 20) (.ext 3) [(.v 8 none)]),
  .set 13 (.op (some 21) (.ext 4) [(.v 8 none)]),
  .set 5 (.op (some 6) .mov [(.v 9 none)]),
  .set 6 (.op (some 7) .mov [(.v 10 none)]),
  .set 7 (.op (some 8) .mov [(.v 11 none)]),
  .ef (.v 12 (some 9)),
  .ef (.v 13 (some 10))]) <|
 .seq (.reg [
  .set 14 (.op (some 22) .mov [(.v 5 none)]),
  .set 15 (.op (some 23) .mov [(.v 6 none)]),
  .set 16 (.op (some 24) .mov [(.v 7 none)]),
  .set 1 (.op (some 2) .mov [(.v 14 none)]),
  .set 2 (.op (some 3) .mov [(.v 15 none)]),
  .set 3 (.op (some 4) .mov [(.v 16 none)]),
  .set 4 (.op (some 5) .mov [(.k (.int .i64 0))])]) <|
 .ret
/- sleuth/sleuthref1.Cut -/
def s12 : SFn := .src 23 [0, 2, 3, 4, 5, 6, 11] [.tmp 1, .tmp 2, .tmp 3, .tmp 4] <|
 .seq (.reg [
  .set 1 (.op (some 2) .mov [(.k (.int .i64 0))]),
  .set 2 (.op (some 3) .mov [(.k (.int .i64 0))]),
  .set 3 (.op (some 4) .mov [(.k .nils)]),
  .set 4 (.op (some 5) .mov [(.k (.int .i64 0))])]) <|
 .seq (.ifr [] (.op (some 9) (.binI .gtr) [(.op (some 8) .lenS [(.v 0 (some 7))]), (.k (.int .i64 1024))])
  (.seq (.reg [
   .set 1 (.op (some 2) .mov [(.k (.int .i64 0))]),
   .set 2 (.op (some 3) .mov [(.k (.int .i64 0))]),
   .set 3 (.op (some 4) .mov [(.k .nils)]),
   .set 4 (.op (some 5) .mov [(.k (.int .i64 200))])]) <|
  .ret)
  (.skip)) <|
 .seq (.reg [
  .set 6 (.op (some 11) (.call 25) [(.v 0 (some 10)), (.k (.int .i64 0))]),
  .set 5 (.op (some 6) (.alloc 0 [(.int .i64 0), (.int .i64 0), .nils, (.int .i64 0)]) []),
  .ef (.op none (.store 4) [(.v 5 none), (.v 6 none)])]) <|
 .seq (.ifr [] (.op (some 16) (.binI .neq) [(.op (some 13) .load1 [(.op (some 12) (.fadr 3) [(.v 5 none)])]), (.op (some 15) .lenS [(.v 0 (some 14))])])
  (.seq (.reg [
   .set 1 (.op (some 2) .mov [(.k (.int .i64 0))]),
   .set 2 (.op (some 3) .mov [(.k (.int .i64 0))]),
   .set 3 (.op (some 4) .mov [(.k .nils)]),
   .set 4 (.op (some 5) .mov [(.k (.int .i64 200))])]) <|
  .ret)
  (.skip)) <|
 .seq (.dreg [17, 18, 19, 20, 21, 22] [
  ⟨(some 7), .fadr 0, [.t 5], none⟩,
  ⟨(some 8), .load1, [.t 7], none⟩,
  ⟨(some 9), .fadr 1, [.t 5], none⟩,
  ⟨(some 10), .load1, [.t 9], none⟩,
  ⟨(some 11), .fadr 2, [.t 5], none⟩,
  ⟨(some 12), .load1, [.t 11], none⟩,
  ⟨(some 1), .mov, [.t 8], none⟩,
  ⟨(some 2), .mov, [.t 10], none⟩,
  ⟨(some 3), .mov, [.t 12], none⟩,
  ⟨(some 4), .mov, [.c (.int .i64 0)], none⟩]
  [.op 0, .op 1, .op 2, .op 3, .op 4, .op 5, .op 6, .op 7, .op 8, .op 9]) <|
 .ret
/- sleuth/term.Make -/
def s13 : SFn := .src 63 [0, 1, 2, 6, 7, 8] [.tmp 3, .tmp 4] <|
 .seq (.reg [
  .set 3 (.op (some 6) .mov [(.k (.str []))]),
  .set 4 (.op (some 7) .mov [(.k (.int .i64 0))])]) <|
 .seq (.reg [
  .set 5 (.op (some 8) .mov [(.k (.str []))])]) <|
 .seq (.block 0 <|
  .ifr [] (.op (some 9) .mov [(.and 25 28 (.and 20 24 (.and 16 19 (.and 12 15 (.op (some 11) (.binI .eql) [(.v 0 (some 10)), (.k (.int .i64 2))]) (.op (some 14) (.binI .geq) [(.v 1 (some 13)), (.k (.int .i64 0))])) (.op (some 18) (.binI .leq) [(.v 1 (some 17)), (.k (.int .i64 99))])) (.op (some 23) (.binI .leq) [(.op (some 22) .lenL [(.v 2 (some 21))]), (.k (.int .i64 3))])) (.op (some 27) (.call 26) [(.v 2 (some 26))]))])
   (.reg [
    .set 5 (.op (some 8) .mov [(.op (some 31) (.call 27) [(.v 1 (some 29)), (.v 2 (some 30))])])])
   (.ifr [] (.op (some 32) .mov [(.op (some 35) (.binI .gtr) [(.op (some 34) .lenL [(.v 2 (some 33))]), (.k (.int .i64 0))])])
    (.skip)
    (.ifr [] (.op (some 36) .mov [(.and 39 42 (.op (some 38) (.binI .eql) [(.v 0 (some 37)), (.k (.int .i64 0))]) (.op (some 41) (.binI .eql) [(.v 1 (some 40)), (.k (.int .i64 0))]))])
     (.reg [
      .set 5 (.op (some 8) .mov [(.k (.str [95]))])])
     (.ifr [] (.op (some 43) .mov [(.and 46 49 (.op (some 45) (.binI .eql) [(.v 0 (some 44)), (.k (.int .i64 3))]) (.op (some 48) (.binI .eql) [(.v 1 (some 47)), (.k (.int .i64 0))]))])
      (.reg [
       .set 5 (.op (some 8) .mov [(.k (.str [33]))])])
      (.ifr [] (.op (some 50) .mov [(.and 53 56 (.op (some 52) (.binI .eql) [(.v 0 (some 51)), (.k (.int .i64 1))]) (.op (some 55) (.call 28) [(.v 1 (some 54))]))])
       (.reg [
        .set 5 (.op (some 8) .mov [(.op (some 58) (.call 29) [(.v 1 (some 57))])])])
       (.skip)))))) <|
 .seq (.ifr [] (.op (some 61) .notB [(.op (some 60) (.call 17) [(.v 5 (some 59))])])
  (.seq (.reg [
   .set 3 (.op (some 6) .mov [(.k (.str []))]),
   .set 4 (.op (some 7) .mov [(.k (.int .i64 200))])]) <|
  .ret)
  (.skip)) <|
 .seq (.reg [
  .set 3 (.op (some 6) .mov [(.v 5 (some 62))]),
  .set 4 (.op (some 7) .mov [(.k (.int .i64 0))])]) <|
 .ret
/- sleuth/sleuthref1.Make -/
def s14 : SFn := .src 70 [0, 1, 2, 6, 7, 8, 9, 10, 11, 12, 21, 44, 47, 48, 49, 50] [.tmp 3, .tmp 4] <|
 .seq (.reg [
  .set 3 (.op (some 6) .mov [(.k (.str []))]),
  .set 4 (.op (some 7) .mov [(.k (.int .i64 0))])]) <|
 .seq (.ifr [] (.or 16 20 (.op (some 15) (.binI .gtr) [(.op (some 14) .lenL [(.v 2 (some 13))]), (.k (.int .i64 3))]) (.op (some 19) .notB [(.op (some 18) (.call 30) [(.v 1 (some 17)), (.k (.int .i64 (-32768))), (.k (.int .i64 32767))])]))
  (.seq (.reg [
   .set 3 (.op (some 6) .mov [(.k (.str []))]),
   .set 4 (.op (some 7) .mov [(.k (.int .i64 200))])]) <|
  .ret)
  (.skip)) <|
 .seq (.reg [
  .set 5 (.op (some 8) .mov [(.k (.str []))])]) <|
 .seq (.seq (.reg [
  .set 10 (.op (some 21) .mov [(.v 0 none)])]) <|
 .block 0 <|
  .ifr [] (.op (some 22) .mov [(.op (some 23) (.binI .eql) [(.v 10 none), (.k (.int .i64 0))])])
   (.reg [
    .set 5 (.op (some 8) .mov [(.k (.str [95]))])])
   (.ifr [] (.op (some 24) .mov [(.op (some 25) (.binI .eql) [(.v 10 none), (.k (.int .i64 3))])])
    (.reg [
     .set 5 (.op (some 8) .mov [(.k (.str [33]))])])
    (.ifr [] (.op (some 26) .mov [(.op (some 27) (.binI .eql) [(.v 10 none), (.k (.int .i64 1))])])
     (.reg [
      .set 5 (.op (some 8) .mov [(.op (some 29) (.call 22) [(.v 1 (some 28))])])])
     (.ifr [] (.op (some 30) .mov [(.op (some 31) (.binI .eql) [(.v 10 none), (.k (.int .i64 2))])])
      (.seq (.reg [
       .set 5 (.op (some 8) .mov [(.op (some 34) (.binS .add) [(.k (.str [64])), (.op (some 33) (.call 22) [(.v 1 (some 32))])])])]) <|
      .ifr [] (.op (some 37) (.binI .gtr) [(.op (some 36) .lenL [(.v 2 (some 35))]), (.k (.int .i64 0))])
       (.reg [
        .set 5 (.op (some 8) .mov [(.op (some 43) (.binS .add) [(.op (some 42) (.binS .add) [(.op (some 39) (.binS .add) [(.v 5 (some 38)), (.k (.str [40]))]), (.op (some 41) (.call 31) [(.v 2 (some 40))])]), (.k (.str [41]))])])])
       (.skip))
      (.skip))))) <|
 .seq (.reg [
  .set 11 (.op (some 44) .mov [(.op (some 46) (.call 12) [(.v 5 (some 45))])]),
  .set 12 (.op (some 47) (.ext 0) [(.v 11 none)]),
  .set 13 (.op (some 48) (.ext 1) [(.v 11 none)]),
  .set 14 (.op (some 49) (.ext 2) [(.v 11 none)]),
  .set 15 (.op (some 50) (.ext 3) [(.v 11 none)]),
  .set 6 (.op (some 9) .mov [(.v 12 none)]),
  .set 7 (.op (some 10) .mov [(.v 13 none)]),
  .set 8 (.op (some 11) .mov [(.v 14 none)]),
  .set 9 (.op (some 12) .mov [(.v 15 none)])]) <|
 .seq (.ifr [] (.or 63 68 (.or 58 62 (.or 53 57 (.op (some 52) (.binI .neq) [(.v 9 (some 51)), (.k (.int .i64 0))]) (.op (some 56) (.binI .neq) [(.v 6 (some 54)), (.v 0 (some 55))])) (.op (some 61) (.binI .neq) [(.v 7 (some 59)), (.v 1 (some 60))])) (.op (some 67) .notB [(.op (some 66) (.call 32) [(.v 8 (some 64)), (.v 2 (some 65))])]))
  (.seq (.reg [
   .set 3 (.op (some 6) .mov [(.k (.str []))]),
   .set 4 (.op (some 7) .mov [(.k (.int .i64 200))])]) <|
  .ret)
  (.skip)) <|
 .seq (.reg [
  .set 3 (.op (some 6) .mov [(.v 5 (some 69))]),
  .set 4 (.op (some 7) .mov [(.k (.int .i64 0))])]) <|
 .ret
/- sleuth/sleuthlaw0.SameTexts -/
def s15 : SFn := .src 26 [0, 1, 4, 5, 25] [.tmp 2] <|
 .seq (.reg [
  .set 2 (.op (some 4) .mov [(.k (.bool false))])]) <|
 .seq (.ifr [] (.op (some 10) (.binI .neq) [(.op (some 7) .lenL [(.v 0 (some 6))]), (.op (some 9) .lenL [(.v 1 (some 8))])])
  (.seq (.reg [
   .set 2 (.op (some 4) .mov [(.k (.bool false))])]) <|
  .ret)
  (.skip)) <|
 .seq (.seq (.reg [
  .set 3 (.op (some 5) .mov [(.k (.int .i64 0))])]) <|
 .block 0 <|
  .loop [0, 1, 3] <|
   .seq (.ifr [] (.op (some 14) (.binI .lss) [(.v 3 (some 11)), (.op (some 13) .lenL [(.v 0 (some 12))])])
    (.skip)
    (.exit 0)) <|
   .seq (.block 1 <|
    .seq (.dreg [17, 18, 19, 20, 21, 22, 23, 24] [
     ⟨(some 5), .mov, [.t 0], none⟩,
     ⟨(some 6), .mov, [.t 3], none⟩,
     ⟨(some 7), .iadr 1, [.t 5, .t 6], none⟩,
     ⟨(some 8), .load1, [.t 7], none⟩,
     ⟨(some 9), .mov, [.t 1], none⟩,
     ⟨(some 10), .mov, [.t 3], none⟩,
     ⟨(some 11), .iadr 1, [.t 9, .t 10], none⟩,
     ⟨(some 12), .load1, [.t 11], none⟩,
     ⟨(some 4), .binS .neq, [.t 8, .t 12], none⟩]
     [.op 0, .op 1, .op 2, .op 3, .op 4, .op 5, .op 6, .op 7, .op 8]) <|
    .cond (.t 4)
     (.seq (.reg [
      .set 2 (.op (some 4) .mov [(.k (.bool false))])]) <|
     .ret)
     (.skip)) <|
   .reg [
    .set 3 (.op (some 5) .mov [(.op (some 16) (.binI .add) [(.v 3 (some 15)), (.k (.int .i64 1))])])]) <|
 .seq (.reg [
  .set 2 (.op (some 4) .mov [(.k (.bool true))])]) <|
 .ret
/- sleuth/sleuthlaw0.Num -/
def s16 : SFn := .src 4 [0, 2] [.tmp 1] <|
 .seq (.reg [
  .set 1 (.op (some 2) .mov [(.k (.int .i64 0))])]) <|
 .seq (.reg [
  .set 1 (.op (some 2) .mov [(.v 0 (some 3))])]) <|
 .ret
/- sleuth/term.May -/
def s17 : SFn := .src 24 [0, 2, 6, 7, 11, 14, 15, 16, 17, 18] [.tmp 1] <|
 .seq (.reg [
  .set 1 (.op (some 2) .mov [(.k (.bool false))])]) <|
 .seq (.ifr [] (.op (some 10) (.binI .gtr) [(.op (some 9) .lenS [(.v 0 (some 8))]), (.k (.int .i64 1024))])
  (.seq (.reg [
   .set 1 (.op (some 2) .mov [(.k (.bool false))])]) <|
  .ret)
  (.skip)) <|
 .seq (.reg [
  .set 4 (.op (some 11) .mov [(.op (some 13) (.call 24) [(.v 0 (some 12))])]),
  .set 5 (.op (some 14) (.ext 0) [(.v 4 none)]),
  .set 6 (.op (some 15) (.ext 1) [(.v 4 none)]),
  .set 7 (.op (some 16) (.ext 2) [(.v 4 none)]),
  .set 8 (.op (some 17) (.ext 3) [(.v 4 none)]),
  .set 9 (.op (some 18) (.ext 4) [(.v 4 none)]),
  .ef (.v 5 (some 3)),
  .ef (.v 6 (some 4)),
  .ef (.v 7 (some 5)),
  .set 2 (.op (some 6) .mov [(.v 8 none)]),
  .set 3 (.op (some 7) .mov [(.v 9 none)])]) <|
 .seq (.reg [
  .set 1 (.op (some 2) .mov [(.and 20 23 (.v 3 (some 19)) (.op (some 22) (.binS .eql) [(.v 2 (some 21)), (.k (.str []))]))])]) <|
 .ret
/- sleuth/sleuthref1.TermMay -/
def s18 : SFn := .src 16 [0, 2, 6, 7, 10, 11, 12, 13] [.tmp 1] <|
 .seq (.reg [
  .set 1 (.op (some 2) .mov [(.k (.bool false))])]) <|
 .seq (.reg [
  .set 3 (.op (some 7) .mov [(.op (some 9) (.call 12) [(.v 0 (some 8))])]),
  .set 4 (.op (some 10) (.ext 0) [(.v 3 none)]),
  .set 5 (.op (some 11) (.ext 1) [(.v 3 none)]),
  .set 6 (.op (some 12) (.ext 2) [(.v 3 none)]),
  .set 7 (.op (some 13) (.ext 3) [(.v 3 none)]),
  .ef (.v 4 (some 3)),
  .ef (.v 5 (some 4)),
  .ef (.v 6 (some 5)),
  .set 2 (.op (some 6) .mov [(.v 7 none)])]) <|
 .seq (.reg [
  .set 1 (.op (some 2) .mov [(.op (some 15) (.binI .eql) [(.v 2 (some 14)), (.k (.int .i64 0))])])]) <|
 .ret
/- sleuth/sleuthlaw0.SpoilTexts -/
def s19 : SFn := .src 17 [0, 2, 9, 10] [] <|
 .seq (.reg [
  .set 1 (.op (some 2) .mov [(.k (.int .i64 0))])]) <|
 .block 0 <|
  .loop [0, 1] <|
   .seq (.ifr [] (.op (some 6) (.binI .lss) [(.v 1 (some 3)), (.op (some 5) .lenL [(.v 0 (some 4))])])
    (.skip)
    (.exit 0)) <|
   .seq (.block 1 <|
    .reg [
     .set 2 (.op (some 9) .mov [(.v 0 none)]),
     .set 3 (.op (some 10) .mov [(.v 1 none)]),
     .ef (.opr none (.store 1) (.op (some 16) (.iadr 1) [(.v 2 none), (.v 3 none)]) (.op (some 15) (.binS .add) [(.k (.str [126])), (.op (some 14) .load1 [(.op (some 13) (.iadr 1) [(.v 0 (some 11)), (.v 1 (some 12))])])]))]) <|
   .reg [
    .set 1 (.op (some 2) .mov [(.op (some 8) (.binI .add) [(.v 1 (some 7)), (.k (.int .i64 1))])])]
/- sleuth/sleuthlaw0.KeptTexts -/
def s20 : SFn := .src 31 [0, 1, 4, 5] [.tmp 2] <|
 .seq (.reg [
  .set 2 (.op (some 4) .mov [(.k (.bool false))])]) <|
 .seq (.reg [
  .set 3 (.op (some 5) .mov [(.op (some 10) (.slL 1 false true false) [(.v 0 (some 6)), (.op (some 9) (.binI .add) [(.op (some 8) .lenL [(.v 0 (some 7))]), (.k (.int .i64 2))])])])]) <|
 .seq (.reg [
  .set 2 (.op (some 4) .mov [(.and 22 30 (.and 14 21 (.op (some 13) (.call 15) [(.v 0 (some 11)), (.v 1 (some 12))]) (.op (some 20) (.binS .eql) [(.op (some 19) .load1 [(.op (some 18) (.iadr 1) [(.v 3 (some 15)), (.op (some 17) .lenL [(.v 1 (some 16))])])]), (.k (.str [126, 114, 111, 111, 109]))])) (.op (some 29) (.binS .eql) [(.op (some 28) .load1 [(.op (some 27) (.iadr 1) [(.v 3 (some 23)), (.op (some 26) (.binI .add) [(.op (some 25) .lenL [(.v 1 (some 24))]), (.k (.int .i64 1))])])]), (.k (.str [126, 98, 101, 104, 105, 110, 100]))]))])]) <|
 .ret
/- sleuth/sleuthref0.Decimal -/
def s22 : SFn := .src 37 [0, 2, 3, 4] [.tmp 1] <|
 .seq (.reg [
  .set 1 (.op (some 2) .mov [(.k (.str []))])]) <|
 .seq (.reg [
  .set 2 (.op (some 3) .mov [(.op (some 6) (.conv .u64) [(.v 0 (some 5))])])]) <|
 .seq (.ifr [] (.op (some 8) (.binI .lss) [(.v 0 (some 7)), (.k (.int .i64 0))])
  (.reg [
   .set 2 (.op (some 3) .mov [(.op (some 13) (.binI .add) [(.op (some 12) (.conv .u64) [(.op (some 11) .negI [(.op (some 10) (.binI .add) [(.v 0 (some 9)), (.k (.int .i64 1))])])]), (.k (.int .u64 1))])])])
  (.skip)) <|
 .seq (.reg [
  .set 3 (.op (some 4) .mov [(.k .nils)])]) <|
 .seq (.block 0 <|
  .loop [0, 2, 3] <|
   .seq (.ifr [] (.or 16 20 (.op (some 15) (.binI .gtr) [(.v 2 (some 14)), (.k (.int .u64 0))]) (.op (some 19) (.binI .eql) [(.op (some 18) .lenL [(.v 3 (some 17))]), (.k (.int .i64 0))]))
    (.skip)
    (.exit 0)) <|
   .block 1 <|
    .seq (.reg [
     .set 3 (.op (some 4) .mov [(.op (some 27) (.app 0 1 1) [(.op (some 25) (.bslice 0 [(.int .u8 0)] 1 [(0, 1)]) [(.op (some 24) (.conv .u8) [(.op (some 23) (.binI .add) [(.k (.int .u64 48)), (.op (some 22) (.binI .rem) [(.v 2 (some 21)), (.k (.int .u64 10))])])])]), (.v 3 (some 26))])])]) <|
    .reg [
     .set 2 (.op (some 3) .mov [(.op (some 29) (.binI .quo) [(.v 2 (some 28)), (.k (.int .u64 10))])])]) <|
 .seq (.ifr [] (.op (some 31) (.binI .lss) [(.v 0 (some 30)), (.k (.int .i64 0))])
  (.reg [
   .set 3 (.op (some 4) .mov [(.op (some 34) (.app 0 1 1) [(.op (some 32) (.bslice 0 [(.int .u8 0)] 1 [(0, 1)]) [(.k (.int .u8 45))]), (.v 3 (some 33))])])])
  (.skip)) <|
 .seq (.reg [
  .set 1 (.op (some 2) .mov [(.op (some 36) .b2s [(.v 3 (some 35))])])]) <|
 .ret
/- sleuth/sleuthlaw0.CopyTexts -/
def s23 : SFn := .src 6 [0, 2] [.tmp 1] <|
 .seq (.reg [
  .set 1 (.op (some 2) .mov [(.k .nils)])]) <|
 .seq (.reg [
  .set 1 (.op (some 2) .mov [(.op (some 5) (.app 0 1 16) [(.op (some 3) (.bslice 0 [] 0 []) []), (.v 0 (some 4))])])]) <|
 .ret
/- sleuth/term.cut -/
def s24 : SFn := .src 94 [0, 2, 3, 4, 5, 6, 7, 8, 9, 10, 11, 12, 13, 14, 18, 19, 20, 21, 22, 25, 26, 29, 32, 33, 36, 37, 39, 40, 41, 44, 45, 53, 54, 55, 61, 64, 65, 66, 67, 68, 80, 81, 85, 88, 89, 90, 91, 92, 93] [.tmp 1, .tmp 2, .tmp 3, .tmp 4, .tmp 5] <|
 .seq (.reg [
  .set 1 (.op (some 2) .mov [(.k (.int .i64 0))]),
  .set 2 (.op (some 3) .mov [(.k (.int .i64 0))]),
  .set 3 (.op (some 4) .mov [(.k .nils)]),
  .set 4 (.op (some 5) .mov [(.k (.str []))]),
  .set 5 (.op (some 6) .mov [(.k (.bool false))])]) <|
 .seq (.reg [
  .set 18 (.op (some 22) .mov [(.op (some 24) (.call 33) [(.v 0 (some 23))])]),
  .set 19 (.op (some 25) (.ext 0) [(.v 18 none)]),
  .set 20 (.op (some 26) (.ext 1) [(.v 18 none)]),
  .set 6 (.op (some 7) .mov [(.v 19 none)]),
  .set 7 (.op (some 8) .mov [(.v 20 none)])]) <|
 .seq (.ifr [] (.op (some 28) (.binS .eql) [(.v 6 (some 27)), (.k (.str [95]))])
  (.seq (.reg [
   .set 21 (.op (some 29) .mov [(.v 7 none)]),
   .set 1 (.op (some 2) .mov [(.k (.int .i64 0))]),
   .set 2 (.op (some 3) .mov [(.k (.int .i64 0))]),
   .set 3 (.op (some 4) .mov [(.k .nils)]),
   .set 4 (.op (some 5) .mov [(.v 21 none)]),
   .set 5 (.op (some 6) .mov [(.k (.bool true))])]) <|
  .ret)
  (.skip)) <|
 .seq (.ifr [] (.op (some 31) (.binS .eql) [(.v 6 (some 30)), (.k (.str [33]))])
  (.seq (.reg [
   .set 22 (.op (some 32) .mov [(.v 7 none)]),
   .set 1 (.op (some 2) .mov [(.k (.int .i64 3))]),
   .set 2 (.op (some 3) .mov [(.k (.int .i64 0))]),
   .set 3 (.op (some 4) .mov [(.k .nils)]),
   .set 4 (.op (some 5) .mov [(.v 22 none)]),
   .set 5 (.op (some 6) .mov [(.k (.bool true))])]) <|
  .ret)
  (.skip)) <|
 .seq (.seq (.reg [
  .set 23 (.op (some 33) .mov [(.op (some 35) (.call 34) [(.v 6 (some 34))])]),
  .set 24 (.op (some 36) (.ext 0) [(.v 23 none)]),
  .set 25 (.op (some 37) (.ext 1) [(.v 23 none)]),
  .set 8 (.op (some 9) .mov [(.v 24 none)]),
  .set 9 (.op (some 10) .mov [(.v 25 none)])]) <|
 .ifr [] (.v 9 (some 38))
  (.seq (.reg [
   .set 26 (.op (some 39) .mov [(.v 8 none)]),
   .set 27 (.op (some 40) .mov [(.v 7 none)]),
   .set 1 (.op (some 2) .mov [(.k (.int .i64 1))]),
   .set 2 (.op (some 3) .mov [(.v 26 none)]),
   .set 3 (.op (some 4) .mov [(.k .nils)]),
   .set 4 (.op (some 5) .mov [(.v 27 none)]),
   .set 5 (.op (some 6) .mov [(.k (.bool true))])]) <|
  .ret)
  (.skip)) <|
 .seq (.reg [
  .set 28 (.op (some 41) .mov [(.op (some 43) (.call 35) [(.v 6 (some 42))])]),
  .set 29 (.op (some 44) (.ext 0) [(.v 28 none)]),
  .set 30 (.op (some 45) (.ext 1) [(.v 28 none)]),
  .set 10 (.op (some 11) .mov [(.v 29 none)]),
  .set 11 (.op (some 12) .mov [(.v 30 none)])]) <|
 .seq (.ifr [] (.or 48 52 (.op (some 47) .notB [(.v 11 (some 46))]) (.op (some 51) .notB [(.op (some 50) (.call 36) [(.v 7 (some 49)), (.k (.str [40]))])]))
  (.seq (.reg [
   .set 31 (.op (some 53) .mov [(.v 10 none)]),
   .set 32 (.op (some 54) .mov [(.v 7 none)]),
   .set 33 (.op (some 55) .mov [(.v 11 none)]),
   .set 1 (.op (some 2) .mov [(.k (.int .i64 2))]),
   .set 2 (.op (some 3) .mov [(.v 31 none)]),
   .set 3 (.op (some 4) .mov [(.k .nils)]),
   .set 4 (.op (some 5) .mov [(.v 32 none)]),
   .set 5 (.op (some 6) .mov [(.v 33 none)])]) <|
  .ret)
  (.skip)) <|
 .seq (.reg [
  .set 12 (.op (some 13) .mov [(.k .nils)])]) <|
 .seq (.block 0 <|
  .loop [7, 10, 12] <|
   .seq (.ifr [] (.op (some 58) (.binI .lss) [(.op (some 57) .lenL [(.v 12 (some 56))]), (.k (.int .i64 3))])
    (.skip)
    (.exit 0)) <|
   .block 1 <|
    .seq (.reg [
     .set 13 (.op (some 14) .mov [(.op (some 60) (.slS true false) [(.v 7 (some 59)), (.k (.int .i64 1))])])]) <|
    .seq (.reg [
     .set 34 (.op (some 61) .mov [(.op (some 63) (.call 24) [(.v 13 (some 62))])]),
     .set 35 (.op (some 64) (.ext 0) [(.v 34 none)]),
     .set 36 (.op (some 65) (.ext 1) [(.v 34 none)]),
     .set 37 (.op (some 66) (.ext 2) [(.v 34 none)]),
     .set 38 (.op (some 67) (.ext 3) [(.v 34 none)]),
     .set 39 (.op (some 68) (.ext 4) [(.v 34 none)]),
     .ef (.v 35 (some 15)),
     .ef (.v 36 (some 16)),
     .ef (.v 37 (some 17)),
     .set 14 (.op (some 18) .mov [(.v 38 none)]),
     .set 15 (.op (some 19) .mov [(.v 39 none)])]) <|
    .seq (.ifr [] (.op (some 70) .notB [(.v 15 (some 69))])
     (.seq (.reg [
      .set 1 (.op (some 2) .mov [(.k (.int .i64 0))]),
      .set 2 (.op (some 3) .mov [(.k (.int .i64 0))]),
      .set 3 (.op (some 4) .mov [(.k .nils)]),
      .set 4 (.op (some 5) .mov [(.k (.str []))]),
      .set 5 (.op (some 6) .mov [(.k (.bool false))])]) <|
     .ret)
     (.skip)) <|
    .seq (.reg [
     .set 40 (.op (some 80) (.app 0 1 16) [(.v 12 (some 71)), (.op (some 79) (.bslice 0 [(.str [])] 1 [(0, 1)]) [(.op (some 78) (.slS false true) [(.v 13 (some 72)), (.op (some 77) (.binI .sub) [(.op (some 74) .lenS [(.v 13 (some 73))]), (.op (some 76) .lenS [(.v 14 (some 75))])])])])]),
     .set 41 (.op (some 81) .mov [(.v 14 none)]),
     .set 12 (.op (some 13) .mov [(.v 40 none)]),
     .set 7 (.op (some 8) .mov [(.v 41 none)])]) <|
    .ifr [] (.op (some 84) .notB [(.op (some 83) (.call 36) [(.v 7 (some 82)), (.k (.str [32]))])])
     (.exit 0)
     (.skip)) <|
 .seq (.reg [
  .set 42 (.op (some 85) .mov [(.op (some 87) (.call 37) [(.v 7 (some 86)), (.k (.str [41]))])]),
  .set 43 (.op (some 88) (.ext 0) [(.v 42 none)]),
  .set 44 (.op (some 89) (.ext 1) [(.v 42 none)]),
  .set 16 (.op (some 20) .mov [(.v 43 none)]),
  .set 17 (.op (some 21) .mov [(.v 44 none)])]) <|
 .seq (.reg [
  .set 45 (.op (some 90) .mov [(.v 10 none)]),
  .set 46 (.op (some 91) .mov [(.v 12 none)]),
  .set 47 (.op (some 92) .mov [(.v 16 none)]),
  .set 48 (.op (some 93) .mov [(.v 17 none)]),
  .set 1 (.op (some 2) .mov [(.k (.int .i64 2))]),
  .set 2 (.op (some 3) .mov [(.v 45 none)]),
  .set 3 (.op (some 4) .mov [(.v 46 none)]),
  .set 4 (.op (some 5) .mov [(.v 47 none)]),
  .set 5 (.op (some 6) .mov [(.v 48 none)])]) <|
 .ret
/- sleuth/sleuthref1.term -/
def s25 : SFn := .src 122 [0, 1, 4, 5, 6, 7, 8, 9, 10, 11, 19, 32, 38, 39, 52, 74, 80, 81, 102, 107, 108] [.cellN 2 4] <|
 .seq (.reg [
  .set 2 (.op (some 4) (.alloc 0 [(.int .i64 0), (.int .i64 0), .nils, (.int .i64 0)]) [])]) <|
 .seq (.ifr [] (.op (some 15) (.binI .geq) [(.v 1 (some 12)), (.op (some 14) .lenS [(.v 0 (some 13))])])
  (.seq (.reg [
   .ef (.op none (.store 4) [(.v 2 none), (.op (some 16) (.call 38) [])])]) <|
  .ret)
  (.skip)) <|
 .seq (.seq (.reg [
  .set 10 (.op (some 19) .idxS [(.v 0 (some 17)), (.v 1 (some 18))])]) <|
 .block 0 <|
  .ifr [] (.op (some 20) .mov [(.op (some 21) (.binI .eql) [(.v 10 none), (.k (.int .u8 95))])])
   (.seq (.reg [
    .ef (.op none (.store 4) [(.v 2 none), (.op (some 24) (.build [(.int .i64 0), (.int .i64 0), .nils, (.int .i64 0)] [(0, 1), (3, 1)]) [(.k (.int .i64 0)), (.op (some 23) (.binI .add) [(.v 1 (some 22)), (.k (.int .i64 1))])])])]) <|
   .ret)
   (.ifr [] (.op (some 25) .mov [(.op (some 26) (.binI .eql) [(.v 10 none), (.k (.int .u8 33))])])
    (.seq (.reg [
     .ef (.op none (.store 4) [(.v 2 none), (.op (some 29) (.build [(.int .i64 0), (.int .i64 0), .nils, (.int .i64 0)] [(0, 1), (3, 1)]) [(.k (.int .i64 3)), (.op (some 28) (.binI .add) [(.v 1 (some 27)), (.k (.int .i64 1))])])])]) <|
    .ret)
    (.ifr [] (.op (some 30) .mov [(.op (some 31) (.binI .eql) [(.v 10 none), (.k (.int .u8 64))])])
     (.seq (.reg [
      .set 11 (.op (some 32) .mov [(.op (some 37) (.call 39) [(.op (some 36) (.slS true false) [(.v 0 (some 33)), (.op (some 35) (.binI .add) [(.v 1 (some 34)), (.k (.int .i64 1))])])])]),
      .set 12 (.op (some 38) (.ext 0) [(.v 11 none)]),
      .set 13 (.op (some 39) (.ext 1) [(.v 11 none)]),
      .set 3 (.op (some 5) .mov [(.v 12 none)]),
      .set 4 (.op (some 6) .mov [(.v 13 none)])]) <|
     .seq (.ifr [] (.or 42 45 (.op (some 41) (.binI .eql) [(.v 4 (some 40)), (.k (.int .i64 0))]) (.op (some 44) (.binI .gtr) [(.v 3 (some 43)), (.k (.int .i64 99))]))
      (.seq (.reg [
       .ef (.op none (.store 4) [(.v 2 none), (.op (some 46) (.call 38) [])])]) <|
      .ret)
      (.skip)) <|
     .seq (.reg [
      .set 14 (.op (some 52) (.build [(.int .i64 0), (.int .i64 0), .nils, (.int .i64 0)] [(0, 1), (1, 1), (3, 1)]) [(.k (.int .i64 2)), (.v 3 (some 47)), (.op (some 51) (.binI .add) [(.op (some 49) (.binI .add) [(.v 1 (some 48)), (.k (.int .i64 1))]), (.v 4 (some 50))])]),
      .set 5 (.op (some 7) (.alloc 0 [(.int .i64 0), (.int .i64 0), .nils, (.int .i64 0)]) []),
      .ef (.op none (.store 4) [(.v 5 none), (.v 14 none)])]) <|
     .seq (.ifr [] (.and 58 64 (.op (some 57) (.binI .lss) [(.op (some 54) .load1 [(.op (some 53) (.fadr 3) [(.v 5 none)])]), (.op (some 56) .lenS [(.v 0 (some 55))])]) (.op (some 63) (.binI .eql) [(.op (some 62) .idxS [(.v 0 (some 59)), (.op (some 61) .load1 [(.op (some 60) (.fadr 3) [(.v 5 none)])])]), (.k (.int .u8 40))]))
      (.seq (.reg [
       .ef (.op none (.store 4) [(.v 2 none), (.op (some 70) (.call 40) [(.v 0 (some 65)), (.op (some 66) (.loadN 4) [(.v 5 none)]), (.op (some 69) (.binI .add) [(.op (some 68) .load1 [(.op (some 67) (.fadr 3) [(.v 5 none)])]), (.k (.int .i64 1))])])])]) <|
      .ret)
      (.skip)) <|
     .seq (.reg [
      .ef (.op none (.store 4) [(.v 2 none), (.op (some 71) (.loadN 4) [(.v 5 none)])])]) <|
     .ret)
     (.ifr [] (.op (some 72) .mov [(.op (some 73) (.binI .eql) [(.v 10 none), (.k (.int .u8 45))])])
      (.seq (.reg [
       .set 15 (.op (some 74) .mov [(.op (some 79) (.call 39) [(.op (some 78) (.slS true false) [(.v 0 (some 75)), (.op (some 77) (.binI .add) [(.v 1 (some 76)), (.k (.int .i64 1))])])])]),
       .set 16 (.op (some 80) (.ext 0) [(.v 15 none)]),
       .set 17 (.op (some 81) (.ext 1) [(.v 15 none)]),
       .set 6 (.op (some 8) .mov [(.v 16 none)]),
       .set 7 (.op (some 9) .mov [(.v 17 none)])]) <|
      .seq (.ifr [] (.or 88 93 (.or 84 87 (.op (some 83) (.binI .eql) [(.v 7 (some 82)), (.k (.int .i64 0))]) (.op (some 86) (.binI .eql) [(.v 6 (some 85)), (.k (.int .i64 0))])) (.op (some 92) .notB [(.op (some 91) (.call 41) [(.op (some 90) .negI [(.v 6 (some 89))])])]))
       (.seq (.reg [
        .ef (.op none (.store 4) [(.v 2 none), (.op (some 94) (.call 38) [])])]) <|
       .ret)
       (.skip)) <|
      .seq (.reg [
       .ef (.op none (.store 4) [(.v 2 none), (.op (some 101) (.build [(.int .i64 0), (.int .i64 0), .nils, (.int .i64 0)] [(0, 1), (1, 1), (3, 1)]) [(.k (.int .i64 1)), (.op (some 96) .negI [(.v 6 (some 95))]), (.op (some 100) (.binI .add) [(.op (some 98) (.binI .add) [(.v 1 (some 97)), (.k (.int .i64 1))]), (.v 7 (some 99))])])])]) <|
      .ret)
      (.skip))))) <|
 .seq (.reg [
  .set 18 (.op (some 102) .mov [(.op (some 106) (.call 39) [(.op (some 105) (.slS true false) [(.v 0 (some 103)), (.v 1 (some 104))])])]),
  .set 19 (.op (some 107) (.ext 0) [(.v 18 none)]),
  .set 20 (.op (some 108) (.ext 1) [(.v 18 none)]),
  .set 8 (.op (some 10) .mov [(.v 19 none)]),
  .set 9 (.op (some 11) .mov [(.v 20 none)])]) <|
 .seq (.ifr [] (.or 111 115 (.op (some 110) (.binI .eql) [(.v 9 (some 109)), (.k (.int .i64 0))]) (.op (some 114) .notB [(.op (some 113) (.call 41) [(.v 8 (some 112))])]))
  (.seq (.reg [
   .ef (.op none (.store 4) [(.v 2 none), (.op (some 116) (.call 38) [])])]) <|
  .ret)
  (.skip)) <|
 .seq (.reg [
  .ef (.op none (.store 4) [(.v 2 none), (.op (some 121) (.build [(.int .i64 0), (.int .i64 0), .nils, (.int .i64 0)] [(0, 1), (1, 1), (3, 1)]) [(.k (.int .i64 1)), (.v 8 (some 117)), (.op (some 120) (.binI .add) [(.v 1 (some 118)), (.v 9 (some 119))])])])]) <|
 .ret
/- sleuth/term.All -/
def s26 : SFn := .src 15 [0, 2, 4, 5, 6, 7, 8] [.tmp 1] <|
 .seq (.reg [
  .set 1 (.op (some 2) .mov [(.k (.bool false))])]) <|
 .seq (.seq (.reg [
  .set 3 (.op (some 5) .mov [(.v 0 none)]),
  .set 4 (.op (some 6) .lenL [(.v 3 none)]),
  .set 5 (.op (some 7) .mov [(.k (.int .i64 0))])]) <|
 .block 0 <|
  .loop [3, 4, 5] <|
   .seq (.reg [
    .set 6 (.op (some 8) (.binI .lss) [(.v 5 none), (.v 4 none)])]) <|
   .seq (.cond (.t 6)
    (.skip)
    (.exit 0)) <|
   .seq (.block 1 <|
    .seq (.reg [
     .set 2 (.op (some 4) .mov [(.op (some 10) .load1 [(.op (some 9) (.iadr 1) [(.v 3 none), (.v 5 none)])])])]) <|
    .ifr [] (.op (some 13) .notB [(.op (some 12) (.call 17) [(.v 2 (some 11))])])
     (.seq (.reg [
      .set 1 (.op (some 2) .mov [(.k (.bool false))])]) <|
     .ret)
     (.skip)) <|
   .reg [
    .set 5 (.op (some 7) .mov [(.op (some 14) (.binI .add) [(.v 5 none), (.k (.int .i64 1))])])]) <|
 .seq (.reg [
  .set 1 (.op (some 2) .mov [(.k (.bool true))])]) <|
 .ret
/- sleuth/term.Con -/
def s27 : SFn := .src 19 [0, 1, 4, 5] [.tmp 2] <|
 .seq (.reg [
  .set 2 (.op (some 4) .mov [(.k (.str []))])]) <|
 .seq (.reg [
  .set 3 (.op (some 5) .mov [(.op (some 8) (.binS .add) [(.k (.str [64])), (.op (some 7) (.call 29) [(.v 0 (some 6))])])])]) <|
 .seq (.ifr [] (.op (some 11) (.binI .gtr) [(.op (some 10) .lenL [(.v 1 (some 9))]), (.k (.int .i64 0))])
  (.reg [
   .set 3 (.op (some 5) .mov [(.op (some 17) (.binS .add) [(.v 3 (some 12)), (.op (some 16) (.binS .add) [(.op (some 15) (.binS .add) [(.k (.str [40])), (.op (some 14) (.call 42) [(.v 1 (some 13)), (.k (.str [32]))])]), (.k (.str [41]))])])])])
  (.skip)) <|
 .seq (.reg [
  .set 2 (.op (some 4) .mov [(.v 3 (some 18))])]) <|
 .ret
/- sleuth/prim.May -/
def s28 : SFn := .src 9 [0, 2] [.tmp 1] <|
 .seq (.reg [
  .set 1 (.op (some 2) .mov [(.k (.bool false))])]) <|
 .seq (.reg [
  .set 1 (.op (some 2) .mov [(.and 5 8 (.op (some 4) (.binI .geq) [(.v 0 (some 3)), (.k (.int .i64 (-32768)))]) (.op (some 7) (.binI .leq) [(.v 0 (some 6)), (.k (.int .i64 32767))]))])]) <|
 .ret
/- sleuth/sleuthref1.upTo -/
def s30 : SFn := .src 15 [0, 1, 2, 6] [.tmp 3] <|
 .seq (.reg [
  .set 3 (.op (some 6) .mov [(.k (.bool false))])]) <|
 .seq (.reg [
  .set 3 (.op (some 6) .mov [(.and 10 14 (.op (some 9) (.binI .geq) [(.v 0 (some 7)), (.v 1 (some 8))]) (.op (some 13) (.binI .leq) [(.v 0 (some 11)), (.v 2 (some 12))]))])]) <|
 .ret
/- sleuth/sleuthref1.Join -/
def s31 : SFn := .src 22 [0, 2, 3, 4] [.tmp 1] <|
 .seq (.reg [
  .set 1 (.op (some 2) .mov [(.k (.str []))])]) <|
 .seq (.reg [
  .set 2 (.op (some 3) .mov [(.k (.str []))])]) <|
 .seq (.seq (.reg [
  .set 3 (.op (some 4) .mov [(.k (.int .i64 0))])]) <|
 .block 0 <|
  .loop [0, 2, 3] <|
   .seq (.ifr [] (.op (some 8) (.binI .lss) [(.v 3 (some 5)), (.op (some 7) .lenL [(.v 0 (some 6))])])
    (.skip)
    (.exit 0)) <|
   .seq (.block 1 <|
    .seq (.ifr [] (.op (some 12) (.binI .gtr) [(.v 3 (some 11)), (.k (.int .i64 0))])
     (.reg [
      .set 2 (.op (some 3) .mov [(.op (some 14) (.binS .add) [(.v 2 (some 13)), (.k (.str [32]))])])])
     (.skip)) <|
    .reg [
     .set 2 (.op (some 3) .mov [(.op (some 20) (.binS .add) [(.v 2 (some 15)), (.op (some 19) .load1 [(.op (some 18) (.iadr 1) [(.v 0 (some 16)), (.v 3 (some 17))])])])])]) <|
   .reg [
    .set 3 (.op (some 4) .mov [(.op (some 10) (.binI .add) [(.v 3 (some 9)), (.k (.int .i64 1))])])]) <|
 .seq (.reg [
  .set 1 (.op (some 2) .mov [(.v 2 (some 21))])]) <|
 .ret
/- sleuth/sleuthref1.same -/
def s32 : SFn := .src 26 [0, 1, 4, 5, 25] [.tmp 2] <|
 .seq (.reg [
  .set 2 (.op (some 4) .mov [(.k (.bool false))])]) <|
 .seq (.ifr [] (.op (some 10) (.binI .neq) [(.op (some 7) .lenL [(.v 0 (some 6))]), (.op (some 9) .lenL [(.v 1 (some 8))])])
  (.seq (.reg [
   .set 2 (.op (some 4) .mov [(.k (.bool false))])]) <|
  .ret)
  (.skip)) <|
 .seq (.seq (.reg [
  .set 3 (.op (some 5) .mov [(.k (.int .i64 0))])]) <|
 .block 0 <|
  .loop [0, 1, 3] <|
   .seq (.ifr [] (.op (some 14) (.binI .lss) [(.v 3 (some 11)), (.op (some 13) .lenL [(.v 0 (some 12))])])
    (.skip)
    (.exit 0)) <|
   .seq (.block 1 <|
    .seq (.dreg [17, 18, 19, 20, 21, 22, 23, 24] [
     ⟨(some 5), .mov, [.t 0], none⟩,
     ⟨(some 6), .mov, [.t 3], none⟩,
     ⟨(some 7), .iadr 1, [.t 5, .t 6], none⟩,
     ⟨(some 8), .load1, [.t 7], none⟩,
     ⟨(some 9), .mov, [.t 1], none⟩,
     ⟨(some 10), .mov, [.t 3], none⟩,
     ⟨(some 11), .iadr 1, [.t 9, .t 10], none⟩,
     ⟨(some 12), .load1, [.t 11], none⟩,
     ⟨(some 4), .binS .neq, [.t 8, .t 12], none⟩]
     [.op 0, .op 1, .op 2, .op 3, .op 4, .op 5, .op 6, .op 7, .op 8]) <|
    .cond (.t 4)
     (.seq (.reg [
      .set 2 (.op (some 4) .mov [(.k (.bool false))])]) <|
     .ret)
     (.skip)) <|
   .reg [
    .set 3 (.op (some 5) .mov [(.op (some 16) (.binI .add) [(.v 3 (some 15)), (.k (.int .i64 1))])])]) <|
 .seq (.reg [
  .set 2 (.op (some 4) .mov [(.k (.bool true))])]) <|
 .ret
/- sleuth/term.word -/
def s33 : SFn := .src 17 [0, 2, 3, 4] [.tmp 1, .tmp 2] <|
 .seq (.reg [
  .set 1 (.op (some 2) .mov [(.k (.str []))]),
  .set 2 (.op (some 3) .mov [(.k (.str []))])]) <|
 .seq (.reg [
  .set 3 (.op (some 4) .mov [(.op (some 6) (.call 44) [(.v 0 (some 5)), (.k (.str [32, 40, 41]))])])]) <|
 .seq (.ifr [] (.op (some 8) (.binI .lss) [(.v 3 (some 7)), (.k (.int .i64 0))])
  (.reg [
   .set 3 (.op (some 4) .mov [(.op (some 10) .lenS [(.v 0 (some 9))])])])
  (.skip)) <|
 .seq (.dreg [11, 12, 13, 14, 15, 16] [
  ⟨(some 4), .mov, [.t 0], none⟩,
  ⟨(some 5), .mov, [.t 3], none⟩,
  ⟨(some 6), .slS false true, [.t 4, .t 5], none⟩,
  ⟨(some 7), .mov, [.t 0], none⟩,
  ⟨(some 8), .mov, [.t 3], none⟩,
  ⟨(some 9), .slS true false, [.t 7, .t 8], none⟩,
  ⟨(some 1), .mov, [.t 6], none⟩,
  ⟨(some 2), .mov, [.t 9], none⟩]
  [.op 0, .op 1, .op 2, .op 3, .op 4, .op 5, .op 6, .op 7]) <|
 .ret
/- sleuth/term.Number -/
def s34 : SFn := .src 24 [0, 2, 3, 4, 5, 6, 9, 10, 11, 23] [.tmp 1, .tmp 2] <|
 .seq (.reg [
  .set 1 (.op (some 2) .mov [(.k (.int .i64 0))]),
  .set 2 (.op (some 3) .mov [(.k (.bool false))])]) <|
 .seq (.reg [
  .set 5 (.op (some 6) .mov [(.op (some 8) (.call 45) [(.v 0 (some 7))])]),
  .set 6 (.op (some 9) (.ext 0) [(.v 5 none)]),
  .set 7 (.op (some 10) (.ext 1) [(.v 5 none)]),
  .set 3 (.op (some 4) .mov [(.v 6 none)]),
  .set 4 (.op (some 5) .mov [(.v 7 none)])]) <|
 .seq (.reg [
  .set 8 (.op (some 11) .mov [(.v 3 none)]),
  .set 9 (.and 18 23 (.and 14 17 (.op (some 13) (.isNil .ifc false) [(.v 4 (some 12))]) (.op (some 16) (.call 28) [(.v 3 (some 15))])) (.op (some 22) (.binS .eql) [(.op (some 20) (.call 29) [(.v 3 (some 19))]), (.v 0 (some 21))])),
  .set 1 (.op (some 2) .mov [(.v 8 none)]),
  .set 2 (.op (some 3) .mov [(.v 9 none)])]) <|
 .ret
/- sleuth/term.Tag -/
def s35 : SFn := .src 23 [0, 2, 3, 4, 5, 6, 7, 8, 11, 12, 13, 16, 17, 18, 22] [.tmp 1, .tmp 2] <|
 .seq (.reg [
  .set 1 (.op (some 2) .mov [(.k (.int .i64 0))]),
  .set 2 (.op (some 3) .mov [(.k (.bool false))])]) <|
 .seq (.reg [
  .set 7 (.op (some 8) .mov [(.op (some 10) (.call 37) [(.v 0 (some 9)), (.k (.str [64]))])]),
  .set 8 (.op (some 11) (.ext 0) [(.v 7 none)]),
  .set 9 (.op (some 12) (.ext 1) [(.v 7 none)]),
  .set 3 (.op (some 4) .mov [(.v 8 none)]),
  .set 4 (.op (some 5) .mov [(.v 9 none)])]) <|
 .seq (.reg [
  .set 10 (.op (some 13) .mov [(.op (some 15) (.call 46) [(.v 3 (some 14)), (.k (.int .i64 99))])]),
  .set 11 (.op (some 16) (.ext 0) [(.v 10 none)]),
  .set 12 (.op (some 17) (.ext 1) [(.v 10 none)]),
  .set 5 (.op (some 6) .mov [(.v 11 none)]),
  .set 6 (.op (some 7) .mov [(.v 12 none)])]) <|
 .seq (.reg [
  .set 13 (.op (some 18) .mov [(.v 5 none)]),
  .set 14 (.and 20 22 (.v 4 (some 19)) (.v 6 (some 21))),
  .set 1 (.op (some 2) .mov [(.v 13 none)]),
  .set 2 (.op (some 3) .mov [(.v 14 none)])]) <|
 .ret
/- strings.HasPrefix -/
def s36 : SFn := .src 8 [0, 1, 4] [.tmp 2] <|
 .seq (.reg [
  .set 2 (.op (some 4) .mov [(.k (.bool false))])]) <|
 .seq (.reg [
  .set 2 (.op (some 4) .mov [(.op (some 7) (.call 47) [(.v 0 (some 5)), (.v 1 (some 6))])])]) <|
 .ret
/- strings.CutPrefix -/
def s37 : SFn := .src 11 [0, 1, 4, 5, 8, 9, 10] [.tmp 2, .tmp 3] <|
 .seq (.reg [
  .set 2 (.op (some 4) .mov [(.k (.str []))]),
  .set 3 (.op (some 5) .mov [(.k (.bool false))])]) <|
 .seq (.reg [
  .set 4 (.op (some 8) (.call 48) [(.v 0 (some 6)), (.v 1 (some 7))]),
  .set 5 (.op (some 9) (.ext 0) [(.v 4 none)]),
  .set 6 (.op (some 10) (.ext 1) [(.v 4 none)]),
  .set 2 (.op (some 4) .mov [(.v 5 none)]),
  .set 3 (.op (some 5) .mov [(.v 6 none)])]) <|
 .ret
/- sleuth/sleuthref1.bad -/
def s38 : SFn := .src 2 [0] [.cellN 0 4] <|
 .seq (.reg [
  .set 0 (.op (some 0) (.alloc 0 [(.int .i64 0), (.int .i64 0), .nils, (.int .i64 0)]) [])]) <|
 .seq (.reg [
  .ef (.op none (.store 4) [(.v 0 none), (.op (some 1) (.build [(.int .i64 0), (.int .i64 0), .nils, (.int .i64 0)] [(3, 1)]) [(.k (.int .i64 (-1)))])])]) <|
 .ret
/- sleuth/sleuthref1.digits -/
def s39 : SFn := .src 47 [0, 2, 3, 4, 5, 45, 46] [.tmp 1, .tmp 2] <|
 .seq (.reg [
  .set 1 (.op (some 2) .mov [(.k (.int .i64 0))]),
  .set 2 (.op (some 3) .mov [(.k (.int .i64 0))])]) <|
 .seq (.reg [
  .set 3 (.op (some 4) .mov [(.k (.int .i64 0))]),
  .set 4 (.op (some 5) .mov [(.k (.int .i64 0))])]) <|
 .seq (.block 0 <|
  .loop [0, 3, 4] <|
   .seq (.ifr [] (.and 26 34 (.and 20 25 (.and 14 19 (.and 10 13 (.op (some 9) (.binI .lss) [(.v 4 (some 6)), (.op (some 8) .lenS [(.v 0 (some 7))])]) (.op (some 12) (.binI .lss) [(.v 4 (some 11)), (.k (.int .i64 6))])) (.op (some 18) (.binI .geq) [(.op (some 17) .idxS [(.v 0 (some 15)), (.v 4 (some 16))]), (.k (.int .u8 48))])) (.op (some 24) (.binI .leq) [(.op (some 23) .idxS [(.v 0 (some 21)), (.v 4 (some 22))]), (.k (.int .u8 57))])) (.or 29 33 (.op (some 28) (.binI .eql) [(.v 4 (some 27)), (.k (.int .i64 0))]) (.op (some 32) (.binI .neq) [(.op (some 31) .idxS [(.v 0 (some 30)), (.k (.int .i64 0))]), (.k (.int .u8 48))])))
    (.skip)
    (.exit 0)) <|
   .block 1 <|
    .seq (.reg [
     .set 3 (.op (some 4) .mov [(.op (some 42) (.binI .add) [(.op (some 36) (.binI .mul) [(.k (.int .i64 10)), (.v 3 (some 35))]), (.op (some 41) (.conv .i64) [(.op (some 40) (.binI .sub) [(.op (some 39) .idxS [(.v 0 (some 37)), (.v 4 (some 38))]), (.k (.int .u8 48))])])])])]) <|
    .reg [
     .set 4 (.op (some 5) .mov [(.op (some 44) (.binI .add) [(.v 4 (some 43)), (.k (.int .i64 1))])])]) <|
 .seq (.reg [
  .set 5 (.op (some 45) .mov [(.v 3 none)]),
  .set 6 (.op (some 46) .mov [(.v 4 none)]),
  .set 1 (.op (some 2) .mov [(.v 5 none)]),
  .set 2 (.op (some 3) .mov [(.v 6 none)])]) <|
 .ret
/- sleuth/sleuthref1.parts -/
def s40 : SFn := .src 56 [0, 1, 2, 4, 6, 7, 14] [.cellN 4 4] <|
 .seq (.reg [
  .set 3 (.op (some 4) (.box 0) [(.v 1 none)]),
  .set 4 (.op (some 6) (.alloc 0 [(.int .i64 0), (.int .i64 0), .nils, (.int .i64 0)]) [])]) <|
 .seq (.block 0 <|
  .loop [0, 2, 3, 4] <|
   .seq (.ifr [] (.op (some 11) (.binI .lss) [(.op (some 10) .lenL [(.op (some 9) .load1 [(.op (some 8) (.fadr 2) [(.v 3 none)])])]), (.k (.int .i64 3))])
    (.skip)
    (.exit 0)) <|
   .block 1 <|
    .seq (.reg [
     .set 6 (.op (some 14) (.call 25) [(.v 0 (some 12)), (.v 2 (some 13))]),
     .set 5 (.op (some 7) (.alloc 0 [(.int .i64 0), (.int .i64 0), .nils, (.int .i64 0)]) []),
     .ef (.op none (.store 4) [(.v 5 none), (.v 6 none)])]) <|
    .seq (.ifr [] (.or 18 24 (.op (some 17) (.binI .lss) [(.op (some 16) .load1 [(.op (some 15) (.fadr 3) [(.v 5 none)])]), (.k (.int .i64 0))]) (.op (some 23) (.binI .geq) [(.op (some 20) .load1 [(.op (some 19) (.fadr 3) [(.v 5 none)])]), (.op (some 22) .lenS [(.v 0 (some 21))])]))
     (.seq (.reg [
      .ef (.op none (.store 4) [(.v 4 none), (.op (some 25) (.call 38) [])])]) <|
     .ret)
     (.skip)) <|
    .seq (.dreg [26, 27, 28, 29, 30, 31, 32, 33, 34, 35] [
     ⟨(some 7), .fadr 2, [.t 3], none⟩,
     ⟨(some 8), .load1, [.t 7], none⟩,
     ⟨(some 9), .mov, [.t 0], none⟩,
     ⟨(some 10), .mov, [.t 2], none⟩,
     ⟨(some 11), .fadr 3, [.t 5], none⟩,
     ⟨(some 12), .load1, [.t 11], none⟩,
     ⟨(some 13), .slS true true, [.t 9, .t 10, .t 12], none⟩,
     ⟨(some 14), .bslice 0 [(.str [])] 1 [(0, 1)], [.t 13], none⟩,
     ⟨(some 15), .app 0 1 16, [.t 8, .t 14], none⟩,
     ⟨(some 16), .fadr 2, [.t 3], none⟩,
     ⟨none, .store 1, [.t 16, .t 15], none⟩]
     [.op 0, .op 1, .op 2, .op 3, .op 4, .op 5, .op 6, .op 7, .chk 1, .op 8, .op 9, .op 10]) <|
    .seq (.ifr [] (.op (some 40) (.binI .eql) [(.op (some 39) .idxS [(.v 0 (some 36)), (.op (some 38) .load1 [(.op (some 37) (.fadr 3) [(.v 5 none)])])]), (.k (.int .u8 41))])
     (.seq (.reg [
      .ef (.opr none (.store 1) (.op (some 44) (.fadr 3) [(.v 3 none)]) (.op (some 43) (.binI .add) [(.op (some 42) .load1 [(.op (some 41) (.fadr 3) [(.v 5 none)])]), (.k (.int .i64 1))]))]) <|
     .seq (.reg [
      .ef (.op none (.store 4) [(.v 4 none), (.op (some 45) (.loadN 4) [(.v 3 none)])])]) <|
     .ret)
     (.skip)) <|
    .seq (.ifr [] (.op (some 50) (.binI .neq) [(.op (some 49) .idxS [(.v 0 (some 46)), (.op (some 48) .load1 [(.op (some 47) (.fadr 3) [(.v 5 none)])])]), (.k (.int .u8 32))])
     (.seq (.reg [
      .ef (.op none (.store 4) [(.v 4 none), (.op (some 51) (.call 38) [])])]) <|
     .ret)
     (.skip)) <|
    .reg [
     .set 2 (.op (some 2) .mov [(.op (some 54) (.binI .add) [(.op (some 53) .load1 [(.op (some 52) (.fadr 3) [(.v 5 none)])]), (.k (.int .i64 1))])])]) <|
 .seq (.reg [
  .ef (.op none (.store 4) [(.v 4 none), (.op (some 55) (.call 38) [])])]) <|
 .ret
/- sleuth/sleuthref1.NumMay -/
def s41 : SFn := .src 5 [0, 2] [.tmp 1] <|
 .seq (.reg [
  .set 1 (.op (some 2) .mov [(.k (.bool false))])]) <|
 .seq (.reg [
  .set 1 (.op (some 2) .mov [(.op (some 4) (.call 30) [(.v 0 (some 3)), (.k (.int .i64 (-32768))), (.k (.int .i64 32767))])])]) <|
 .ret
/- sleuth/term.Digits -/
def s46 : SFn := .src 31 [0, 1, 4, 5, 6, 7, 8, 11, 12, 13, 30] [.tmp 2, .tmp 3] <|
 .seq (.reg [
  .set 2 (.op (some 4) .mov [(.k (.int .i64 0))]),
  .set 3 (.op (some 5) .mov [(.k (.bool false))])]) <|
 .seq (.reg [
  .set 6 (.op (some 8) .mov [(.op (some 10) (.call 45) [(.v 0 (some 9))])]),
  .set 7 (.op (some 11) (.ext 0) [(.v 6 none)]),
  .set 8 (.op (some 12) (.ext 1) [(.v 6 none)]),
  .set 4 (.op (some 6) .mov [(.v 7 none)]),
  .set 5 (.op (some 7) .mov [(.v 8 none)])]) <|
 .seq (.reg [
  .set 9 (.op (some 13) .mov [(.v 4 none)]),
  .set 10 (.and 25 30 (.and 20 24 (.and 16 19 (.op (some 15) (.isNil .ifc false) [(.v 5 (some 14))]) (.op (some 18) (.binI .geq) [(.v 4 (some 17)), (.k (.int .i64 0))])) (.op (some 23) (.binI .leq) [(.v 4 (some 21)), (.v 1 (some 22))])) (.op (some 29) (.binS .eql) [(.op (some 27) (.call 29) [(.v 4 (some 26))]), (.v 0 (some 28))])),
  .set 2 (.op (some 4) .mov [(.v 9 none)]),
  .set 3 (.op (some 5) .mov [(.v 10 none)])]) <|
 .ret
/- internal/stringslite.HasPrefix -/
def s47 : SFn := .src 18 [0, 1, 4] [.tmp 2] <|
 .seq (.reg [
  .set 2 (.op (some 4) .mov [(.k (.bool false))])]) <|
 .seq (.reg [
  .set 2 (.op (some 4) .mov [(.and 10 17 (.op (some 9) (.binI .geq) [(.op (some 6) .lenS [(.v 0 (some 5))]), (.op (some 8) .lenS [(.v 1 (some 7))])]) (.op (some 16) (.binS .eql) [(.op (some 14) (.slS false true) [(.v 0 (some 11)), (.op (some 13) .lenS [(.v 1 (some 12))])]), (.v 1 (some 15))]))])]) <|
 .ret
/- internal/stringslite.CutPrefix -/
def s48 : SFn := .src 15 [0, 1, 4, 5] [.tmp 2, .tmp 3] <|
 .seq (.reg [
  .set 2 (.op (some 4) .mov [(.k (.str []))]),
  .set 3 (.op (some 5) .mov [(.k (.bool false))])]) <|
 .seq (.ifr [] (.op (some 9) .notB [(.op (some 8) (.call 47) [(.v 0 (some 6)), (.v 1 (some 7))])])
  (.seq (.reg [
   .set 2 (.op (some 4) .mov [(.v 0 (some 10))]),
   .set 3 (.op (some 5) .mov [(.k (.bool false))])]) <|
  .ret)
  (.skip)) <|
 .seq (.reg [
  .set 2 (.op (some 4) .mov [(.op (some 14) (.slS true false) [(.v 0 (some 11)), (.op (some 13) .lenS [(.v 1 (some 12))])])]),
  .set 3 (.op (some 5) .mov [(.k (.bool true))])]) <|
 .ret
end Am.T
end
section
/- What the functions come to. -/
set_option maxRecDepth 100000
set_option linter.unusedVariables false
namespace Am.F
open Go Am
noncomputable def f10 {β : Type} (N : Nat) (call : FCall β) (a : List AV) (h : H) (k : K β) : Option β :=
 qCall call (.fn 23 []) [(nth a 0)] h <| .mk fun v0 h =>
 qBslice 0 [(.str []), (.str [])] 2 [(0, 1), (1, 1)] [(.str [126, 114, 111, 111, 109]), (.str [126, 98, 101, 104, 105, 110, 100])] h <| .mk fun v1 h =>
 qApp 0 1 16 v0 v1 h <| .mk fun v2 h =>
 qLenL (nth a 0) <| .mk fun v3 =>
 qSlL 1 false true false v2 [v3] <| .mk fun v4 =>
 k v4 h
theorem y10 {β : Type} (I : FI) (N : Nat) (call : FCall β) (a : List AV) (h : H) (k : K β) : fBody I 10 T.s10 N call a h k = f10 N call a h k := by kernel_rfl
noncomputable def f11_J0 {β : Type} (call : FCall β) (k : K β) (x0 x1 x2 x3 x4 x5 x6 x7 x8 x9 x10 x11 x12 x13 x14 x15 x16 : AV) (h : H) : Option β :=
 qCall call (.fn 24 []) [x0] h <| .mk fun v1 h =>
 qExt 0 v1 <| .mk fun v2 =>
 qExt 1 v1 <| .mk fun v3 =>
 qExt 2 v1 <| .mk fun v4 =>
 qExt 3 v1 <| .mk fun v5 =>
 qExt 4 v1 <| .mk fun v6 =>
 k (.tup [v2, v3, v4, (.int .i64 0)]) h
noncomputable def f11 {β : Type} (N : Nat) (call : FCall β) (a : List AV) (h : H) (k : K β) : Option β :=
 qJoin 17 (.mk (
 f11_J0 call k)) <| .mk fun j0 =>
 qCall call (.fn 17 []) [(nth a 0)] h <| .mk fun v7 h =>
 qNot v7 <| .mk fun v8 =>
 qIf v8 (.mk (
 k (.tup [(.int .i64 0), (.int .i64 0), .nils, (.int .i64 200)]) h)) <| .mk (
 j0 (nth a 0) (.int .i64 0) (.int .i64 0) .nils (.int .i64 0) (nth a 6) (nth a 7) (nth a 8) (nth a 14) (nth a 17) (nth a 18) (nth a 19) (nth a 20) (nth a 21) (nth a 22) (nth a 23) (nth a 24) h)
theorem y11 {β : Type} (I : FI) (N : Nat) (call : FCall β) (a : List AV) (h : H) (k : K β) : fBody I 11 T.s11 N call a h k = f11 N call a h k := by kernel_rfl
noncomputable def f12_J3 {β : Type} (k : K β) (x0 x1 x2 x3 x4 x5 x6 : AV) (h : H) : Option β :=
 qFadr 0 x5 <| .mk fun v4 =>
 qLoad1 v4 h <| .mk fun v5 =>
 qFadr 1 x5 <| .mk fun v6 =>
 qLoad1 v6 h <| .mk fun v7 =>
 qFadr 2 x5 <| .mk fun v8 =>
 qLoad1 v8 h <| .mk fun v9 =>
 k (.tup [v5, v7, v9, (.int .i64 0)]) h
noncomputable def f12_J0 {β : Type} (call : FCall β) (k : K β) (x0 x1 x2 x3 x4 x5 x6 : AV) (h : H) : Option β :=
 qCall call (.fn 25 []) [x0, (.int .i64 0)] h <| .mk fun v1 h =>
 qAlloc 0 [(.int .i64 0), (.int .i64 0), .nils, (.int .i64 0)] h <| .mk fun v2 h =>
 qStore 4 v2 v1 h <| .mk fun h =>
 qJoin 7 (.mk (
 f12_J3 k)) <| .mk fun j3 =>
 qFadr 3 v2 <| .mk fun v10 =>
 qLoad1 v10 h <| .mk fun v11 =>
 qLenS x0 <| .mk fun v12 =>
 qNeq v11 v12 <| .mk fun v13 =>
 qIf v13 (.mk (
 k (.tup [(.int .i64 0), (.int .i64 0), .nils, (.int .i64 200)]) h)) <| .mk (
 j3 x0 x1 x2 x3 x4 v2 v1 h)
noncomputable def f12 {β : Type} (N : Nat) (call : FCall β) (a : List AV) (h : H) (k : K β) : Option β :=
 qJoin 7 (.mk (
 f12_J0 call k)) <| .mk fun j0 =>
 qLenS (nth a 0) <| .mk fun v14 =>
 qGtr v14 (.int .i64 1024) <| .mk fun v15 =>
 qIf v15 (.mk (
 k (.tup [(.int .i64 0), (.int .i64 0), .nils, (.int .i64 200)]) h)) <| .mk (
 j0 (nth a 0) (.int .i64 0) (.int .i64 0) .nils (.int .i64 0) (nth a 6) (nth a 11) h)
theorem y12 {β : Type} (I : FI) (N : Nat) (call : FCall β) (a : List AV) (h : H) (k : K β) : fBody I 12 T.s12 N call a h k = f12 N call a h k := by kernel_rfl
noncomputable def f13_J1 {β : Type} (k : K β) (x0 x1 x2 x3 x4 x5 : AV) (h : H) : Option β :=
 k (.tup [x5, (.int .i64 0)]) h
noncomputable def f13_J0 {β : Type} (call : FCall β) (k : K β) (x0 x1 x2 x3 x4 x5 : AV) (h : H) : Option β :=
 qJoin 6 (.mk (
 f13_J1 k)) <| .mk fun j1 =>
 qCall call (.fn 17 []) [x5] h <| .mk fun v2 h =>
 qNot v2 <| .mk fun v3 =>
 qIf v3 (.mk (
 k (.tup [(.str []), (.int .i64 200)]) h)) <| .mk (
 j1 x0 x1 x2 x3 x4 x5 h)
noncomputable def f13 {β : Type} (N : Nat) (call : FCall β) (a : List AV) (h : H) (k : K β) : Option β :=
 qJoin 6 (.mk (
 f13_J0 call k)) <| .mk fun j0 =>
 qEql (nth a 0) (.int .i64 2) <| .mk fun v4 =>
 qAnd v4 h (.mk fun h k =>
 qGeq (nth a 1) (.int .i64 0) <| .mk fun v5 =>
 k v5 h) <| .mk fun v6 h =>
 qAnd v6 h (.mk fun h k =>
 qLeq (nth a 1) (.int .i64 99) <| .mk fun v7 =>
 k v7 h) <| .mk fun v8 h =>
 qAnd v8 h (.mk fun h k =>
 qLenL (nth a 2) <| .mk fun v9 =>
 qLeq v9 (.int .i64 3) <| .mk fun v10 =>
 k v10 h) <| .mk fun v11 h =>
 qAnd v11 h (.mk fun h k =>
 qCall call (.fn 26 []) [(nth a 2)] h <| .mk fun v12 h =>
 k v12 h) <| .mk fun v13 h =>
 qIf v13 (.mk (
 qCall call (.fn 27 []) [(nth a 1), (nth a 2)] h <| .mk fun v14 h =>
 j0 (nth a 0) (nth a 1) (nth a 2) (.str []) (.int .i64 0) v14 h)) <| .mk (
 qLenL (nth a 2) <| .mk fun v15 =>
 qGtr v15 (.int .i64 0) <| .mk fun v16 =>
 qIf v16 (.mk (
 j0 (nth a 0) (nth a 1) (nth a 2) (.str []) (.int .i64 0) (.str []) h)) <| .mk (
 qEql (nth a 0) (.int .i64 0) <| .mk fun v17 =>
 qAnd v17 h (.mk fun h k =>
 qEql (nth a 1) (.int .i64 0) <| .mk fun v18 =>
 k v18 h) <| .mk fun v19 h =>
 qIf v19 (.mk (
 j0 (nth a 0) (nth a 1) (nth a 2) (.str []) (.int .i64 0) (.str [95]) h)) <| .mk (
 qEql (nth a 0) (.int .i64 3) <| .mk fun v20 =>
 qAnd v20 h (.mk fun h k =>
 qEql (nth a 1) (.int .i64 0) <| .mk fun v21 =>
 k v21 h) <| .mk fun v22 h =>
 qIf v22 (.mk (
 j0 (nth a 0) (nth a 1) (nth a 2) (.str []) (.int .i64 0) (.str [33]) h)) <| .mk (
 qEql (nth a 0) (.int .i64 1) <| .mk fun v23 =>
 qAnd v23 h (.mk fun h k =>
 qCall call (.fn 28 []) [(nth a 1)] h <| .mk fun v24 h =>
 k v24 h) <| .mk fun v25 h =>
 qIf v25 (.mk (
 qCall call (.fn 29 []) [(nth a 1)] h <| .mk fun v26 h =>
 j0 (nth a 0) (nth a 1) (nth a 2) (.str []) (.int .i64 0) v26 h)) <| .mk (
 j0 (nth a 0) (nth a 1) (nth a 2) (.str []) (.int .i64 0) (.str []) h)))))
theorem y13 {β : Type} (I : FI) (N : Nat) (call : FCall β) (a : List AV) (h : H) (k : K β) : fBody I 13 T.s13 N call a h k = f13 N call a h k := by kernel_rfl
noncomputable def f14_J7 {β : Type} (k : K β) (x0 x1 x2 x3 x4 x5 x6 x7 x8 x9 x10 x11 x12 x13 x14 x15 : AV) (h : H) : Option β :=
 k (.tup [x5, (.int .i64 0)]) h
noncomputable def f14_J1 {β : Type} (call : FCall β) (k : K β) (x0 x1 x2 x3 x4 x5 x6 x7 x8 x9 x10 x11 x12 x13 x14 x15 : AV) (h : H) : Option β :=
 qCall call (.fn 12 []) [x5] h <| .mk fun v2 h =>
 qExt 0 v2 <| .mk fun v3 =>
 qExt 1 v2 <| .mk fun v4 =>
 qExt 2 v2 <| .mk fun v5 =>
 qExt 3 v2 <| .mk fun v6 =>
 qJoin 16 (.mk (
 f14_J7 k)) <| .mk fun j7 =>
 qNeq v6 (.int .i64 0) <| .mk fun v8 =>
 qOr v8 h (.mk fun h k =>
 qNeq v3 x0 <| .mk fun v9 =>
 k v9 h) <| .mk fun v10 h =>
 qOr v10 h (.mk fun h k =>
 qNeq v4 x1 <| .mk fun v11 =>
 k v11 h) <| .mk fun v12 h =>
 qOr v12 h (.mk fun h k =>
 qCall call (.fn 32 []) [v5, x2] h <| .mk fun v13 h =>
 qNot v13 <| .mk fun v14 =>
 k v14 h) <| .mk fun v15 h =>
 qIf v15 (.mk (
 k (.tup [(.str []), (.int .i64 200)]) h)) <| .mk (
 j7 x0 x1 x2 x3 x4 x5 v3 v4 v5 v6 x10 v2 v3 v4 v5 v6 h)
noncomputable def f14_J0 {β : Type} (call : FCall β) (k : K β) (x0 x1 x2 x3 x4 x5 x6 x7 x8 x9 x10 x11 x12 x13 x14 x15 : AV) (h : H) : Option β :=
 qJoin 16 (.mk (
 f14_J1 call k)) <| .mk fun j1 =>
 qEql x0 (.int .i64 0) <| .mk fun v16 =>
 qIf v16 (.mk (
 j1 x0 x1 x2 x3 x4 (.str [95]) x6 x7 x8 x9 x0 x11 x12 x13 x14 x15 h)) <| .mk (
 qEql x0 (.int .i64 3) <| .mk fun v17 =>
 qIf v17 (.mk (
 j1 x0 x1 x2 x3 x4 (.str [33]) x6 x7 x8 x9 x0 x11 x12 x13 x14 x15 h)) <| .mk (
 qEql x0 (.int .i64 1) <| .mk fun v18 =>
 qIf v18 (.mk (
 qCall call (.fn 22 []) [x1] h <| .mk fun v19 h =>
 j1 x0 x1 x2 x3 x4 v19 x6 x7 x8 x9 x0 x11 x12 x13 x14 x15 h)) <| .mk (
 qEql x0 (.int .i64 2) <| .mk fun v20 =>
 qIf v20 (.mk (
 qCall call (.fn 22 []) [x1] h <| .mk fun v21 h =>
 qSAdd (.str [64]) v21 <| .mk fun v22 =>
 qLenL x2 <| .mk fun v23 =>
 qGtr v23 (.int .i64 0) <| .mk fun v24 =>
 qIf v24 (.mk (
 qSAdd v22 (.str [40]) <| .mk fun v25 =>
 qCall call (.fn 31 []) [x2] h <| .mk fun v26 h =>
 qSAdd v25 v26 <| .mk fun v27 =>
 qSAdd v27 (.str [41]) <| .mk fun v28 =>
 j1 x0 x1 x2 x3 x4 v28 x6 x7 x8 x9 x0 x11 x12 x13 x14 x15 h)) <| .mk (
 j1 x0 x1 x2 x3 x4 v22 x6 x7 x8 x9 x0 x11 x12 x13 x14 x15 h))) <| .mk (
 j1 x0 x1 x2 x3 x4 (.str []) x6 x7 x8 x9 x0 x11 x12 x13 x14 x15 h))))
noncomputable def f14 {β : Type} (N : Nat) (call : FCall β) (a : List AV) (h : H) (k : K β) : Option β :=
 qJoin 16 (.mk (
 f14_J0 call k)) <| .mk fun j0 =>
 qLenL (nth a 2) <| .mk fun v29 =>
 qGtr v29 (.int .i64 3) <| .mk fun v30 =>
 qOr v30 h (.mk fun h k =>
 qCall call (.fn 30 []) [(nth a 1), (.int .i64 (-32768)), (.int .i64 32767)] h <| .mk fun v31 h =>
 qNot v31 <| .mk fun v32 =>
 k v32 h) <| .mk fun v33 h =>
 qIf v33 (.mk (
 k (.tup [(.str []), (.int .i64 200)]) h)) <| .mk (
 j0 (nth a 0) (nth a 1) (nth a 2) (.str []) (.int .i64 0) (nth a 8) (nth a 9) (nth a 10) (nth a 11) (nth a 12) (nth a 21) (nth a 44) (nth a 47) (nth a 48) (nth a 49) (nth a 50) h)
theorem y14 {β : Type} (I : FI) (N : Nat) (call : FCall β) (a : List AV) (h : H) (k : K β) : fBody I 14 T.s14 N call a h k = f14 N call a h k := by kernel_rfl
noncomputable def f15_J1 {β : Type} (k : K β) (x0 x1 x2 x3 x4 : AV) (h : H) : Option β :=
 k (.bool true) h
noncomputable def f15_J4 {β : Type} (l2 : Cur β 5) (x0 x1 x2 x3 x4 : AV) (h : H) : Option β :=
 qAdd x3 (.int .i64 1) <| .mk fun v5 =>
 l2 x0 x1 x2 v5 x4 h
noncomputable def f15_J3 {β : Type} (k : K β) (l2 : Cur β 5) (x0 x1 x2 x3 x4 : AV) (h : H) : Option β :=
 qJoin 5 (.mk (
 f15_J4 l2)) <| .mk fun j4 =>
 qIadr 1 x0 x3 <| .mk fun v6 =>
 qLoad1 v6 h <| .mk fun v7 =>
 qIadr 1 x1 x3 <| .mk fun v8 =>
 qLoad1 v8 h <| .mk fun v9 =>
 qSNeq v7 v9 <| .mk fun v10 =>
 qIf v10 (.mk (
 k (.bool false) h)) <| .mk (
 j4 x0 x1 x2 x3 v10 h)
noncomputable def f15_L2 {β : Type} (k : K β) (j1 : Cur β 5) (l2 : Cur β 5) (x0 x1 x2 x3 x4 : AV) (h : H) : Option β :=
 qJoin 5 (.mk (
 f15_J3 k l2)) <| .mk fun j3 =>
 qLenL x0 <| .mk fun v11 =>
 qLss x3 v11 <| .mk fun v12 =>
 qIf v12 (.mk (
 j3 x0 x1 .any x3 .any h)) <| .mk (
 j1 x0 x1 .any x3 .any h)
noncomputable def f15_J0 {β : Type} (N : Nat) (k : K β) (x0 x1 x2 x3 x4 : AV) (h : H) : Option β :=
 qJoin 5 (.mk (
 f15_J1 k)) <| .mk fun j1 =>
 (qLoop 5 N <| .mk (
 f15_L2 k j1)) x0 x1 x2 (.int .i64 0) x4 h
noncomputable def f15 {β : Type} (N : Nat) (call : FCall β) (a : List AV) (h : H) (k : K β) : Option β :=
 qJoin 5 (.mk (
 f15_J0 N k)) <| .mk fun j0 =>
 qLenL (nth a 0) <| .mk fun v13 =>
 qLenL (nth a 1) <| .mk fun v14 =>
 qNeq v13 v14 <| .mk fun v15 =>
 qIf v15 (.mk (
 k (.bool false) h)) <| .mk (
 j0 (nth a 0) (nth a 1) (.bool false) (nth a 5) (nth a 25) h)
theorem y15 {β : Type} (I : FI) (N : Nat) (call : FCall β) (a : List AV) (h : H) (k : K β) : fBody I 15 T.s15 N call a h k = f15 N call a h k := by kernel_rfl
noncomputable def f16 {β : Type} (N : Nat) (call : FCall β) (a : List AV) (h : H) (k : K β) : Option β :=
 k (nth a 0) h
theorem y16 {β : Type} (I : FI) (N : Nat) (call : FCall β) (a : List AV) (h : H) (k : K β) : fBody I 16 T.s16 N call a h k = f16 N call a h k := by kernel_rfl
noncomputable def f17_J0 {β : Type} (call : FCall β) (k : K β) (x0 x1 x2 x3 x4 x5 x6 x7 x8 x9 : AV) (h : H) : Option β :=
 qCall call (.fn 24 []) [x0] h <| .mk fun v1 h =>
 qExt 0 v1 <| .mk fun v2 =>
 qExt 1 v1 <| .mk fun v3 =>
 qExt 2 v1 <| .mk fun v4 =>
 qExt 3 v1 <| .mk fun v5 =>
 qExt 4 v1 <| .mk fun v6 =>
 qAnd v6 h (.mk fun h k =>
 qSEql v5 (.str []) <| .mk fun v7 =>
 k v7 h) <| .mk fun v8 h =>
 k v8 h
noncomputable def f17 {β : Type} (N : Nat) (call : FCall β) (a : List AV) (h : H) (k : K β) : Option β :=
 qJoin 10 (.mk (
 f17_J0 call k)) <| .mk fun j0 =>
 qLenS (nth a 0) <| .mk fun v9 =>
 qGtr v9 (.int .i64 1024) <| .mk fun v10 =>
 qIf v10 (.mk (
 k (.bool false) h)) <| .mk (
 j0 (nth a 0) (.bool false) (nth a 6) (nth a 7) (nth a 11) (nth a 14) (nth a 15) (nth a 16) (nth a 17) (nth a 18) h)
theorem y17 {β : Type} (I : FI) (N : Nat) (call : FCall β) (a : List AV) (h : H) (k : K β) : fBody I 17 T.s17 N call a h k = f17 N call a h k := by kernel_rfl
noncomputable def f18 {β : Type} (N : Nat) (call : FCall β) (a : List AV) (h : H) (k : K β) : Option β :=
 qCall call (.fn 12 []) [(nth a 0)] h <| .mk fun v0 h =>
 qExt 0 v0 <| .mk fun v1 =>
 qExt 1 v0 <| .mk fun v2 =>
 qExt 2 v0 <| .mk fun v3 =>
 qExt 3 v0 <| .mk fun v4 =>
 qEql v4 (.int .i64 0) <| .mk fun v5 =>
 k v5 h
theorem y18 {β : Type} (I : FI) (N : Nat) (call : FCall β) (a : List AV) (h : H) (k : K β) : fBody I 18 T.s18 N call a h k = f18 N call a h k := by kernel_rfl
noncomputable def f19_J2 {β : Type} (l0 : Cur β 4) (x0 x1 x2 x3 : AV) (h : H) : Option β :=
 qAdd x1 (.int .i64 1) <| .mk fun v3 =>
 l0 x0 v3 x2 x3 h
noncomputable def f19_J1 {β : Type} (l0 : Cur β 4) (x0 x1 x2 x3 : AV) (h : H) : Option β :=
 qJoin 4 (.mk (
 f19_J2 l0)) <| .mk fun j2 =>
 qIadr 1 x0 x1 <| .mk fun v4 =>
 qLoad1 v4 h <| .mk fun v5 =>
 qSAdd (.str [126]) v5 <| .mk fun v6 =>
 qIadr 1 x0 x1 <| .mk fun v7 =>
 qStore 1 v7 v6 h <| .mk fun h =>
 j2 x0 x1 x0 x1 h
noncomputable def f19_L0 {β : Type} (k : K β) (l0 : Cur β 4) (x0 x1 x2 x3 : AV) (h : H) : Option β :=
 qJoin 4 (.mk (
 f19_J1 l0)) <| .mk fun j1 =>
 qLenL x0 <| .mk fun v8 =>
 qLss x1 v8 <| .mk fun v9 =>
 qIf v9 (.mk (
 j1 x0 x1 .any .any h)) <| .mk (
 k (.tup []) h)
noncomputable def f19 {β : Type} (N : Nat) (call : FCall β) (a : List AV) (h : H) (k : K β) : Option β :=
 (qLoop 4 N <| .mk (
 f19_L0 k)) (nth a 0) (.int .i64 0) (nth a 9) (nth a 10) h
theorem y19 {β : Type} (I : FI) (N : Nat) (call : FCall β) (a : List AV) (h : H) (k : K β) : fBody I 19 T.s19 N call a h k = f19 N call a h k := by kernel_rfl
noncomputable def f20 {β : Type} (N : Nat) (call : FCall β) (a : List AV) (h : H) (k : K β) : Option β :=
 qLenL (nth a 0) <| .mk fun v0 =>
 qAdd v0 (.int .i64 2) <| .mk fun v1 =>
 qSlL 1 false true false (nth a 0) [v1] <| .mk fun v2 =>
 qCall call (.fn 15 []) [(nth a 0), (nth a 1)] h <| .mk fun v3 h =>
 qAnd v3 h (.mk fun h k =>
 qLenL (nth a 1) <| .mk fun v4 =>
 qIadr 1 v2 v4 <| .mk fun v5 =>
 qLoad1 v5 h <| .mk fun v6 =>
 qSEql v6 (.str [126, 114, 111, 111, 109]) <| .mk fun v7 =>
 k v7 h) <| .mk fun v8 h =>
 qAnd v8 h (.mk fun h k =>
 qLenL (nth a 1) <| .mk fun v9 =>
 qAdd v9 (.int .i64 1) <| .mk fun v10 =>
 qIadr 1 v2 v10 <| .mk fun v11 =>
 qLoad1 v11 h <| .mk fun v12 =>
 qSEql v12 (.str [126, 98, 101, 104, 105, 110, 100]) <| .mk fun v13 =>
 k v13 h) <| .mk fun v14 h =>
 k v14 h
theorem y20 {β : Type} (I : FI) (N : Nat) (call : FCall β) (a : List AV) (h : H) (k : K β) : fBody I 20 T.s20 N call a h k = f20 N call a h k := by kernel_rfl
noncomputable def f22_J3 {β : Type} (k : K β) (x0 x1 x2 x3 : AV) (h : H) : Option β :=
 qB2s x3 h <| .mk fun v4 =>
 k v4 h
noncomputable def f22_J2 {β : Type} (k : K β) (x0 x1 x2 x3 : AV) (h : H) : Option β :=
 qJoin 4 (.mk (
 f22_J3 k)) <| .mk fun j3 =>
 qLss x0 (.int .i64 0) <| .mk fun v5 =>
 qIf v5 (.mk (
 qBslice 0 [(.int .u8 0)] 1 [(0, 1)] [(.int .u8 45)] h <| .mk fun v6 h =>
 qApp 0 1 1 v6 x3 h <| .mk fun v7 h =>
 j3 x0 x1 x2 v7 h)) <| .mk (
 j3 x0 x1 x2 x3 h)
noncomputable def f22_J9 {β : Type} (l8 : Cur β 4) (x0 x1 x2 x3 : AV) (h : H) : Option β :=
 qBin .rem x2 (.int .u64 10) <| .mk fun v10 =>
 qAdd (.int .u64 48) v10 <| .mk fun v11 =>
 qConv .u8 v11 <| .mk fun v12 =>
 qBslice 0 [(.int .u8 0)] 1 [(0, 1)] [v12] h <| .mk fun v13 h =>
 qApp 0 1 1 v13 x3 h <| .mk fun v14 h =>
 qBin .quo x2 (.int .u64 10) <| .mk fun v15 =>
 l8 x0 x1 v15 v14 h
noncomputable def f22_L8 {β : Type} (j2 : Cur β 4) (l8 : Cur β 4) (x0 x1 x2 x3 : AV) (h : H) : Option β :=
 qJoin 4 (.mk (
 f22_J9 l8)) <| .mk fun j9 =>
 qGtr x2 (.int .u64 0) <| .mk fun v16 =>
 qOr v16 h (.mk fun h k =>
 qLenL x3 <| .mk fun v17 =>
 qEql v17 (.int .i64 0) <| .mk fun v18 =>
 k v18 h) <| .mk fun v19 h =>
 qIf v19 (.mk (
 j9 x0 .any x2 x3 h)) <| .mk (
 j2 x0 .any x2 x3 h)
noncomputable def f22_J1 {β : Type} (N : Nat) (k : K β) (x0 x1 x2 x3 : AV) (h : H) : Option β :=
 qJoin 4 (.mk (
 f22_J2 k)) <| .mk fun j2 =>
 (qLoop 4 N <| .mk (
 f22_L8 j2)) x0 x1 x2 .nils h
noncomputable def f22 {β : Type} (N : Nat) (call : FCall β) (a : List AV) (h : H) (k : K β) : Option β :=
 qConv .u64 (nth a 0) <| .mk fun v0 =>
 qJoin 4 (.mk (
 f22_J1 N k)) <| .mk fun j1 =>
 qLss (nth a 0) (.int .i64 0) <| .mk fun v20 =>
 qIf v20 (.mk (
 qAdd (nth a 0) (.int .i64 1) <| .mk fun v21 =>
 qNeg v21 <| .mk fun v22 =>
 qConv .u64 v22 <| .mk fun v23 =>
 qAdd v23 (.int .u64 1) <| .mk fun v24 =>
 j1 (nth a 0) (.str []) v24 (nth a 4) h)) <| .mk (
 j1 (nth a 0) (.str []) v0 (nth a 4) h)
theorem y22 {β : Type} (I : FI) (N : Nat) (call : FCall β) (a : List AV) (h : H) (k : K β) : fBody I 22 T.s22 N call a h k = f22 N call a h k := by kernel_rfl
noncomputable def f23 {β : Type} (N : Nat) (call : FCall β) (a : List AV) (h : H) (k : K β) : Option β :=
 qBslice 0 [] 0 [] [] h <| .mk fun v0 h =>
 qApp 0 1 16 v0 (nth a 0) h <| .mk fun v1 h =>
 k v1 h
theorem y23 {β : Type} (I : FI) (N : Nat) (call : FCall β) (a : List AV) (h : H) (k : K β) : fBody I 23 T.s23 N call a h k = f23 N call a h k := by kernel_rfl
noncomputable def f24_J10 {β : Type} (call : FCall β) (k : K β) (x0 x1 x2 x3 x4 x5 x6 x7 x8 x9 x10 x11 x12 x13 x14 x15 x16 x17 x18 x19 x20 x21 x22 x23 x24 x25 x26 x27 x28 x29 x30 x31 x32 x33 x34 x35 x36 x37 x38 x39 x40 x41 x42 x43 x44 x45 x46 x47 x48 : AV) (h : H) : Option β :=
 qCall call (.fn 37 []) [x7, (.str [41])] h <| .mk fun v11 h =>
 qExt 0 v11 <| .mk fun v12 =>
 qExt 1 v11 <| .mk fun v13 =>
 k (.tup [(.int .i64 2), x10, x12, v12, v13]) h
noncomputable def f24_J23 {β : Type} (call : FCall β) (j10 : Cur β 49) (l14 : Cur β 49) (x0 x1 x2 x3 x4 x5 x6 x7 x8 x9 x10 x11 x12 x13 x14 x15 x16 x17 x18 x19 x20 x21 x22 x23 x24 x25 x26 x27 x28 x29 x30 x31 x32 x33 x34 x35 x36 x37 x38 x39 x40 x41 x42 x43 x44 x45 x46 x47 x48 : AV) (h : H) : Option β :=
 qLenS x13 <| .mk fun v24 =>
 qLenS x14 <| .mk fun v25 =>
 qSub v24 v25 <| .mk fun v26 =>
 qSlS false true x13 [v26] <| .mk fun v27 =>
 qBslice 0 [(.str [])] 1 [(0, 1)] [v27] h <| .mk fun v28 h =>
 qApp 0 1 16 x12 v28 h <| .mk fun v29 h =>
 qCall call (.fn 36 []) [x14, (.str [32])] h <| .mk fun v30 h =>
 qNot v30 <| .mk fun v31 =>
 qIf v31 (.mk (
 j10 x0 x1 x2 x3 x4 x5 x6 x14 x8 x9 x10 x11 v29 x13 x14 x15 x16 x17 x18 x19 x20 x21 x22 x23 x24 x25 x26 x27 x28 x29 x30 x31 x32 x33 x34 x35 x36 x37 x38 x39 v29 x14 x42 x43 x44 x45 x46 x47 x48 h)) <| .mk (
 l14 x0 x1 x2 x3 x4 x5 x6 x14 x8 x9 x10 x11 v29 x13 x14 x15 x16 x17 x18 x19 x20 x21 x22 x23 x24 x25 x26 x27 x28 x29 x30 x31 x32 x33 x34 x35 x36 x37 x38 x39 v29 x14 x42 x43 x44 x45 x46 x47 x48 h)
noncomputable def f24_J15 {β : Type} (call : FCall β) (k : K β) (j10 : Cur β 49) (l14 : Cur β 49) (x0 x1 x2 x3 x4 x5 x6 x7 x8 x9 x10 x11 x12 x13 x14 x15 x16 x17 x18 x19 x20 x21 x22 x23 x24 x25 x26 x27 x28 x29 x30 x31 x32 x33 x34 x35 x36 x37 x38 x39 x40 x41 x42 x43 x44 x45 x46 x47 x48 : AV) (h : H) : Option β :=
 qSlS true false x7 [(.int .i64 1)] <| .mk fun v16 =>
 qCall call (.fn 24 []) [v16] h <| .mk fun v17 h =>
 qExt 0 v17 <| .mk fun v18 =>
 qExt 1 v17 <| .mk fun v19 =>
 qExt 2 v17 <| .mk fun v20 =>
 qExt 3 v17 <| .mk fun v21 =>
 qExt 4 v17 <| .mk fun v22 =>
 qJoin 49 (.mk (
 f24_J23 call j10 l14)) <| .mk fun j23 =>
 qNot v22 <| .mk fun v32 =>
 qIf v32 (.mk (
 k (.tup [(.int .i64 0), (.int .i64 0), .nils, (.str []), (.bool false)]) h)) <| .mk (
 j23 x0 x1 x2 x3 x4 x5 x6 x7 x8 x9 x10 x11 x12 v16 v21 v22 x16 x17 x18 x19 x20 x21 x22 x23 x24 x25 x26 x27 x28 x29 x30 x31 x32 x33 v17 v18 v19 v20 v21 v22 x40 x41 x42 x43 x44 x45 x46 x47 x48 h)
noncomputable def f24_L14 {β : Type} (call : FCall β) (k : K β) (j10 : Cur β 49) (l14 : Cur β 49) (x0 x1 x2 x3 x4 x5 x6 x7 x8 x9 x10 x11 x12 x13 x14 x15 x16 x17 x18 x19 x20 x21 x22 x23 x24 x25 x26 x27 x28 x29 x30 x31 x32 x33 x34 x35 x36 x37 x38 x39 x40 x41 x42 x43 x44 x45 x46 x47 x48 : AV) (h : H) : Option β :=
 qJoin 49 (.mk (
 f24_J15 call k j10 l14)) <| .mk fun j15 =>
 qLenL x12 <| .mk fun v33 =>
 qLss v33 (.int .i64 3) <| .mk fun v34 =>
 qIf v34 (.mk (
 j15 .any .any .any .any .any .any .any x7 .any .any x10 .any x12 .any .any .any .any .any .any .any .any .any .any .any .any .any .any .any .any .any .any .any .any .any .any .any .any .any .any .any .any .any .any .any .any .any .any .any .any h)) <| .mk (
 j10 .any .any .any .any .any .any .any x7 .any .any x10 .any x12 .any .any .any .any .any .any .any .any .any .any .any .any .any .any .any .any .any .any .any .any .any .any .any .any .any .any .any .any .any .any .any .any .any .any .any .any h)
noncomputable def f24_J9 {β : Type} (N : Nat) (call : FCall β) (k : K β) (x0 x1 x2 x3 x4 x5 x6 x7 x8 x9 x10 x11 x12 x13 x14 x15 x16 x17 x18 x19 x20 x21 x22 x23 x24 x25 x26 x27 x28 x29 x30 x31 x32 x33 x34 x35 x36 x37 x38 x39 x40 x41 x42 x43 x44 x45 x46 x47 x48 : AV) (h : H) : Option β :=
 qJoin 49 (.mk (
 f24_J10 call k)) <| .mk fun j10 =>
 (qLoop 49 N <| .mk (
 f24_L14 call k j10)) x0 x1 x2 x3 x4 x5 x6 x7 x8 x9 x10 x11 .nils x13 x14 x15 x16 x17 x18 x19 x20 x21 x22 x23 x24 x25 x26 x27 x28 x29 x30 x31 x32 x33 x34 x35 x36 x37 x38 x39 x40 x41 x42 x43 x44 x45 x46 x47 x48 h
noncomputable def f24_J5 {β : Type} (N : Nat) (call : FCall β) (k : K β) (x0 x1 x2 x3 x4 x5 x6 x7 x8 x9 x10 x11 x12 x13 x14 x15 x16 x17 x18 x19 x20 x21 x22 x23 x24 x25 x26 x27 x28 x29 x30 x31 x32 x33 x34 x35 x36 x37 x38 x39 x40 x41 x42 x43 x44 x45 x46 x47 x48 : AV) (h : H) : Option β :=
 qCall call (.fn 35 []) [x6] h <| .mk fun v6 h =>
 qExt 0 v6 <| .mk fun v7 =>
 qExt 1 v6 <| .mk fun v8 =>
 qJoin 49 (.mk (
 f24_J9 N call k)) <| .mk fun j9 =>
 qNot v8 <| .mk fun v35 =>
 qOr v35 h (.mk fun h k =>
 qCall call (.fn 36 []) [x7, (.str [40])] h <| .mk fun v36 h =>
 qNot v36 <| .mk fun v37 =>
 k v37 h) <| .mk fun v38 h =>
 qIf v38 (.mk (
 k (.tup [(.int .i64 2), v7, .nils, x7, v8]) h)) <| .mk (
 j9 x0 x1 x2 x3 x4 x5 x6 x7 x8 x9 v7 v8 x12 x13 x14 x15 x16 x17 x18 x19 x20 x21 x22 x23 x24 x25 x26 x27 v6 v7 v8 x31 x32 x33 x34 x35 x36 x37 x38 x39 x40 x41 x42 x43 x44 x45 x46 x47 x48 h)
noncomputable def f24_J4 {β : Type} (N : Nat) (call : FCall β) (k : K β) (x0 x1 x2 x3 x4 x5 x6 x7 x8 x9 x10 x11 x12 x13 x14 x15 x16 x17 x18 x19 x20 x21 x22 x23 x24 x25 x26 x27 x28 x29 x30 x31 x32 x33 x34 x35 x36 x37 x38 x39 x40 x41 x42 x43 x44 x45 x46 x47 x48 : AV) (h : H) : Option β :=
 qJoin 49 (.mk (
 f24_J5 N call k)) <| .mk fun j5 =>
 qCall call (.fn 34 []) [x6] h <| .mk fun v39 h =>
 qExt 0 v39 <| .mk fun v40 =>
 qExt 1 v39 <| .mk fun v41 =>
 qIf v41 (.mk (
 k (.tup [(.int .i64 1), v40, .nils, x7, (.bool true)]) h)) <| .mk (
 j5 x0 x1 x2 x3 x4 x5 x6 x7 v40 v41 x10 x11 x12 x13 x14 x15 x16 x17 x18 x19 x20 x21 x22 v39 v40 v41 x26 x27 x28 x29 x30 x31 x32 x33 x34 x35 x36 x37 x38 x39 x40 x41 x42 x43 x44 x45 x46 x47 x48 h)
noncomputable def f24_J3 {β : Type} (N : Nat) (call : FCall β) (k : K β) (x0 x1 x2 x3 x4 x5 x6 x7 x8 x9 x10 x11 x12 x13 x14 x15 x16 x17 x18 x19 x20 x21 x22 x23 x24 x25 x26 x27 x28 x29 x30 x31 x32 x33 x34 x35 x36 x37 x38 x39 x40 x41 x42 x43 x44 x45 x46 x47 x48 : AV) (h : H) : Option β :=
 qJoin 49 (.mk (
 f24_J4 N call k)) <| .mk fun j4 =>
 qSEql x6 (.str [33]) <| .mk fun v42 =>
 qIf v42 (.mk (
 k (.tup [(.int .i64 3), (.int .i64 0), .nils, x7, (.bool true)]) h)) <| .mk (
 j4 x0 x1 x2 x3 x4 x5 x6 x7 x8 x9 x10 x11 x12 x13 x14 x15 x16 x17 x18 x19 x20 x21 x22 x23 x24 x25 x26 x27 x28 x29 x30 x31 x32 x33 x34 x35 x36 x37 x38 x39 x40 x41 x42 x43 x44 x45 x46 x47 x48 h)
noncomputable def f24 {β : Type} (N : Nat) (call : FCall β) (a : List AV) (h : H) (k : K β) : Option β :=
 qCall call (.fn 33 []) [(nth a 0)] h <| .mk fun v0 h =>
 qExt 0 v0 <| .mk fun v1 =>
 qExt 1 v0 <| .mk fun v2 =>
 qJoin 49 (.mk (
 f24_J3 N call k)) <| .mk fun j3 =>
 qSEql v1 (.str [95]) <| .mk fun v43 =>
 qIf v43 (.mk (
 k (.tup [(.int .i64 0), (.int .i64 0), .nils, v2, (.bool true)]) h)) <| .mk (
 j3 (nth a 0) (.int .i64 0) (.int .i64 0) .nils (.str []) (.bool false) v1 v2 (nth a 9) (nth a 10) (nth a 11) (nth a 12) (nth a 13) (nth a 14) (nth a 18) (nth a 19) (nth a 20) (nth a 21) v0 v1 v2 (nth a 29) (nth a 32) (nth a 33) (nth a 36) (nth a 37) (nth a 39) (nth a 40) (nth a 41) (nth a 44) (nth a 45) (nth a 53) (nth a 54) (nth a 55) (nth a 61) (nth a 64) (nth a 65) (nth a 66) (nth a 67) (nth a 68) (nth a 80) (nth a 81) (nth a 85) (nth a 88) (nth a 89) (nth a 90) (nth a 91) (nth a 92) (nth a 93) h)
theorem y24 {β : Type} (I : FI) (N : Nat) (call : FCall β) (a : List AV) (h : H) (k : K β) : fBody I 24 T.s24 N call a h k = f24 N call a h k := by kernel_rfl
noncomputable def f25_J7 {β : Type} (k : K β) (x0 x1 x2 x3 x4 x5 x6 x7 x8 x9 x10 x11 x12 x13 x14 x15 x16 x17 x18 x19 x20 : AV) (h : H) : Option β :=
 qAdd x1 x9 <| .mk fun v8 =>
 qBuild [(.int .i64 0), (.int .i64 0), .nils, (.int .i64 0)] [(0, 1), (1, 1), (3, 1)] [(.int .i64 1), x8, v8] <| .mk fun v9 =>
 qStore 4 x2 v9 h <| .mk fun h =>
 qLoadN 4 x2 h <| .mk fun v10 =>
 k v10 h
noncomputable def f25_J2 {β : Type} (call : FCall β) (k : K β) (x0 x1 x2 x3 x4 x5 x6 x7 x8 x9 x10 x11 x12 x13 x14 x15 x16 x17 x18 x19 x20 : AV) (h : H) : Option β :=
 qSlS true false x0 [x1] <| .mk fun v3 =>
 qCall call (.fn 39 []) [v3] h <| .mk fun v4 h =>
 qExt 0 v4 <| .mk fun v5 =>
 qExt 1 v4 <| .mk fun v6 =>
 qJoin 21 (.mk (
 f25_J7 k)) <| .mk fun j7 =>
 qEql v6 (.int .i64 0) <| .mk fun v11 =>
 qOr v11 h (.mk fun h k =>
 qCall call (.fn 41 []) [v5] h <| .mk fun v12 h =>
 qNot v12 <| .mk fun v13 =>
 k v13 h) <| .mk fun v14 h =>
 qIf v14 (.mk (
 qCall call (.fn 38 []) [] h <| .mk fun v15 h =>
 qStore 4 x2 v15 h <| .mk fun h =>
 qLoadN 4 x2 h <| .mk fun v16 =>
 k v16 h)) <| .mk (
 j7 x0 x1 x2 x3 x4 x5 x6 x7 v5 v6 x10 x11 x12 x13 x14 x15 x16 x17 v4 v5 v6 h)
noncomputable def f25_J37 {β : Type} (k : K β) (x0 x1 x2 x3 x4 x5 x6 x7 x8 x9 x10 x11 x12 x13 x14 x15 x16 x17 x18 x19 x20 : AV) (h : H) : Option β :=
 qLoadN 4 x5 h <| .mk fun v38 =>
 qStore 4 x2 v38 h <| .mk fun h =>
 qLoadN 4 x2 h <| .mk fun v39 =>
 k v39 h
noncomputable def f25_J32 {β : Type} (call : FCall β) (k : K β) (x0 x1 x2 x3 x4 x5 x6 x7 x8 x9 x10 x11 x12 x13 x14 x15 x16 x17 x18 x19 x20 : AV) (h : H) : Option β :=
 qAdd x1 (.int .i64 1) <| .mk fun v33 =>
 qAdd v33 x4 <| .mk fun v34 =>
 qBuild [(.int .i64 0), (.int .i64 0), .nils, (.int .i64 0)] [(0, 1), (1, 1), (3, 1)] [(.int .i64 2), x3, v34] <| .mk fun v35 =>
 qAlloc 0 [(.int .i64 0), (.int .i64 0), .nils, (.int .i64 0)] h <| .mk fun v36 h =>
 qStore 4 v36 v35 h <| .mk fun h =>
 qJoin 21 (.mk (
 f25_J37 k)) <| .mk fun j37 =>
 qFadr 3 v36 <| .mk fun v40 =>
 qLoad1 v40 h <| .mk fun v41 =>
 qLenS x0 <| .mk fun v42 =>
 qLss v41 v42 <| .mk fun v43 =>
 qAnd v43 h (.mk fun h k =>
 qFadr 3 v36 <| .mk fun v44 =>
 qLoad1 v44 h <| .mk fun v45 =>
 qIdxS x0 v45 <| .mk fun v46 =>
 qEql v46 (.int .u8 40) <| .mk fun v47 =>
 k v47 h) <| .mk fun v48 h =>
 qIf v48 (.mk (
 qLoadN 4 v36 h <| .mk fun v49 =>
 qFadr 3 v36 <| .mk fun v50 =>
 qLoad1 v50 h <| .mk fun v51 =>
 qAdd v51 (.int .i64 1) <| .mk fun v52 =>
 qCall call (.fn 40 []) [x0, v49, v52] h <| .mk fun v53 h =>
 qStore 4 x2 v53 h <| .mk fun h =>
 qLoadN 4 x2 h <| .mk fun v54 =>
 k v54 h)) <| .mk (
 j37 x0 x1 x2 x3 x4 v36 x6 x7 x8 x9 x10 x11 x12 x13 v35 x15 x16 x17 x18 x19 x20 h)
noncomputable def f25_J66 {β : Type} (k : K β) (x0 x1 x2 x3 x4 x5 x6 x7 x8 x9 x10 x11 x12 x13 x14 x15 x16 x17 x18 x19 x20 : AV) (h : H) : Option β :=
 qNeg x6 <| .mk fun v67 =>
 qAdd x1 (.int .i64 1) <| .mk fun v68 =>
 qAdd v68 x7 <| .mk fun v69 =>
 qBuild [(.int .i64 0), (.int .i64 0), .nils, (.int .i64 0)] [(0, 1), (1, 1), (3, 1)] [(.int .i64 1), v67, v69] <| .mk fun v70 =>
 qStore 4 x2 v70 h <| .mk fun h =>
 qLoadN 4 x2 h <| .mk fun v71 =>
 k v71 h
noncomputable def f25_J1 {β : Type} (call : FCall β) (k : K β) (x0 x1 x2 x3 x4 x5 x6 x7 x8 x9 x10 x11 x12 x13 x14 x15 x16 x17 x18 x19 x20 : AV) (h : H) : Option β :=
 qJoin 21 (.mk (
 f25_J2 call k)) <| .mk fun j2 =>
 qIdxS x0 x1 <| .mk fun v17 =>
 qEql v17 (.int .u8 95) <| .mk fun v18 =>
 qIf v18 (.mk (
 qAdd x1 (.int .i64 1) <| .mk fun v19 =>
 qBuild [(.int .i64 0), (.int .i64 0), .nils, (.int .i64 0)] [(0, 1), (3, 1)] [(.int .i64 0), v19] <| .mk fun v20 =>
 qStore 4 x2 v20 h <| .mk fun h =>
 qLoadN 4 x2 h <| .mk fun v21 =>
 k v21 h)) <| .mk (
 qEql v17 (.int .u8 33) <| .mk fun v22 =>
 qIf v22 (.mk (
 qAdd x1 (.int .i64 1) <| .mk fun v23 =>
 qBuild [(.int .i64 0), (.int .i64 0), .nils, (.int .i64 0)] [(0, 1), (3, 1)] [(.int .i64 3), v23] <| .mk fun v24 =>
 qStore 4 x2 v24 h <| .mk fun h =>
 qLoadN 4 x2 h <| .mk fun v25 =>
 k v25 h)) <| .mk (
 qEql v17 (.int .u8 64) <| .mk fun v26 =>
 qIf v26 (.mk (
 qAdd x1 (.int .i64 1) <| .mk fun v27 =>
 qSlS true false x0 [v27] <| .mk fun v28 =>
 qCall call (.fn 39 []) [v28] h <| .mk fun v29 h =>
 qExt 0 v29 <| .mk fun v30 =>
 qExt 1 v29 <| .mk fun v31 =>
 qJoin 21 (.mk (
 f25_J32 call k)) <| .mk fun j32 =>
 qEql v31 (.int .i64 0) <| .mk fun v55 =>
 qOr v55 h (.mk fun h k =>
 qGtr v30 (.int .i64 99) <| .mk fun v56 =>
 k v56 h) <| .mk fun v57 h =>
 qIf v57 (.mk (
 qCall call (.fn 38 []) [] h <| .mk fun v58 h =>
 qStore 4 x2 v58 h <| .mk fun h =>
 qLoadN 4 x2 h <| .mk fun v59 =>
 k v59 h)) <| .mk (
 j32 x0 x1 x2 v30 v31 x5 x6 x7 x8 x9 v17 v29 v30 v31 x14 x15 x16 x17 x18 x19 x20 h))) <| .mk (
 qEql v17 (.int .u8 45) <| .mk fun v60 =>
 qIf v60 (.mk (
 qAdd x1 (.int .i64 1) <| .mk fun v61 =>
 qSlS true false x0 [v61] <| .mk fun v62 =>
 qCall call (.fn 39 []) [v62] h <| .mk fun v63 h =>
 qExt 0 v63 <| .mk fun v64 =>
 qExt 1 v63 <| .mk fun v65 =>
 qJoin 21 (.mk (
 f25_J66 k)) <| .mk fun j66 =>
 qEql v65 (.int .i64 0) <| .mk fun v72 =>
 qOr v72 h (.mk fun h k =>
 qEql v64 (.int .i64 0) <| .mk fun v73 =>
 k v73 h) <| .mk fun v74 h =>
 qOr v74 h (.mk fun h k =>
 qNeg v64 <| .mk fun v75 =>
 qCall call (.fn 41 []) [v75] h <| .mk fun v76 h =>
 qNot v76 <| .mk fun v77 =>
 k v77 h) <| .mk fun v78 h =>
 qIf v78 (.mk (
 qCall call (.fn 38 []) [] h <| .mk fun v79 h =>
 qStore 4 x2 v79 h <| .mk fun h =>
 qLoadN 4 x2 h <| .mk fun v80 =>
 k v80 h)) <| .mk (
 j66 x0 x1 x2 x3 x4 x5 v64 v65 x8 x9 v17 x11 x12 x13 x14 v63 v64 v65 x18 x19 x20 h))) <| .mk (
 j2 x0 x1 x2 x3 x4 x5 x6 x7 x8 x9 v17 x11 x12 x13 x14 x15 x16 x17 x18 x19 x20 h))))
noncomputable def f25 {β : Type} (N : Nat) (call : FCall β) (a : List AV) (h : H) (k : K β) : Option β :=
 qAlloc 0 [(.int .i64 0), (.int .i64 0), .nils, (.int .i64 0)] h <| .mk fun v0 h =>
 qJoin 21 (.mk (
 f25_J1 call k)) <| .mk fun j1 =>
 qLenS (nth a 0) <| .mk fun v81 =>
 qGeq (nth a 1) v81 <| .mk fun v82 =>
 qIf v82 (.mk (
 qCall call (.fn 38 []) [] h <| .mk fun v83 h =>
 qStore 4 v0 v83 h <| .mk fun h =>
 qLoadN 4 v0 h <| .mk fun v84 =>
 k v84 h)) <| .mk (
 j1 (nth a 0) (nth a 1) v0 (nth a 5) (nth a 6) (nth a 7) (nth a 8) (nth a 9) (nth a 10) (nth a 11) (nth a 19) (nth a 32) (nth a 38) (nth a 39) (nth a 52) (nth a 74) (nth a 80) (nth a 81) (nth a 102) (nth a 107) (nth a 108) h)
theorem y25 {β : Type} (I : FI) (N : Nat) (call : FCall β) (a : List AV) (h : H) (k : K β) : fBody I 25 T.s25 N call a h k = f25 N call a h k := by kernel_rfl
noncomputable def f26_J0 {β : Type} (k : K β) (x0 x1 x2 x3 x4 x5 x6 : AV) (h : H) : Option β :=
 k (.bool true) h
noncomputable def f26_J5 {β : Type} (l2 : Cur β 7) (x0 x1 x2 x3 x4 x5 x6 : AV) (h : H) : Option β :=
 qAdd x5 (.int .i64 1) <| .mk fun v6 =>
 l2 x0 x1 x2 x3 x4 v6 x6 h
noncomputable def f26_J4 {β : Type} (call : FCall β) (k : K β) (l2 : Cur β 7) (x0 x1 x2 x3 x4 x5 x6 : AV) (h : H) : Option β :=
 qJoin 7 (.mk (
 f26_J5 l2)) <| .mk fun j5 =>
 qIadr 1 x3 x5 <| .mk fun v7 =>
 qLoad1 v7 h <| .mk fun v8 =>
 qCall call (.fn 17 []) [v8] h <| .mk fun v9 h =>
 qNot v9 <| .mk fun v10 =>
 qIf v10 (.mk (
 k (.bool false) h)) <| .mk (
 j5 x0 x1 v8 x3 x4 x5 x6 h)
noncomputable def f26_L2 {β : Type} (call : FCall β) (k : K β) (j0 : Cur β 7) (l2 : Cur β 7) (x0 x1 x2 x3 x4 x5 x6 : AV) (h : H) : Option β :=
 qLss x5 x4 <| .mk fun v3 =>
 qJoin 7 (.mk (
 f26_J4 call k l2)) <| .mk fun j4 =>
 qIf v3 (.mk (
 j4 .any .any .any x3 x4 x5 v3 h)) <| .mk (
 j0 .any .any .any x3 x4 x5 v3 h)
noncomputable def f26 {β : Type} (N : Nat) (call : FCall β) (a : List AV) (h : H) (k : K β) : Option β :=
 qJoin 7 (.mk (
 f26_J0 k)) <| .mk fun j0 =>
 qLenL (nth a 0) <| .mk fun v1 =>
 (qLoop 7 N <| .mk (
 f26_L2 call k j0)) (nth a 0) (.bool false) (nth a 4) (nth a 0) v1 (.int .i64 0) (nth a 8) h
theorem y26 {β : Type} (I : FI) (N : Nat) (call : FCall β) (a : List AV) (h : H) (k : K β) : fBody I 26 T.s26 N call a h k = f26 N call a h k := by kernel_rfl
noncomputable def f27_J2 {β : Type} (k : K β) (x0 x1 x2 x3 : AV) (h : H) : Option β :=
 k x3 h
noncomputable def f27 {β : Type} (N : Nat) (call : FCall β) (a : List AV) (h : H) (k : K β) : Option β :=
 qCall call (.fn 29 []) [(nth a 0)] h <| .mk fun v0 h =>
 qSAdd (.str [64]) v0 <| .mk fun v1 =>
 qJoin 4 (.mk (
 f27_J2 k)) <| .mk fun j2 =>
 qLenL (nth a 1) <| .mk fun v3 =>
 qGtr v3 (.int .i64 0) <| .mk fun v4 =>
 qIf v4 (.mk (
 qCall call (.fn 42 []) [(nth a 1), (.str [32])] h <| .mk fun v5 h =>
 qSAdd (.str [40]) v5 <| .mk fun v6 =>
 qSAdd v6 (.str [41]) <| .mk fun v7 =>
 qSAdd v1 v7 <| .mk fun v8 =>
 j2 (nth a 0) (nth a 1) (.str []) v8 h)) <| .mk (
 j2 (nth a 0) (nth a 1) (.str []) v1 h)
theorem y27 {β : Type} (I : FI) (N : Nat) (call : FCall β) (a : List AV) (h : H) (k : K β) : fBody I 27 T.s27 N call a h k = f27 N call a h k := by kernel_rfl
noncomputable def f28 {β : Type} (N : Nat) (call : FCall β) (a : List AV) (h : H) (k : K β) : Option β :=
 qGeq (nth a 0) (.int .i64 (-32768)) <| .mk fun v0 =>
 qAnd v0 h (.mk fun h k =>
 qLeq (nth a 0) (.int .i64 32767) <| .mk fun v1 =>
 k v1 h) <| .mk fun v2 h =>
 k v2 h
theorem y28 {β : Type} (I : FI) (N : Nat) (call : FCall β) (a : List AV) (h : H) (k : K β) : fBody I 28 T.s28 N call a h k = f28 N call a h k := by kernel_rfl
noncomputable def f30 {β : Type} (N : Nat) (call : FCall β) (a : List AV) (h : H) (k : K β) : Option β :=
 qGeq (nth a 0) (nth a 1) <| .mk fun v0 =>
 qAnd v0 h (.mk fun h k =>
 qLeq (nth a 0) (nth a 2) <| .mk fun v1 =>
 k v1 h) <| .mk fun v2 h =>
 k v2 h
theorem y30 {β : Type} (I : FI) (N : Nat) (call : FCall β) (a : List AV) (h : H) (k : K β) : fBody I 30 T.s30 N call a h k = f30 N call a h k := by kernel_rfl
noncomputable def f31_J0 {β : Type} (k : K β) (x0 x1 x2 x3 : AV) (h : H) : Option β :=
 k x2 h
noncomputable def f31_J3 {β : Type} (l1 : Cur β 4) (x0 x1 x2 x3 : AV) (h : H) : Option β :=
 qAdd x3 (.int .i64 1) <| .mk fun v4 =>
 l1 x0 x1 x2 v4 h
noncomputable def f31_J5 {β : Type} (j3 : Cur β 4) (x0 x1 x2 x3 : AV) (h : H) : Option β :=
 qIadr 1 x0 x3 <| .mk fun v6 =>
 qLoad1 v6 h <| .mk fun v7 =>
 qSAdd x2 v7 <| .mk fun v8 =>
 j3 x0 x1 v8 x3 h
noncomputable def f31_J2 {β : Type} (l1 : Cur β 4) (x0 x1 x2 x3 : AV) (h : H) : Option β :=
 qJoin 4 (.mk (
 f31_J3 l1)) <| .mk fun j3 =>
 qJoin 4 (.mk (
 f31_J5 j3)) <| .mk fun j5 =>
 qGtr x3 (.int .i64 0) <| .mk fun v9 =>
 qIf v9 (.mk (
 qSAdd x2 (.str [32]) <| .mk fun v10 =>
 j5 x0 x1 v10 x3 h)) <| .mk (
 j5 x0 x1 x2 x3 h)
noncomputable def f31_L1 {β : Type} (j0 : Cur β 4) (l1 : Cur β 4) (x0 x1 x2 x3 : AV) (h : H) : Option β :=
 qJoin 4 (.mk (
 f31_J2 l1)) <| .mk fun j2 =>
 qLenL x0 <| .mk fun v11 =>
 qLss x3 v11 <| .mk fun v12 =>
 qIf v12 (.mk (
 j2 x0 .any x2 x3 h)) <| .mk (
 j0 x0 .any x2 x3 h)
noncomputable def f31 {β : Type} (N : Nat) (call : FCall β) (a : List AV) (h : H) (k : K β) : Option β :=
 qJoin 4 (.mk (
 f31_J0 k)) <| .mk fun j0 =>
 (qLoop 4 N <| .mk (
 f31_L1 j0)) (nth a 0) (.str []) (.str []) (.int .i64 0) h
theorem y31 {β : Type} (I : FI) (N : Nat) (call : FCall β) (a : List AV) (h : H) (k : K β) : fBody I 31 T.s31 N call a h k = f31 N call a h k := by kernel_rfl
noncomputable def f32_J1 {β : Type} (k : K β) (x0 x1 x2 x3 x4 : AV) (h : H) : Option β :=
 k (.bool true) h
noncomputable def f32_J4 {β : Type} (l2 : Cur β 5) (x0 x1 x2 x3 x4 : AV) (h : H) : Option β :=
 qAdd x3 (.int .i64 1) <| .mk fun v5 =>
 l2 x0 x1 x2 v5 x4 h
noncomputable def f32_J3 {β : Type} (k : K β) (l2 : Cur β 5) (x0 x1 x2 x3 x4 : AV) (h : H) : Option β :=
 qJoin 5 (.mk (
 f32_J4 l2)) <| .mk fun j4 =>
 qIadr 1 x0 x3 <| .mk fun v6 =>
 qLoad1 v6 h <| .mk fun v7 =>
 qIadr 1 x1 x3 <| .mk fun v8 =>
 qLoad1 v8 h <| .mk fun v9 =>
 qSNeq v7 v9 <| .mk fun v10 =>
 qIf v10 (.mk (
 k (.bool false) h)) <| .mk (
 j4 x0 x1 x2 x3 v10 h)
noncomputable def f32_L2 {β : Type} (k : K β) (j1 : Cur β 5) (l2 : Cur β 5) (x0 x1 x2 x3 x4 : AV) (h : H) : Option β :=
 qJoin 5 (.mk (
 f32_J3 k l2)) <| .mk fun j3 =>
 qLenL x0 <| .mk fun v11 =>
 qLss x3 v11 <| .mk fun v12 =>
 qIf v12 (.mk (
 j3 x0 x1 .any x3 .any h)) <| .mk (
 j1 x0 x1 .any x3 .any h)
noncomputable def f32_J0 {β : Type} (N : Nat) (k : K β) (x0 x1 x2 x3 x4 : AV) (h : H) : Option β :=
 qJoin 5 (.mk (
 f32_J1 k)) <| .mk fun j1 =>
 (qLoop 5 N <| .mk (
 f32_L2 k j1)) x0 x1 x2 (.int .i64 0) x4 h
noncomputable def f32 {β : Type} (N : Nat) (call : FCall β) (a : List AV) (h : H) (k : K β) : Option β :=
 qJoin 5 (.mk (
 f32_J0 N k)) <| .mk fun j0 =>
 qLenL (nth a 0) <| .mk fun v13 =>
 qLenL (nth a 1) <| .mk fun v14 =>
 qNeq v13 v14 <| .mk fun v15 =>
 qIf v15 (.mk (
 k (.bool false) h)) <| .mk (
 j0 (nth a 0) (nth a 1) (.bool false) (nth a 5) (nth a 25) h)
theorem y32 {β : Type} (I : FI) (N : Nat) (call : FCall β) (a : List AV) (h : H) (k : K β) : fBody I 32 T.s32 N call a h k = f32 N call a h k := by kernel_rfl
noncomputable def f33_J1 {β : Type} (k : K β) (x0 x1 x2 x3 : AV) (h : H) : Option β :=
 qSlS false true x0 [x3] <| .mk fun v2 =>
 qSlS true false x0 [x3] <| .mk fun v3 =>
 k (.tup [v2, v3]) h
noncomputable def f33 {β : Type} (N : Nat) (call : FCall β) (a : List AV) (h : H) (k : K β) : Option β :=
 qCall call (.fn 44 []) [(nth a 0), (.str [32, 40, 41])] h <| .mk fun v0 h =>
 qJoin 4 (.mk (
 f33_J1 k)) <| .mk fun j1 =>
 qLss v0 (.int .i64 0) <| .mk fun v4 =>
 qIf v4 (.mk (
 qLenS (nth a 0) <| .mk fun v5 =>
 j1 (nth a 0) (.str []) (.str []) v5 h)) <| .mk (
 j1 (nth a 0) (.str []) (.str []) v0 h)
theorem y33 {β : Type} (I : FI) (N : Nat) (call : FCall β) (a : List AV) (h : H) (k : K β) : fBody I 33 T.s33 N call a h k = f33 N call a h k := by kernel_rfl
noncomputable def f34 {β : Type} (N : Nat) (call : FCall β) (a : List AV) (h : H) (k : K β) : Option β :=
 qCall call (.fn 45 []) [(nth a 0)] h <| .mk fun v0 h =>
 qExt 0 v0 <| .mk fun v1 =>
 qExt 1 v0 <| .mk fun v2 =>
 qIsNil .ifc false v2 <| .mk fun v3 =>
 qAnd v3 h (.mk fun h k =>
 qCall call (.fn 28 []) [v1] h <| .mk fun v4 h =>
 k v4 h) <| .mk fun v5 h =>
 qAnd v5 h (.mk fun h k =>
 qCall call (.fn 29 []) [v1] h <| .mk fun v6 h =>
 qSEql v6 (nth a 0) <| .mk fun v7 =>
 k v7 h) <| .mk fun v8 h =>
 k (.tup [v1, v8]) h
theorem y34 {β : Type} (I : FI) (N : Nat) (call : FCall β) (a : List AV) (h : H) (k : K β) : fBody I 34 T.s34 N call a h k = f34 N call a h k := by kernel_rfl
noncomputable def f35 {β : Type} (N : Nat) (call : FCall β) (a : List AV) (h : H) (k : K β) : Option β :=
 qCall call (.fn 37 []) [(nth a 0), (.str [64])] h <| .mk fun v0 h =>
 qExt 0 v0 <| .mk fun v1 =>
 qExt 1 v0 <| .mk fun v2 =>
 qCall call (.fn 46 []) [v1, (.int .i64 99)] h <| .mk fun v3 h =>
 qExt 0 v3 <| .mk fun v4 =>
 qExt 1 v3 <| .mk fun v5 =>
 qAnd v2 h (.mk fun h k =>
 k v5 h) <| .mk fun v6 h =>
 k (.tup [v4, v6]) h
theorem y35 {β : Type} (I : FI) (N : Nat) (call : FCall β) (a : List AV) (h : H) (k : K β) : fBody I 35 T.s35 N call a h k = f35 N call a h k := by kernel_rfl
noncomputable def f36 {β : Type} (N : Nat) (call : FCall β) (a : List AV) (h : H) (k : K β) : Option β :=
 qCall call (.fn 47 []) [(nth a 0), (nth a 1)] h <| .mk fun v0 h =>
 k v0 h
theorem y36 {β : Type} (I : FI) (N : Nat) (call : FCall β) (a : List AV) (h : H) (k : K β) : fBody I 36 T.s36 N call a h k = f36 N call a h k := by kernel_rfl
noncomputable def f37 {β : Type} (N : Nat) (call : FCall β) (a : List AV) (h : H) (k : K β) : Option β :=
 qCall call (.fn 48 []) [(nth a 0), (nth a 1)] h <| .mk fun v0 h =>
 qExt 0 v0 <| .mk fun v1 =>
 qExt 1 v0 <| .mk fun v2 =>
 k (.tup [v1, v2]) h
theorem y37 {β : Type} (I : FI) (N : Nat) (call : FCall β) (a : List AV) (h : H) (k : K β) : fBody I 37 T.s37 N call a h k = f37 N call a h k := by kernel_rfl
noncomputable def f38 {β : Type} (N : Nat) (call : FCall β) (a : List AV) (h : H) (k : K β) : Option β :=
 qAlloc 0 [(.int .i64 0), (.int .i64 0), .nils, (.int .i64 0)] h <| .mk fun v0 h =>
 qBuild [(.int .i64 0), (.int .i64 0), .nils, (.int .i64 0)] [(3, 1)] [(.int .i64 (-1))] <| .mk fun v1 =>
 qStore 4 v0 v1 h <| .mk fun h =>
 qLoadN 4 v0 h <| .mk fun v2 =>
 k v2 h
theorem y38 {β : Type} (I : FI) (N : Nat) (call : FCall β) (a : List AV) (h : H) (k : K β) : fBody I 38 T.s38 N call a h k = f38 N call a h k := by kernel_rfl
noncomputable def f39_J0 {β : Type} (k : K β) (x0 x1 x2 x3 x4 x5 x6 : AV) (h : H) : Option β :=
 k (.tup [x3, x4]) h
noncomputable def f39_J2 {β : Type} (l1 : Cur β 7) (x0 x1 x2 x3 x4 x5 x6 : AV) (h : H) : Option β :=
 qMul (.int .i64 10) x3 <| .mk fun v3 =>
 qIdxS x0 x4 <| .mk fun v4 =>
 qSub v4 (.int .u8 48) <| .mk fun v5 =>
 qConv .i64 v5 <| .mk fun v6 =>
 qAdd v3 v6 <| .mk fun v7 =>
 qAdd x4 (.int .i64 1) <| .mk fun v8 =>
 l1 x0 x1 x2 v7 v8 x5 x6 h
noncomputable def f39_L1 {β : Type} (j0 : Cur β 7) (l1 : Cur β 7) (x0 x1 x2 x3 x4 x5 x6 : AV) (h : H) : Option β :=
 qJoin 7 (.mk (
 f39_J2 l1)) <| .mk fun j2 =>
 qLenS x0 <| .mk fun v9 =>
 qLss x4 v9 <| .mk fun v10 =>
 qAnd v10 h (.mk fun h k =>
 qLss x4 (.int .i64 6) <| .mk fun v11 =>
 k v11 h) <| .mk fun v12 h =>
 qAnd v12 h (.mk fun h k =>
 qIdxS x0 x4 <| .mk fun v13 =>
 qGeq v13 (.int .u8 48) <| .mk fun v14 =>
 k v14 h) <| .mk fun v15 h =>
 qAnd v15 h (.mk fun h k =>
 qIdxS x0 x4 <| .mk fun v16 =>
 qLeq v16 (.int .u8 57) <| .mk fun v17 =>
 k v17 h) <| .mk fun v18 h =>
 qAnd v18 h (.mk fun h k =>
 qEql x4 (.int .i64 0) <| .mk fun v19 =>
 qOr v19 h (.mk fun h k =>
 qIdxS x0 (.int .i64 0) <| .mk fun v20 =>
 qNeq v20 (.int .u8 48) <| .mk fun v21 =>
 k v21 h) <| .mk fun v22 h =>
 k v22 h) <| .mk fun v23 h =>
 qIf v23 (.mk (
 j2 x0 .any .any x3 x4 .any .any h)) <| .mk (
 j0 x0 .any .any x3 x4 .any .any h)
noncomputable def f39 {β : Type} (N : Nat) (call : FCall β) (a : List AV) (h : H) (k : K β) : Option β :=
 qJoin 7 (.mk (
 f39_J0 k)) <| .mk fun j0 =>
 (qLoop 7 N <| .mk (
 f39_L1 j0)) (nth a 0) (.int .i64 0) (.int .i64 0) (.int .i64 0) (.int .i64 0) (nth a 45) (nth a 46) h
theorem y39 {β : Type} (I : FI) (N : Nat) (call : FCall β) (a : List AV) (h : H) (k : K β) : fBody I 39 T.s39 N call a h k = f39 N call a h k := by kernel_rfl
noncomputable def f40_J2 {β : Type} (call : FCall β) (k : K β) (x0 x1 x2 x3 x4 x5 x6 : AV) (h : H) : Option β :=
 qCall call (.fn 38 []) [] h <| .mk fun v3 h =>
 qStore 4 x4 v3 h <| .mk fun h =>
 qLoadN 4 x4 h <| .mk fun v4 =>
 k v4 h
noncomputable def f40_J20 {β : Type} (l5 : Cur β 7) (x0 x1 x2 x3 x4 x5 x6 : AV) (h : H) : Option β :=
 qFadr 3 x5 <| .mk fun v21 =>
 qLoad1 v21 h <| .mk fun v22 =>
 qAdd v22 (.int .i64 1) <| .mk fun v23 =>
 l5 x0 x1 v23 x3 x4 x5 x6 h
noncomputable def f40_J19 {β : Type} (call : FCall β) (k : K β) (l5 : Cur β 7) (x0 x1 x2 x3 x4 x5 x6 : AV) (h : H) : Option β :=
 qJoin 7 (.mk (
 f40_J20 l5)) <| .mk fun j20 =>
 qFadr 3 x5 <| .mk fun v24 =>
 qLoad1 v24 h <| .mk fun v25 =>
 qIdxS x0 v25 <| .mk fun v26 =>
 qNeq v26 (.int .u8 32) <| .mk fun v27 =>
 qIf v27 (.mk (
 qCall call (.fn 38 []) [] h <| .mk fun v28 h =>
 qStore 4 x4 v28 h <| .mk fun h =>
 qLoadN 4 x4 h <| .mk fun v29 =>
 k v29 h)) <| .mk (
 j20 x0 x1 x2 x3 x4 x5 x6 h)
noncomputable def f40_J9 {β : Type} (call : FCall β) (k : K β) (l5 : Cur β 7) (x0 x1 x2 x3 x4 x5 x6 : AV) (h : H) : Option β :=
 qFadr 2 x3 <| .mk fun v10 =>
 qLoad1 v10 h <| .mk fun v11 =>
 qFadr 3 x5 <| .mk fun v12 =>
 qLoad1 v12 h <| .mk fun v13 =>
 qSlS true true x0 [x2, v13] <| .mk fun v14 =>
 qBslice 0 [(.str [])] 1 [(0, 1)] [v14] h <| .mk fun v15 h =>
 qLoad1 v10 h <| .mk fun v16 =>
 qChk v16 v11 <| .mk (
 qApp 0 1 16 v11 v15 h <| .mk fun v17 h =>
 qFadr 2 x3 <| .mk fun v18 =>
 qStore 1 v18 v17 h <| .mk fun h =>
 qJoin 7 (.mk (
 f40_J19 call k l5)) <| .mk fun j19 =>
 qFadr 3 x5 <| .mk fun v30 =>
 qLoad1 v30 h <| .mk fun v31 =>
 qIdxS x0 v31 <| .mk fun v32 =>
 qEql v32 (.int .u8 41) <| .mk fun v33 =>
 qIf v33 (.mk (
 qFadr 3 x5 <| .mk fun v34 =>
 qLoad1 v34 h <| .mk fun v35 =>
 qAdd v35 (.int .i64 1) <| .mk fun v36 =>
 qFadr 3 x3 <| .mk fun v37 =>
 qStore 1 v37 v36 h <| .mk fun h =>
 qLoadN 4 x3 h <| .mk fun v38 =>
 qStore 4 x4 v38 h <| .mk fun h =>
 qLoadN 4 x4 h <| .mk fun v39 =>
 k v39 h)) <| .mk (
 j19 x0 x1 x2 x3 x4 x5 x6 h))
noncomputable def f40_J6 {β : Type} (call : FCall β) (k : K β) (l5 : Cur β 7) (x0 x1 x2 x3 x4 x5 x6 : AV) (h : H) : Option β :=
 qCall call (.fn 25 []) [x0, x2] h <| .mk fun v7 h =>
 qAlloc 0 [(.int .i64 0), (.int .i64 0), .nils, (.int .i64 0)] h <| .mk fun v8 h =>
 qStore 4 v8 v7 h <| .mk fun h =>
 qJoin 7 (.mk (
 f40_J9 call k l5)) <| .mk fun j9 =>
 qFadr 3 v8 <| .mk fun v40 =>
 qLoad1 v40 h <| .mk fun v41 =>
 qLss v41 (.int .i64 0) <| .mk fun v42 =>
 qOr v42 h (.mk fun h k =>
 qFadr 3 v8 <| .mk fun v43 =>
 qLoad1 v43 h <| .mk fun v44 =>
 qLenS x0 <| .mk fun v45 =>
 qGeq v44 v45 <| .mk fun v46 =>
 k v46 h) <| .mk fun v47 h =>
 qIf v47 (.mk (
 qCall call (.fn 38 []) [] h <| .mk fun v48 h =>
 qStore 4 x4 v48 h <| .mk fun h =>
 qLoadN 4 x4 h <| .mk fun v49 =>
 k v49 h)) <| .mk (
 j9 x0 x1 x2 x3 x4 v8 v7 h)
noncomputable def f40_L5 {β : Type} (call : FCall β) (k : K β) (j2 : Cur β 7) (l5 : Cur β 7) (x0 x1 x2 x3 x4 x5 x6 : AV) (h : H) : Option β :=
 qJoin 7 (.mk (
 f40_J6 call k l5)) <| .mk fun j6 =>
 qFadr 2 x3 <| .mk fun v50 =>
 qLoad1 v50 h <| .mk fun v51 =>
 qLenL v51 <| .mk fun v52 =>
 qLss v52 (.int .i64 3) <| .mk fun v53 =>
 qIf v53 (.mk (
 j6 x0 .any x2 x3 x4 .any .any h)) <| .mk (
 j2 x0 .any x2 x3 x4 .any .any h)
noncomputable def f40 {β : Type} (N : Nat) (call : FCall β) (a : List AV) (h : H) (k : K β) : Option β :=
 qBox 0 (nth a 1) h <| .mk fun v0 h =>
 qAlloc 0 [(.int .i64 0), (.int .i64 0), .nils, (.int .i64 0)] h <| .mk fun v1 h =>
 qJoin 7 (.mk (
 f40_J2 call k)) <| .mk fun j2 =>
 (qLoop 7 N <| .mk (
 f40_L5 call k j2)) (nth a 0) (nth a 1) (nth a 2) v0 v1 (nth a 7) (nth a 14) h
theorem y40 {β : Type} (I : FI) (N : Nat) (call : FCall β) (a : List AV) (h : H) (k : K β) : fBody I 40 T.s40 N call a h k = f40 N call a h k := by kernel_rfl
noncomputable def f41 {β : Type} (N : Nat) (call : FCall β) (a : List AV) (h : H) (k : K β) : Option β :=
 qCall call (.fn 30 []) [(nth a 0), (.int .i64 (-32768)), (.int .i64 32767)] h <| .mk fun v0 h =>
 k v0 h
theorem y41 {β : Type} (I : FI) (N : Nat) (call : FCall β) (a : List AV) (h : H) (k : K β) : fBody I 41 T.s41 N call a h k = f41 N call a h k := by kernel_rfl
noncomputable def f46 {β : Type} (N : Nat) (call : FCall β) (a : List AV) (h : H) (k : K β) : Option β :=
 qCall call (.fn 45 []) [(nth a 0)] h <| .mk fun v0 h =>
 qExt 0 v0 <| .mk fun v1 =>
 qExt 1 v0 <| .mk fun v2 =>
 qIsNil .ifc false v2 <| .mk fun v3 =>
 qAnd v3 h (.mk fun h k =>
 qGeq v1 (.int .i64 0) <| .mk fun v4 =>
 k v4 h) <| .mk fun v5 h =>
 qAnd v5 h (.mk fun h k =>
 qLeq v1 (nth a 1) <| .mk fun v6 =>
 k v6 h) <| .mk fun v7 h =>
 qAnd v7 h (.mk fun h k =>
 qCall call (.fn 29 []) [v1] h <| .mk fun v8 h =>
 qSEql v8 (nth a 0) <| .mk fun v9 =>
 k v9 h) <| .mk fun v10 h =>
 k (.tup [v1, v10]) h
theorem y46 {β : Type} (I : FI) (N : Nat) (call : FCall β) (a : List AV) (h : H) (k : K β) : fBody I 46 T.s46 N call a h k = f46 N call a h k := by kernel_rfl
noncomputable def f47 {β : Type} (N : Nat) (call : FCall β) (a : List AV) (h : H) (k : K β) : Option β :=
 qLenS (nth a 0) <| .mk fun v0 =>
 qLenS (nth a 1) <| .mk fun v1 =>
 qGeq v0 v1 <| .mk fun v2 =>
 qAnd v2 h (.mk fun h k =>
 qLenS (nth a 1) <| .mk fun v3 =>
 qSlS false true (nth a 0) [v3] <| .mk fun v4 =>
 qSEql v4 (nth a 1) <| .mk fun v5 =>
 k v5 h) <| .mk fun v6 h =>
 k v6 h
theorem y47 {β : Type} (I : FI) (N : Nat) (call : FCall β) (a : List AV) (h : H) (k : K β) : fBody I 47 T.s47 N call a h k = f47 N call a h k := by kernel_rfl
noncomputable def f48_J0 {β : Type} (k : K β) (x0 x1 x2 x3 : AV) (h : H) : Option β :=
 qLenS x1 <| .mk fun v1 =>
 qSlS true false x0 [v1] <| .mk fun v2 =>
 k (.tup [v2, (.bool true)]) h
noncomputable def f48 {β : Type} (N : Nat) (call : FCall β) (a : List AV) (h : H) (k : K β) : Option β :=
 qJoin 4 (.mk (
 f48_J0 k)) <| .mk fun j0 =>
 qCall call (.fn 47 []) [(nth a 0), (nth a 1)] h <| .mk fun v3 h =>
 qNot v3 <| .mk fun v4 =>
 qIf v4 (.mk (
 k (.tup [(nth a 0), (.bool false)]) h)) <| .mk (
 j0 (nth a 0) (nth a 1) (.str []) (.bool false) h)
theorem y48 {β : Type} (I : FI) (N : Nat) (call : FCall β) (a : List AV) (h : H) (k : K β) : fBody I 48 T.s48 N call a h k = f48 N call a h k := by kernel_rfl
noncomputable def e10 : Ent := ⟨10, T.s10, fun _ _ N call a h k => f10 N call a h k, fun _ I N call a h k => y10 I N call a h k⟩
noncomputable def e11 : Ent := ⟨11, T.s11, fun _ _ N call a h k => f11 N call a h k, fun _ I N call a h k => y11 I N call a h k⟩
noncomputable def e12 : Ent := ⟨12, T.s12, fun _ _ N call a h k => f12 N call a h k, fun _ I N call a h k => y12 I N call a h k⟩
noncomputable def e13 : Ent := ⟨13, T.s13, fun _ _ N call a h k => f13 N call a h k, fun _ I N call a h k => y13 I N call a h k⟩
noncomputable def e14 : Ent := ⟨14, T.s14, fun _ _ N call a h k => f14 N call a h k, fun _ I N call a h k => y14 I N call a h k⟩
noncomputable def e15 : Ent := ⟨15, T.s15, fun _ _ N call a h k => f15 N call a h k, fun _ I N call a h k => y15 I N call a h k⟩
noncomputable def e16 : Ent := ⟨16, T.s16, fun _ _ N call a h k => f16 N call a h k, fun _ I N call a h k => y16 I N call a h k⟩
noncomputable def e17 : Ent := ⟨17, T.s17, fun _ _ N call a h k => f17 N call a h k, fun _ I N call a h k => y17 I N call a h k⟩
noncomputable def e18 : Ent := ⟨18, T.s18, fun _ _ N call a h k => f18 N call a h k, fun _ I N call a h k => y18 I N call a h k⟩
noncomputable def e19 : Ent := ⟨19, T.s19, fun _ _ N call a h k => f19 N call a h k, fun _ I N call a h k => y19 I N call a h k⟩
noncomputable def e20 : Ent := ⟨20, T.s20, fun _ _ N call a h k => f20 N call a h k, fun _ I N call a h k => y20 I N call a h k⟩
noncomputable def e22 : Ent := ⟨22, T.s22, fun _ _ N call a h k => f22 N call a h k, fun _ I N call a h k => y22 I N call a h k⟩
noncomputable def e23 : Ent := ⟨23, T.s23, fun _ _ N call a h k => f23 N call a h k, fun _ I N call a h k => y23 I N call a h k⟩
noncomputable def e24 : Ent := ⟨24, T.s24, fun _ _ N call a h k => f24 N call a h k, fun _ I N call a h k => y24 I N call a h k⟩
noncomputable def e25 : Ent := ⟨25, T.s25, fun _ _ N call a h k => f25 N call a h k, fun _ I N call a h k => y25 I N call a h k⟩
noncomputable def e26 : Ent := ⟨26, T.s26, fun _ _ N call a h k => f26 N call a h k, fun _ I N call a h k => y26 I N call a h k⟩
noncomputable def e27 : Ent := ⟨27, T.s27, fun _ _ N call a h k => f27 N call a h k, fun _ I N call a h k => y27 I N call a h k⟩
noncomputable def e28 : Ent := ⟨28, T.s28, fun _ _ N call a h k => f28 N call a h k, fun _ I N call a h k => y28 I N call a h k⟩
noncomputable def e30 : Ent := ⟨30, T.s30, fun _ _ N call a h k => f30 N call a h k, fun _ I N call a h k => y30 I N call a h k⟩
noncomputable def e31 : Ent := ⟨31, T.s31, fun _ _ N call a h k => f31 N call a h k, fun _ I N call a h k => y31 I N call a h k⟩
noncomputable def e32 : Ent := ⟨32, T.s32, fun _ _ N call a h k => f32 N call a h k, fun _ I N call a h k => y32 I N call a h k⟩
noncomputable def e33 : Ent := ⟨33, T.s33, fun _ _ N call a h k => f33 N call a h k, fun _ I N call a h k => y33 I N call a h k⟩
noncomputable def e34 : Ent := ⟨34, T.s34, fun _ _ N call a h k => f34 N call a h k, fun _ I N call a h k => y34 I N call a h k⟩
noncomputable def e35 : Ent := ⟨35, T.s35, fun _ _ N call a h k => f35 N call a h k, fun _ I N call a h k => y35 I N call a h k⟩
noncomputable def e36 : Ent := ⟨36, T.s36, fun _ _ N call a h k => f36 N call a h k, fun _ I N call a h k => y36 I N call a h k⟩
noncomputable def e37 : Ent := ⟨37, T.s37, fun _ _ N call a h k => f37 N call a h k, fun _ I N call a h k => y37 I N call a h k⟩
noncomputable def e38 : Ent := ⟨38, T.s38, fun _ _ N call a h k => f38 N call a h k, fun _ I N call a h k => y38 I N call a h k⟩
noncomputable def e39 : Ent := ⟨39, T.s39, fun _ _ N call a h k => f39 N call a h k, fun _ I N call a h k => y39 I N call a h k⟩
noncomputable def e40 : Ent := ⟨40, T.s40, fun _ _ N call a h k => f40 N call a h k, fun _ I N call a h k => y40 I N call a h k⟩
noncomputable def e41 : Ent := ⟨41, T.s41, fun _ _ N call a h k => f41 N call a h k, fun _ I N call a h k => y41 I N call a h k⟩
noncomputable def e46 : Ent := ⟨46, T.s46, fun _ _ N call a h k => f46 N call a h k, fun _ I N call a h k => y46 I N call a h k⟩
noncomputable def e47 : Ent := ⟨47, T.s47, fun _ _ N call a h k => f47 N call a h k, fun _ I N call a h k => y47 I N call a h k⟩
noncomputable def e48 : Ent := ⟨48, T.s48, fun _ _ N call a h k => f48 N call a h k, fun _ I N call a h k => y48 I N call a h k⟩
structure GA (t : ETree) : Prop where
  g10 : t.get 10 = some e10
  g11 : t.get 11 = some e11
  g12 : t.get 12 = some e12
  g13 : t.get 13 = some e13
  g14 : t.get 14 = some e14
  g15 : t.get 15 = some e15
  g16 : t.get 16 = some e16
  g17 : t.get 17 = some e17
  g18 : t.get 18 = some e18
  g19 : t.get 19 = some e19
  g20 : t.get 20 = some e20
  g22 : t.get 22 = some e22
  g23 : t.get 23 = some e23
  g24 : t.get 24 = some e24
  g25 : t.get 25 = some e25
  g26 : t.get 26 = some e26
  g27 : t.get 27 = some e27
  g28 : t.get 28 = some e28
  g30 : t.get 30 = some e30
  g31 : t.get 31 = some e31
  g32 : t.get 32 = some e32
  g33 : t.get 33 = some e33
  g34 : t.get 34 = some e34
  g35 : t.get 35 = some e35
  g36 : t.get 36 = some e36
  g37 : t.get 37 = some e37
  g38 : t.get 38 = some e38
  g39 : t.get 39 = some e39
  g40 : t.get 40 = some e40
  g41 : t.get 41 = some e41
  g46 : t.get 46 = some e46
  g47 : t.get 47 = some e47
  g48 : t.get 48 = some e48
section
variable {β : Type} {t : ETree} {I : FI}
end
end Am.F
end
