/- Functions of the program, as the abstract machine has them. -/
import Derived.Test.YtnhappodbogoaaaGreatDoorAmJc
namespace Am.T
open Go
/- sleuth/sleuthref1.Parse -/
def s148 : SFn := .src 89 [0, 2, 3, 4, 5, 6, 7, 8, 9, 10, 13, 14] [.cellN 1 1, .tmp 2] <|
 .seq (.reg [
  .set 1 (.op (some 2) (.alloc 0 [.nils]) []),
  .set 2 (.op (some 3) .mov [(.k (.int .i64 0))])]) <|
 .seq (.reg [
  .set 9 (.op (some 10) .mov [(.op (some 12) (.call 175) [(.v 0 (some 11))])]),
  .set 10 (.op (some 13) (.ext 0) [(.v 9 none)]),
  .set 11 (.op (some 14) (.ext 1) [(.v 9 none)]),
  .set 3 (.op (some 4) .mov [(.v 10 none)]),
  .set 4 (.op (some 5) .mov [(.v 11 none)])]) <|
 .seq (.ifr [] (.op (some 16) (.binI .neq) [(.v 4 (some 15)), (.k (.int .i64 0))])
  (.seq (.reg [
   .ef (.op none (.store 1) [(.v 1 none), (.op (some 17) (.build [.nils] []) [])]),
   .set 2 (.op (some 3) .mov [(.k (.int .i64 700))])]) <|
  .ret)
  (.skip)) <|
 .seq (.reg [
  .set 5 (.op (some 6) .mov [(.op (some 20) (.box 0) [(.op (some 19) (.build [.nils, (.bool false), .nils] [(0, 1)]) [(.v 3 (some 18))])])])]) <|
 .seq (.reg [
  .set 6 (.op (some 7) (.alloc 0 [.nils]) [])]) <|
 .seq (.block 0 <|
  .loop [1, 5, 6] <|
   .seq (.ifr [] (.and 34 39 (.and 27 33 (.op (some 26) (.binI .gtr) [(.op (some 25) .lenL [(.op (some 24) .load1 [(.op (some 23) (.fadr 0) [(.op (some 22) .nilCheck [(.v 5 (some 21))])])])]), (.k (.int .i64 0))]) (.op (some 32) .notB [(.op (some 31) .load1 [(.op (some 30) (.fadr 1) [(.op (some 29) .nilCheck [(.v 5 (some 28))])])])])) (.op (some 38) (.binI .leq) [(.op (some 37) .lenL [(.op (some 36) .load1 [(.op (some 35) (.fadr 0) [(.v 6 none)])])]), (.k (.int .i64 8))]))
    (.skip)
    (.exit 0)) <|
   .block 1 <|
    .seq (.reg [
     .ef (.op none (.store 1) [(.op (some 42) (.fadr 2) [(.op (some 41) .nilCheck [(.v 5 (some 40))])]), (.k .nils)])]) <|
    .seq (.reg [
     .set 7 (.op (some 8) .mov [(.and 46 50 (.op (some 45) (.binS .eql) [(.op (some 44) (.call 176) [(.v 5 (some 43))]), (.k (.str [40]))]) (.op (some 49) (.binS .eql) [(.op (some 48) (.call 176) [(.v 5 (some 47))]), (.k (.str [100, 101, 102]))]))])]) <|
    .seq (.reg [
     .set 8 (.op (some 9) .mov [(.op (some 54) (.call 177) [(.v 5 (some 51)), (.op (some 53) (.call 176) [(.v 5 (some 52))]), (.k (.int .i64 3))])])]) <|
    .seq (.reg [
     .ef (.op (some 56) (.call 178) [(.v 5 (some 55))])]) <|
    .seq (.ifr [] (.or 59 63 (.op (some 58) .notB [(.v 7 (some 57))]) (.op (some 62) (.binS .neq) [(.op (some 61) (.call 176) [(.v 5 (some 60))]), (.k (.str [41]))]))
     (.reg [
      .ef (.op none (.store 1) [(.op (some 66) (.fadr 1) [(.op (some 65) .nilCheck [(.v 5 (some 64))])]), (.k (.bool true))])])
     (.skip)) <|
    .dreg [67, 68, 69, 70, 71, 72, 73, 74, 75, 76, 77] [
     ⟨(some 12), .fadr 0, [.t 6], none⟩,
     ⟨(some 13), .load1, [.t 12], none⟩,
     ⟨(some 14), .mov, [.t 8], none⟩,
     ⟨(some 15), .mov, [.t 5], none⟩,
     ⟨(some 16), .nilCheck, [.t 15], none⟩,
     ⟨(some 17), .fadr 2, [.t 16], none⟩,
     ⟨(some 18), .load1, [.t 17], none⟩,
     ⟨(some 19), .build [(.int .i64 0), .nils] [(0, 1), (1, 1)], [.t 14, .t 18], none⟩,
     ⟨(some 20), .bslice 0 [(.int .i64 0), .nils] 1 [(0, 2)], [.t 19], none⟩,
     ⟨(some 21), .app 0 2 32, [.t 13, .t 20], none⟩,
     ⟨(some 22), .fadr 0, [.t 6], none⟩,
     ⟨none, .store 1, [.t 22, .t 21], none⟩]
     [.op 0, .op 1, .op 2, .op 3, .op 4, .op 5, .op 6, .op 7, .op 8, .chk 1, .op 9, .op 10, .op 11]) <|
 .seq (.ifr [] (.or 82 86 (.op (some 81) .load1 [(.op (some 80) (.fadr 1) [(.op (some 79) .nilCheck [(.v 5 (some 78))])])]) (.op (some 85) .notB [(.op (some 84) (.call 149) [(.op (some 83) (.loadN 1) [(.v 6 none)])])]))
  (.seq (.reg [
   .ef (.op none (.store 1) [(.v 1 none), (.op (some 87) (.build [.nils] []) [])]),
   .set 2 (.op (some 3) .mov [(.k (.int .i64 700))])]) <|
  .ret)
  (.skip)) <|
 .seq (.reg [
  .ef (.op none (.store 1) [(.v 1 none), (.op (some 88) (.loadN 1) [(.v 6 none)])]),
  .set 2 (.op (some 3) .mov [(.k (.int .i64 0))])]) <|
 .ret
/- sleuth/sleuthref1.Words -/
def s175 : SFn := .src 113 [0, 2, 3, 4, 5, 6, 7, 8, 9] [.tmp 1, .tmp 2] <|
 .seq (.reg [
  .set 1 (.op (some 2) .mov [(.k .nils)]),
  .set 2 (.op (some 3) .mov [(.k (.int .i64 0))])]) <|
 .seq (.ifr [] (.op (some 12) (.binI .gtr) [(.op (some 11) .lenS [(.v 0 (some 10))]), (.k (.int .i64 2048))])
  (.seq (.reg [
   .set 1 (.op (some 2) .mov [(.k .nils)]),
   .set 2 (.op (some 3) .mov [(.k (.int .i64 400))])]) <|
  .ret)
  (.skip)) <|
 .seq (.seq (.reg [
  .set 3 (.op (some 4) .mov [(.k (.int .i64 0))])]) <|
 .block 0 <|
  .loop [0, 3] <|
   .seq (.ifr [] (.op (some 16) (.binI .lss) [(.v 3 (some 13)), (.op (some 15) .lenS [(.v 0 (some 14))])])
    (.skip)
    (.exit 0)) <|
   .seq (.block 1 <|
    .ifr [] (.and 23 34 (.op (some 22) (.binI .neq) [(.op (some 21) .idxS [(.v 0 (some 19)), (.v 3 (some 20))]), (.k (.int .u8 10))]) (.or 28 33 (.op (some 27) (.binI .lss) [(.op (some 26) .idxS [(.v 0 (some 24)), (.v 3 (some 25))]), (.k (.int .u8 32))]) (.op (some 32) (.binI .gtr) [(.op (some 31) .idxS [(.v 0 (some 29)), (.v 3 (some 30))]), (.k (.int .u8 126))])))
     (.seq (.reg [
      .set 1 (.op (some 2) .mov [(.k .nils)]),
      .set 2 (.op (some 3) .mov [(.k (.int .i64 400))])]) <|
     .ret)
     (.skip)) <|
   .reg [
    .set 3 (.op (some 4) .mov [(.op (some 18) (.binI .add) [(.v 3 (some 17)), (.k (.int .i64 1))])])]) <|
 .seq (.reg [
  .set 4 (.op (some 5) .mov [(.k .nils)])]) <|
 .seq (.reg [
  .set 5 (.op (some 6) .mov [(.k (.str []))])]) <|
 .seq (.seq (.reg [
  .set 6 (.op (some 7) .mov [(.k (.int .i64 0))])]) <|
 .block 2 <|
  .loop [0, 4, 5, 6] <|
   .seq (.ifr [] (.op (some 38) (.binI .leq) [(.v 6 (some 35)), (.op (some 37) .lenS [(.v 0 (some 36))])])
    (.skip)
    (.exit 2)) <|
   .seq (.block 3 <|
    .seq (.reg [
     .set 7 (.op (some 8) .mov [(.k (.int .u8 10))])]) <|
    .seq (.ifr [] (.op (some 44) (.binI .lss) [(.v 6 (some 41)), (.op (some 43) .lenS [(.v 0 (some 42))])])
     (.reg [
      .set 7 (.op (some 8) .mov [(.op (some 47) .idxS [(.v 0 (some 45)), (.v 6 (some 46))])])])
     (.skip)) <|
    .seq (.reg [
     .set 8 (.op (some 9) .mov [(.and 62 65 (.and 58 61 (.and 54 57 (.and 50 53 (.op (some 49) (.binI .neq) [(.v 7 (some 48)), (.k (.int .u8 10))]) (.op (some 52) (.binI .neq) [(.v 7 (some 51)), (.k (.int .u8 32))])) (.op (some 56) (.binI .neq) [(.v 7 (some 55)), (.k (.int .u8 40))])) (.op (some 60) (.binI .neq) [(.v 7 (some 59)), (.k (.int .u8 41))])) (.op (some 64) (.binI .neq) [(.v 7 (some 63)), (.k (.int .u8 35))]))])]) <|
    .seq (.ifr [] (.v 8 (some 66))
     (.seq (.reg [
      .set 5 (.op (some 6) .mov [(.op (some 73) (.binS .add) [(.v 5 (some 67)), (.op (some 72) (.slS true true) [(.v 0 (some 68)), (.v 6 (some 69)), (.op (some 71) (.binI .add) [(.v 6 (some 70)), (.k (.int .i64 1))])])])])]) <|
     .exit 3)
     (.skip)) <|
    .seq (.ifr [] (.op (some 75) (.binS .neq) [(.v 5 (some 74)), (.k (.str []))])
     (.seq (.reg [
      .set 4 (.op (some 5) .mov [(.op (some 79) (.app 0 1 16) [(.v 4 (some 76)), (.op (some 78) (.bslice 0 [(.str [])] 1 [(0, 1)]) [(.v 5 (some 77))])])])]) <|
     .reg [
      .set 5 (.op (some 6) .mov [(.k (.str []))])])
     (.skip)) <|
    .seq (.ifr [] (.or 82 85 (.op (some 81) (.binI .eql) [(.v 7 (some 80)), (.k (.int .u8 40))]) (.op (some 84) (.binI .eql) [(.v 7 (some 83)), (.k (.int .u8 41))]))
     (.reg [
      .set 4 (.op (some 5) .mov [(.op (some 93) (.app 0 1 16) [(.v 4 (some 86)), (.op (some 92) (.bslice 0 [(.str [])] 1 [(0, 1)]) [(.op (some 91) (.slS true true) [(.v 0 (some 87)), (.v 6 (some 88)), (.op (some 90) (.binI .add) [(.v 6 (some 89)), (.k (.int .i64 1))])])])])])])
     (.skip)) <|
    .block 4 <|
     .loop [0, 4, 5, 6, 7] <|
      .seq (.ifr [] (.and 103 109 (.and 96 102 (.op (some 95) (.binI .eql) [(.v 7 (some 94)), (.k (.int .u8 35))]) (.op (some 101) (.binI .lss) [(.op (some 98) (.binI .add) [(.v 6 (some 97)), (.k (.int .i64 1))]), (.op (some 100) .lenS [(.v 0 (some 99))])])) (.op (some 108) (.binI .neq) [(.op (some 107) .idxS [(.v 0 (some 104)), (.op (some 106) (.binI .add) [(.v 6 (some 105)), (.k (.int .i64 1))])]), (.k (.int .u8 10))]))
       (.skip)
       (.exit 4)) <|
      .block 5 <|
       .reg [
        .set 6 (.op (some 7) .mov [(.op (some 111) (.binI .add) [(.v 6 (some 110)), (.k (.int .i64 1))])])]) <|
   .reg [
    .set 6 (.op (some 7) .mov [(.op (some 40) (.binI .add) [(.v 6 (some 39)), (.k (.int .i64 1))])])]) <|
 .seq (.reg [
  .set 1 (.op (some 2) .mov [(.v 4 (some 112))]),
  .set 2 (.op (some 3) .mov [(.k (.int .i64 0))])]) <|
 .ret
/- (*sleuth/sleuthref1.reader).word -/
def s176 : SFn := .src 28 [0, 2, 3, 19] [.tmp 1] <|
 .seq (.reg [
  .set 1 (.op (some 2) .mov [(.k (.str []))])]) <|
 .seq (.ifr [] (.op (some 9) (.binI .eql) [(.op (some 8) .lenL [(.op (some 7) .load1 [(.op (some 6) (.fadr 0) [(.op (some 5) .nilCheck [(.v 0 (some 4))])])])]), (.k (.int .i64 0))])
  (.seq (.reg [
   .ef (.op none (.store 1) [(.op (some 12) (.fadr 1) [(.op (some 11) .nilCheck [(.v 0 (some 10))])]), (.k (.bool true))])]) <|
  .seq (.reg [
   .set 1 (.op (some 2) .mov [(.k (.str []))])]) <|
  .ret)
  (.skip)) <|
 .seq (.reg [
  .set 2 (.op (some 3) .mov [(.op (some 18) .load1 [(.op (some 17) (.iadr 1) [(.op (some 16) .load1 [(.op (some 15) (.fadr 0) [(.op (some 14) .nilCheck [(.v 0 (some 13))])])]), (.k (.int .i64 0))])])])]) <|
 .seq (.reg [
  .set 3 (.op (some 19) .mov [(.v 0 none)]),
  .ef (.opr none (.store 1) (.op (some 26) (.fadr 0) [(.op (some 25) .nilCheck [(.v 3 none)])]) (.op (some 24) (.slL 1 true false false) [(.op (some 23) .load1 [(.op (some 22) (.fadr 0) [(.op (some 21) .nilCheck [(.v 0 (some 20))])])]), (.k (.int .i64 1))]))]) <|
 .seq (.reg [
  .set 1 (.op (some 2) .mov [(.v 2 (some 27))])]) <|
 .ret
/- (*sleuth/sleuthref1.reader).whole -/
def s177 : SFn := .src 31 [0, 1, 2, 6, 7, 8, 9, 12, 13] [.tmp 3] <|
 .seq (.reg [
  .set 3 (.op (some 6) .mov [(.k (.int .i64 0))])]) <|
 .seq (.reg [
  .set 6 (.op (some 9) .mov [(.op (some 11) (.call 39) [(.v 1 (some 10))])]),
  .set 7 (.op (some 12) (.ext 0) [(.v 6 none)]),
  .set 8 (.op (some 13) (.ext 1) [(.v 6 none)]),
  .set 4 (.op (some 7) .mov [(.v 7 none)]),
  .set 5 (.op (some 8) .mov [(.v 8 none)])]) <|
 .seq (.ifr [] (.or 22 26 (.or 16 21 (.op (some 15) (.binI .eql) [(.v 5 (some 14)), (.k (.int .i64 0))]) (.op (some 20) (.binI .neq) [(.v 5 (some 17)), (.op (some 19) .lenS [(.v 1 (some 18))])])) (.op (some 25) (.binI .gtr) [(.v 4 (some 23)), (.v 2 (some 24))]))
  (.seq (.reg [
   .ef (.op none (.store 1) [(.op (some 29) (.fadr 1) [(.op (some 28) .nilCheck [(.v 0 (some 27))])]), (.k (.bool true))])]) <|
  .seq (.reg [
   .set 3 (.op (some 6) .mov [(.k (.int .i64 0))])]) <|
  .ret)
  (.skip)) <|
 .seq (.reg [
  .set 3 (.op (some 6) .mov [(.v 4 (some 30))])]) <|
 .ret
/- (*sleuth/sleuthref1.reader).expr -/
def s178 : SFn := .src 80 [0, 2, 3, 4, 5, 7, 60, 63, 64, 65, 66] [.tmp 1] <|
 .seq (.reg [
  .set 1 (.op (some 2) .mov [(.k (.int .i64 0))])]) <|
 .seq (.reg [
  .set 2 (.op (some 3) .mov [(.op (some 9) (.call 176) [(.v 0 (some 8))])])]) <|
 .seq (.ifr [] (.or 18 25 (.or 14 17 (.op (some 13) .load1 [(.op (some 12) (.fadr 1) [(.op (some 11) .nilCheck [(.v 0 (some 10))])])]) (.op (some 16) (.binS .eql) [(.v 2 (some 15)), (.k (.str []))])) (.op (some 24) (.binI .gtr) [(.op (some 23) .lenL [(.op (some 22) .load1 [(.op (some 21) (.fadr 2) [(.op (some 20) .nilCheck [(.v 0 (some 19))])])])]), (.k (.int .i64 24))]))
  (.seq (.reg [
   .ef (.op none (.store 1) [(.op (some 28) (.fadr 1) [(.op (some 27) .nilCheck [(.v 0 (some 26))])]), (.k (.bool true))])]) <|
  .seq (.reg [
   .set 1 (.op (some 2) .mov [(.k (.int .i64 0))])]) <|
  .ret)
  (.skip)) <|
 .seq (.block 0 <|
  .ifr [] (.op (some 29) .mov [(.op (some 31) (.binS .eql) [(.v 2 (some 30)), (.k (.str [40]))])])
   (.seq (.reg [
    .set 1 (.op (some 2) .mov [(.op (some 33) (.call 199) [(.v 0 (some 32))])])]) <|
   .ret)
   (.ifr [] (.op (some 34) .mov [(.op (some 36) (.binS .eql) [(.v 2 (some 35)), (.k (.str [101, 114, 114, 111, 114]))])])
    (.seq (.reg [
     .set 1 (.op (some 2) .mov [(.op (some 39) (.call 200) [(.v 0 (some 37)), (.op (some 38) (.build [(.int .i64 0), (.int .i64 0), (.int .i64 0), .nils] [(0, 1)]) [(.k (.int .i64 7))])])])]) <|
    .ret)
    (.ifr [] (.op (some 40) .mov [(.op (some 43) (.binI .eql) [(.op (some 42) .idxS [(.v 2 (some 41)), (.k (.int .i64 0))]), (.k (.int .u8 36))])])
     (.seq (.reg [
      .set 1 (.op (some 2) .mov [(.op (some 49) (.call 200) [(.v 0 (some 44)), (.op (some 48) (.build [(.int .i64 0), (.int .i64 0), (.int .i64 0), .nils] [(0, 1), (1, 1)]) [(.k (.int .i64 1)), (.op (some 47) (.call 201) [(.v 0 (some 45)), (.v 2 (some 46)), (.k (.int .u8 36)), (.k (.int .i64 8))])])])])]) <|
     .ret)
     (.ifr [] (.op (some 50) .mov [(.op (some 53) (.binI .eql) [(.op (some 52) .idxS [(.v 2 (some 51)), (.k (.int .i64 0))]), (.k (.int .u8 64))])])
      (.seq (.reg [
       .set 1 (.op (some 2) .mov [(.op (some 59) (.call 200) [(.v 0 (some 54)), (.op (some 58) (.build [(.int .i64 0), (.int .i64 0), (.int .i64 0), .nils] [(0, 1), (1, 1)]) [(.k (.int .i64 3)), (.op (some 57) (.call 201) [(.v 0 (some 55)), (.v 2 (some 56)), (.k (.int .u8 64)), (.k (.int .i64 99))])])])])]) <|
      .ret)
      (.skip))))) <|
 .seq (.reg [
  .set 6 (.op (some 60) .mov [(.op (some 62) (.call 12) [(.v 2 (some 61))])]),
  .set 7 (.op (some 63) (.ext 0) [(.v 6 none)]),
  .set 8 (.op (some 64) (.ext 1) [(.v 6 none)]),
  .set 9 (.op (some 65) (.ext 2) [(.v 6 none)]),
  .set 10 (.op (some 66) (.ext 3) [(.v 6 none)]),
  .set 3 (.op (some 4) .mov [(.v 7 none)]),
  .set 4 (.op (some 5) .mov [(.v 8 none)]),
  .ef (.v 9 (some 6)),
  .set 5 (.op (some 7) .mov [(.v 10 none)])]) <|
 .seq (.ifr [] (.or 69 72 (.op (some 68) (.binI .neq) [(.v 5 (some 67)), (.k (.int .i64 0))]) (.op (some 71) (.binI .neq) [(.v 3 (some 70)), (.k (.int .i64 1))]))
  (.seq (.reg [
   .ef (.op none (.store 1) [(.op (some 75) (.fadr 1) [(.op (some 74) .nilCheck [(.v 0 (some 73))])]), (.k (.bool true))])]) <|
  .seq (.reg [
   .set 1 (.op (some 2) .mov [(.k (.int .i64 0))])]) <|
  .ret)
  (.skip)) <|
 .seq (.reg [
  .set 1 (.op (some 2) .mov [(.op (some 79) (.call 200) [(.v 0 (some 76)), (.op (some 78) (.build [(.int .i64 0), (.int .i64 0), (.int .i64 0), .nils] [(1, 1)]) [(.v 4 (some 77))])])])]) <|
 .ret
/- (*sleuth/sleuthref1.reader).open -/
def s199 : SFn := .src 116 [0, 2, 3, 4, 5, 6, 7, 8, 9, 10, 11, 12, 13, 96] [.tmp 1] <|
 .seq (.reg [
  .set 1 (.op (some 2) .mov [(.k (.int .i64 0))])]) <|
 .seq (.reg [
  .set 2 (.op (some 3) .mov [(.op (some 15) (.call 176) [(.v 0 (some 14))])])]) <|
 .seq (.ifr [] (.or 20 23 (.op (some 19) .load1 [(.op (some 18) (.fadr 1) [(.op (some 17) .nilCheck [(.v 0 (some 16))])])]) (.op (some 22) (.binS .eql) [(.v 2 (some 21)), (.k (.str []))]))
  (.seq (.reg [
   .ef (.op none (.store 1) [(.op (some 26) (.fadr 1) [(.op (some 25) .nilCheck [(.v 0 (some 24))])]), (.k (.bool true))])]) <|
  .seq (.reg [
   .set 1 (.op (some 2) .mov [(.k (.int .i64 0))])]) <|
  .ret)
  (.skip)) <|
 .seq (.block 0 <|
  .ifr [] (.op (some 27) .mov [(.op (some 30) (.binI .geq) [(.op (some 29) (.call 224) [(.v 2 (some 28))]), (.k (.int .i64 0))])])
   (.seq (.reg [
    .set 3 (.op (some 4) .mov [(.op (some 32) (.call 225) [(.v 0 (some 31)), (.k (.int .i64 2))])])]) <|
   .seq (.reg [
    .set 1 (.op (some 2) .mov [(.op (some 38) (.call 200) [(.v 0 (some 33)), (.op (some 37) (.build [(.int .i64 0), (.int .i64 0), (.int .i64 0), .nils] [(0, 1), (1, 1), (3, 1)]) [(.k (.int .i64 4)), (.op (some 35) (.call 224) [(.v 2 (some 34))]), (.v 3 (some 36))])])])]) <|
   .ret)
   (.ifr [] (.op (some 39) .mov [(.op (some 41) (.binS .eql) [(.v 2 (some 40)), (.k (.str [99, 97, 115, 101]))])])
    (.seq (.reg [
     .set 4 (.op (some 5) .mov [(.op (some 43) (.call 178) [(.v 0 (some 42))])])]) <|
    .seq (.reg [
     .set 5 (.op (some 6) .mov [(.op (some 47) (.call 201) [(.v 0 (some 44)), (.op (some 46) (.call 176) [(.v 0 (some 45))]), (.k (.int .u8 64)), (.k (.int .i64 99))])])]) <|
    .seq (.reg [
     .set 6 (.op (some 7) .mov [(.op (some 51) (.call 177) [(.v 0 (some 48)), (.op (some 50) (.call 176) [(.v 0 (some 49))]), (.k (.int .i64 3))])])]) <|
    .seq (.reg [
     .set 7 (.op (some 8) .mov [(.op (some 53) (.bslice 0 [(.int .i64 0)] 1 [(0, 1)]) [(.v 4 (some 52))])])]) <|
    .seq (.reg [
     .set 7 (.op (some 8) .mov [(.op (some 57) (.app 0 1 8) [(.v 7 (some 54)), (.op (some 56) (.call 225) [(.v 0 (some 55)), (.k (.int .i64 2))])])])]) <|
    .seq (.reg [
     .set 1 (.op (some 2) .mov [(.op (some 63) (.call 200) [(.v 0 (some 58)), (.op (some 62) (.build [(.int .i64 0), (.int .i64 0), (.int .i64 0), .nils] [(0, 1), (1, 1), (2, 1), (3, 1)]) [(.k (.int .i64 5)), (.v 5 (some 59)), (.v 6 (some 60)), (.v 7 (some 61))])])])]) <|
    .ret)
    (.ifr [] (.op (some 64) .mov [(.op (some 66) (.binS .eql) [(.v 2 (some 65)), (.k (.str [108, 101, 116]))])])
     (.seq (.reg [
      .set 8 (.op (some 9) .mov [(.op (some 68) (.call 225) [(.v 0 (some 67)), (.k (.int .i64 2))])])]) <|
     .seq (.reg [
      .set 1 (.op (some 2) .mov [(.op (some 72) (.call 200) [(.v 0 (some 69)), (.op (some 71) (.build [(.int .i64 0), (.int .i64 0), (.int .i64 0), .nils] [(0, 1), (3, 1)]) [(.k (.int .i64 6)), (.v 8 (some 70))])])])]) <|
     .ret)
     (.ifr [] (.op (some 73) .mov [(.op (some 76) (.binI .eql) [(.op (some 75) .idxS [(.v 2 (some 74)), (.k (.int .i64 0))]), (.k (.int .u8 102))])])
      (.seq (.reg [
       .set 9 (.op (some 10) .mov [(.op (some 79) (.call 201) [(.v 0 (some 77)), (.v 2 (some 78)), (.k (.int .u8 102)), (.k (.int .i64 7))])])]) <|
      .seq (.reg [
       .set 10 (.op (some 11) .mov [(.op (some 81) (.call 225) [(.v 0 (some 80)), (.k (.int .i64 3))])])]) <|
      .seq (.reg [
       .set 1 (.op (some 2) .mov [(.op (some 86) (.call 200) [(.v 0 (some 82)), (.op (some 85) (.build [(.int .i64 0), (.int .i64 0), (.int .i64 0), .nils] [(0, 1), (1, 1), (3, 1)]) [(.k (.int .i64 2)), (.v 9 (some 83)), (.v 10 (some 84))])])])]) <|
      .ret)
      (.ifr [] (.op (some 87) .mov [(.op (some 90) (.binI .eql) [(.op (some 89) .idxS [(.v 2 (some 88)), (.k (.int .i64 0))]), (.k (.int .u8 64))])])
       (.seq (.reg [
        .set 11 (.op (some 12) .mov [(.op (some 93) (.call 201) [(.v 0 (some 91)), (.v 2 (some 92)), (.k (.int .u8 64)), (.k (.int .i64 99))])])]) <|
       .seq (.reg [
        .set 12 (.op (some 13) .mov [(.op (some 95) (.call 225) [(.v 0 (some 94)), (.k (.int .i64 3))])])]) <|
       .seq (.reg [
        .set 13 (.op (some 96) .mov [(.v 0 none)]),
        .ef (.opr none (.store 1) (.op (some 107) (.fadr 1) [(.op (some 106) .nilCheck [(.v 13 none)])]) (.or 101 105 (.op (some 100) .load1 [(.op (some 99) (.fadr 1) [(.op (some 98) .nilCheck [(.v 0 (some 97))])])]) (.op (some 104) (.binI .eql) [(.op (some 103) .lenL [(.v 12 (some 102))]), (.k (.int .i64 0))])))]) <|
       .seq (.reg [
        .set 1 (.op (some 2) .mov [(.op (some 112) (.call 200) [(.v 0 (some 108)), (.op (some 111) (.build [(.int .i64 0), (.int .i64 0), (.int .i64 0), .nils] [(0, 1), (1, 1), (3, 1)]) [(.k (.int .i64 3)), (.v 11 (some 109)), (.v 12 (some 110))])])])]) <|
       .ret)
       (.skip)))))) <|
 .seq (.reg [
  .ef (.op none (.store 1) [(.op (some 115) (.fadr 1) [(.op (some 114) .nilCheck [(.v 0 (some 113))])]), (.k (.bool true))])]) <|
 .seq (.reg [
  .set 1 (.op (some 2) .mov [(.k (.int .i64 0))])]) <|
 .ret
/- (*sleuth/sleuthref1.reader).part -/
def s200 : SFn := .src 21 [0, 1, 3, 4] [.tmp 3] <|
 .seq (.reg [
  .set 2 (.op (some 3) (.box 0) [(.v 1 none)]),
  .set 3 (.op (some 4) .mov [(.k (.int .i64 0))])]) <|
 .seq (.dreg [5, 6, 7, 8, 9, 10, 11, 12, 13, 14] [
  ⟨(some 4), .mov, [.t 0], none⟩,
  ⟨(some 5), .mov, [.t 0], none⟩,
  ⟨(some 6), .nilCheck, [.t 5], none⟩,
  ⟨(some 7), .fadr 2, [.t 6], none⟩,
  ⟨(some 8), .load1, [.t 7], none⟩,
  ⟨(some 9), .loadN 4, [.t 2], none⟩,
  ⟨(some 10), .bslice 0 [(.int .i64 0), (.int .i64 0), (.int .i64 0), .nils] 1 [(0, 4)], [.t 9], none⟩,
  ⟨(some 11), .app 0 4 48, [.t 8, .t 10], none⟩,
  ⟨(some 12), .nilCheck, [.t 4], none⟩,
  ⟨(some 13), .fadr 2, [.t 12], none⟩,
  ⟨none, .store 1, [.t 13, .t 11], none⟩]
  [.op 0, .op 1, .op 2, .op 3, .op 4, .op 5, .op 6, .chk 4, .op 7, .op 8, .op 9, .op 10]) <|
 .seq (.reg [
  .set 3 (.op (some 4) .mov [(.op (some 20) (.binI .sub) [(.op (some 19) .lenL [(.op (some 18) .load1 [(.op (some 17) (.fadr 2) [(.op (some 16) .nilCheck [(.v 0 (some 15))])])])]), (.k (.int .i64 1))])])]) <|
 .ret
/- (*sleuth/sleuthref1.reader).after -/
def s201 : SFn := .src 25 [0, 1, 2, 3, 8] [.tmp 4] <|
 .seq (.reg [
  .set 4 (.op (some 8) .mov [(.k (.int .i64 0))])]) <|
 .seq (.ifr [] (.or 11 16 (.op (some 10) (.binS .eql) [(.v 1 (some 9)), (.k (.str []))]) (.op (some 15) (.binI .neq) [(.op (some 13) .idxS [(.v 1 (some 12)), (.k (.int .i64 0))]), (.v 2 (some 14))]))
  (.seq (.reg [
   .ef (.op none (.store 1) [(.op (some 19) (.fadr 1) [(.op (some 18) .nilCheck [(.v 0 (some 17))])]), (.k (.bool true))])]) <|
  .seq (.reg [
   .set 4 (.op (some 8) .mov [(.k (.int .i64 0))])]) <|
  .ret)
  (.skip)) <|
 .seq (.reg [
  .set 4 (.op (some 8) .mov [(.op (some 24) (.call 177) [(.v 0 (some 20)), (.op (some 22) (.slS true false) [(.v 1 (some 21)), (.k (.int .i64 1))]), (.v 3 (some 23))])])]) <|
 .ret
/- sleuth/sleuthref1.op -/
def s224 : SFn := .src 19 [0, 2, 3, 4] [.tmp 1] <|
 .seq (.reg [
  .set 1 (.op (some 2) .mov [(.k (.int .i64 0))])]) <|
 .seq (.reg [
  .set 2 (.op (some 3) .mov [(.op (some 5) (.bslice 0 [(.str []), (.str []), (.str []), (.str []), (.str [])] 5 [(0, 1), (1, 1), (2, 1), (3, 1), (4, 1)]) [(.k (.str [43])), (.k (.str [45])), (.k (.str [42])), (.k (.str [61])), (.k (.str [60]))])])]) <|
 .seq (.seq (.reg [
  .set 3 (.op (some 4) .mov [(.k (.int .i64 0))])]) <|
 .block 0 <|
  .loop [0, 2, 3] <|
   .seq (.ifr [] (.op (some 9) (.binI .lss) [(.v 3 (some 6)), (.op (some 8) .lenL [(.v 2 (some 7))])])
    (.skip)
    (.exit 0)) <|
   .seq (.block 1 <|
    .ifr [] (.op (some 17) (.binS .eql) [(.op (some 15) .load1 [(.op (some 14) (.iadr 1) [(.v 2 (some 12)), (.v 3 (some 13))])]), (.v 0 (some 16))])
     (.seq (.reg [
      .set 1 (.op (some 2) .mov [(.v 3 (some 18))])]) <|
     .ret)
     (.skip)) <|
   .reg [
    .set 3 (.op (some 4) .mov [(.op (some 11) (.binI .add) [(.v 3 (some 10)), (.k (.int .i64 1))])])]) <|
 .seq (.reg [
  .set 1 (.op (some 2) .mov [(.k (.int .i64 (-1)))])]) <|
 .ret
/- (*sleuth/sleuthref1.reader).kids -/
def s225 : SFn := .src 50 [0, 1, 4, 5, 6] [.tmp 2] <|
 .seq (.reg [
  .set 2 (.op (some 4) .mov [(.k .nils)])]) <|
 .seq (.reg [
  .set 3 (.op (some 5) .mov [(.k .nils)])]) <|
 .seq (.block 0 <|
  .loop [0, 1, 3] <|
   .seq (.ifr [] (.and 20 28 (.and 12 19 (.op (some 11) .notB [(.op (some 10) .load1 [(.op (some 9) (.fadr 1) [(.op (some 8) .nilCheck [(.v 0 (some 7))])])])]) (.op (some 18) (.binI .gtr) [(.op (some 17) .lenL [(.op (some 16) .load1 [(.op (some 15) (.fadr 0) [(.op (some 14) .nilCheck [(.v 0 (some 13))])])])]), (.k (.int .i64 0))])) (.op (some 27) (.binS .neq) [(.op (some 26) .load1 [(.op (some 25) (.iadr 1) [(.op (some 24) .load1 [(.op (some 23) (.fadr 0) [(.op (some 22) .nilCheck [(.v 0 (some 21))])])]), (.k (.int .i64 0))])]), (.k (.str [41]))]))
    (.skip)
    (.exit 0)) <|
   .block 1 <|
    .seq (.ifr [] (.op (some 32) (.binI .eql) [(.op (some 30) .lenL [(.v 3 (some 29))]), (.v 1 (some 31))])
     (.seq (.reg [
      .ef (.op none (.store 1) [(.op (some 35) (.fadr 1) [(.op (some 34) .nilCheck [(.v 0 (some 33))])]), (.k (.bool true))])]) <|
     .seq (.reg [
      .set 2 (.op (some 4) .mov [(.v 3 (some 36))])]) <|
     .ret)
     (.skip)) <|
    .seq (.reg [
     .set 4 (.op (some 6) .mov [(.op (some 38) (.call 178) [(.v 0 (some 37))])])]) <|
    .reg [
     .set 3 (.op (some 5) .mov [(.op (some 42) (.app 0 1 8) [(.v 3 (some 39)), (.op (some 41) (.bslice 0 [(.int .i64 0)] 1 [(0, 1)]) [(.v 4 (some 40))])])])]) <|
 .seq (.ifr [] (.op (some 45) (.binS .neq) [(.op (some 44) (.call 176) [(.v 0 (some 43))]), (.k (.str [41]))])
  (.reg [
   .ef (.op none (.store 1) [(.op (some 48) (.fadr 1) [(.op (some 47) .nilCheck [(.v 0 (some 46))])]), (.k (.bool true))])])
  (.skip)) <|
 .seq (.reg [
  .set 2 (.op (some 4) .mov [(.v 3 (some 49))])]) <|
 .ret
end Am.T
