/- Functions of the program, as the abstract machine has them. -/
import Derived.Test.YtmddflmckmopiaaDoorAmJc
namespace Am.T
open Go
/- sleuth/sleuthlaw10.small -/
def s151 : SFn := .src 15 [0, 1, 10] [.cellN 0 1] <|
 .seq (.reg [
  .set 0 (.op (some 0) (.alloc 0 [.nils]) [])]) <|
 .seq (.reg [
  .set 2 (.op (some 10) (.build [(.int .i64 0), .nils] [(1, 1)]) [(.op (some 9) (.bslice 0 [(.int .i64 0), (.int .i64 0), (.int .i64 0), .nils, (.int .i64 0), (.int .i64 0), (.int .i64 0), .nils, (.int .i64 0), (.int .i64 0), (.int .i64 0), .nils, (.int .i64 0), (.int .i64 0), (.int .i64 0), .nils, (.int .i64 0), (.int .i64 0), (.int .i64 0), .nils] 5 [(0, 4), (4, 4), (8, 4), (12, 4), (16, 4)]) [(.op (some 2) (.build [(.int .i64 0), (.int .i64 0), (.int .i64 0), .nils] [(0, 1)]) [(.k (.int .i64 7))]), (.op (some 3) (.build [(.int .i64 0), (.int .i64 0), (.int .i64 0), .nils] [(1, 1)]) [(.k (.int .i64 4))]), (.op (some 5) (.build [(.int .i64 0), (.int .i64 0), (.int .i64 0), .nils] [(0, 1), (1, 1), (3, 1)]) [(.k (.int .i64 3)), (.k (.int .i64 7)), (.op (some 4) (.bslice 0 [(.int .i64 0), (.int .i64 0)] 2 [(0, 1), (1, 1)]) [(.k (.int .i64 0)), (.k (.int .i64 1))])]), (.op (some 6) (.build [(.int .i64 0), (.int .i64 0), (.int .i64 0), .nils] [(1, 1)]) [(.k (.int .i64 5))]), (.op (some 8) (.build [(.int .i64 0), (.int .i64 0), (.int .i64 0), .nils] [(0, 1), (1, 1), (3, 1)]) [(.k (.int .i64 2)), (.k (.int .i64 1)), (.op (some 7) (.bslice 0 [(.int .i64 0), (.int .i64 0)] 2 [(0, 1), (1, 1)]) [(.k (.int .i64 2)), (.k (.int .i64 3))])])])]),
  .set 1 (.op (some 1) (.alloc 0 [(.int .i64 0), .nils]) []),
  .ef (.op none (.store 2) [(.v 1 none), (.v 2 none)])]) <|
 .seq (.dreg [11, 12, 13, 14] [
  ⟨(some 3), .loadN 2, [.t 1], none⟩,
  ⟨(some 4), .call 180, [], none⟩,
  ⟨(some 5), .bslice 0 [(.int .i64 0), .nils, (.int .i64 0), .nils] 2 [(0, 2), (2, 2)], [.t 3, .t 4], none⟩,
  ⟨(some 6), .build [.nils] [(0, 1)], [.t 5], none⟩,
  ⟨none, .store 1, [.t 0, .t 6], none⟩]
  [.op 0, .op 1, .chk 0, .op 2, .op 3, .op 4]) <|
 .ret
/- sleuth/holds.Is -/
def s152 : SFn := .src 37 [0, 1, 2, 3, 4, 6, 7, 8, 9, 10, 11, 19, 20, 21, 34, 35, 36] [.tmp 5, .tmp 6] <|
 .seq (.reg [
  .set 3 (.op (some 3) (.box 0) [(.v 0 none)]),
  .set 4 (.op (some 4) (.box 0) [(.v 1 none)]),
  .set 5 (.op (some 6) .mov [(.k (.bool false))]),
  .set 6 (.op (some 7) .mov [(.k (.int .i64 0))])]) <|
 .seq (.reg [
  .set 10 (.op (some 11) .mov [(.op (some 18) (.call 181) [(.op (some 12) (.loadN 1) [(.v 3 none)]), (.op (some 14) .load1 [(.op (some 13) (.fadr 0) [(.v 4 none)])]), (.op (some 16) .load1 [(.op (some 15) (.fadr 2) [(.v 4 none)])]), (.v 2 (some 17))])]),
  .set 11 (.op (some 19) (.ext 0) [(.v 10 none)]),
  .set 12 (.op (some 20) (.ext 1) [(.v 10 none)]),
  .set 13 (.op (some 21) (.ext 2) [(.v 10 none)]),
  .set 8 (.op (some 9) (.alloc 0 [(.str []), .nils, (.int .i64 0), .nils]) []),
  .set 7 (.op (some 8) .mov [(.v 11 none)]),
  .ef (.op none (.store 4) [(.v 8 none), (.v 12 none)]),
  .set 9 (.op (some 10) .mov [(.v 13 none)])]) <|
 .seq (.ifr [] (.or 24 29 (.op (some 23) .notB [(.v 9 (some 22))]) (.op (some 28) .notB [(.op (some 27) (.call 17) [(.op (some 26) .load1 [(.op (some 25) (.fadr 3) [(.v 4 none)])])])]))
  (.seq (.reg [
   .set 5 (.op (some 6) .mov [(.k (.bool false))]),
   .set 6 (.op (some 7) .mov [(.k (.int .i64 1000))])]) <|
  .ret)
  (.skip)) <|
 .seq (.reg [
  .set 14 (.op (some 34) (.call 182) [(.v 7 (some 30)), (.op (some 32) .load1 [(.op (some 31) (.fadr 3) [(.v 4 none)])]), (.op (some 33) (.loadN 4) [(.v 8 none)])]),
  .set 15 (.op (some 35) (.ext 0) [(.v 14 none)]),
  .set 16 (.op (some 36) (.ext 1) [(.v 14 none)]),
  .set 5 (.op (some 6) .mov [(.v 15 none)]),
  .set 6 (.op (some 7) .mov [(.v 16 none)])]) <|
 .ret
/- sleuth/sleuthlaw10.adds -/
def s180 : SFn := .src 14 [0] [.cellN 0 2] <|
 .seq (.reg [
  .set 0 (.op (some 0) (.alloc 0 [(.int .i64 0), .nils]) [])]) <|
 .seq (.reg [
  .ef (.op none (.store 2) [(.v 0 none), (.op (some 13) (.build [(.int .i64 0), .nils] [(0, 1), (1, 1)]) [(.k (.int .i64 2)), (.op (some 12) (.bslice 0 [(.int .i64 0), (.int .i64 0), (.int .i64 0), .nils, (.int .i64 0), (.int .i64 0), (.int .i64 0), .nils, (.int .i64 0), (.int .i64 0), (.int .i64 0), .nils, (.int .i64 0), (.int .i64 0), (.int .i64 0), .nils, (.int .i64 0), (.int .i64 0), (.int .i64 0), .nils, (.int .i64 0), (.int .i64 0), (.int .i64 0), .nils, (.int .i64 0), (.int .i64 0), (.int .i64 0), .nils, (.int .i64 0), (.int .i64 0), (.int .i64 0), .nils] 8 [(0, 4), (4, 4), (8, 4), (12, 4), (16, 4), (20, 4), (24, 4), (28, 4)]) [(.op (some 1) (.build [(.int .i64 0), (.int .i64 0), (.int .i64 0), .nils] [(0, 1)]) [(.k (.int .i64 1))]), (.op (some 2) (.build [(.int .i64 0), (.int .i64 0), (.int .i64 0), .nils] [(0, 1), (1, 1)]) [(.k (.int .i64 1)), (.k (.int .i64 3))]), (.op (some 3) (.build [(.int .i64 0), (.int .i64 0), (.int .i64 0), .nils] [(0, 1), (1, 1)]) [(.k (.int .i64 1)), (.k (.int .i64 1))]), (.op (some 5) (.build [(.int .i64 0), (.int .i64 0), (.int .i64 0), .nils] [(0, 1), (3, 1)]) [(.k (.int .i64 4)), (.op (some 4) (.bslice 0 [(.int .i64 0), (.int .i64 0)] 2 [(0, 1), (1, 1)]) [(.k (.int .i64 1)), (.k (.int .i64 2))])]), (.op (some 6) (.build [(.int .i64 0), (.int .i64 0), (.int .i64 0), .nils] [(0, 1)]) [(.k (.int .i64 1))]), (.op (some 7) (.build [(.int .i64 0), (.int .i64 0), (.int .i64 0), .nils] [(0, 1), (1, 1)]) [(.k (.int .i64 1)), (.k (.int .i64 1))]), (.op (some 9) (.build [(.int .i64 0), (.int .i64 0), (.int .i64 0), .nils] [(0, 1), (3, 1)]) [(.k (.int .i64 4)), (.op (some 8) (.bslice 0 [(.int .i64 0), (.int .i64 0)] 2 [(0, 1), (1, 1)]) [(.k (.int .i64 4)), (.k (.int .i64 5))])]), (.op (some 11) (.build [(.int .i64 0), (.int .i64 0), (.int .i64 0), .nils] [(0, 1), (1, 1), (2, 1), (3, 1)]) [(.k (.int .i64 5)), (.k (.int .i64 7)), (.k (.int .i64 2)), (.op (some 10) (.bslice 0 [(.int .i64 0), (.int .i64 0), (.int .i64 0)] 3 [(0, 1), (1, 1), (2, 1)]) [(.k (.int .i64 0)), (.k (.int .i64 3)), (.k (.int .i64 6))])])])])])]) <|
 .ret
/- sleuth/holds.met -/
def s182 : SFn := .src 81 [0, 1, 2, 5, 6, 7, 8, 9, 10, 12, 13, 14, 15, 16, 17, 18, 21, 22, 23, 24, 27, 31, 32, 59, 60, 61, 62, 63, 65, 66, 75, 76, 79] [.tmp 4, .tmp 5] <|
 .seq (.reg [
  .set 3 (.op (some 5) (.box 0) [(.v 2 none)]),
  .set 4 (.op (some 6) .mov [(.k (.bool false))]),
  .set 5 (.op (some 7) .mov [(.k (.int .i64 0))])]) <|
 .seq (.reg [
  .set 15 (.op (some 18) .mov [(.op (some 20) (.call 11) [(.v 1 (some 19))])]),
  .set 16 (.op (some 21) (.ext 0) [(.v 15 none)]),
  .set 17 (.op (some 22) (.ext 1) [(.v 15 none)]),
  .set 18 (.op (some 23) (.ext 2) [(.v 15 none)]),
  .set 19 (.op (some 24) (.ext 3) [(.v 15 none)]),
  .set 6 (.op (some 8) .mov [(.v 16 none)]),
  .set 7 (.op (some 9) .mov [(.v 17 none)]),
  .set 8 (.op (some 10) .mov [(.v 18 none)]),
  .ef (.v 19 (some 11))]) <|
 .seq (.ifr [] (.op (some 26) (.binI .eql) [(.v 6 (some 25)), (.k (.int .i64 0))])
  (.seq (.reg [
   .set 4 (.op (some 6) .mov [(.k (.bool true))]),
   .set 5 (.op (some 7) .mov [(.k (.int .i64 0))])]) <|
  .ret)
  (.skip)) <|
 .seq (.reg [
  .set 20 (.op (some 27) .mov [(.op (some 30) (.call 184) [(.v 0 (some 28)), (.op (some 29) (.loadN 4) [(.v 3 none)])])]),
  .set 21 (.op (some 31) (.ext 0) [(.v 20 none)]),
  .set 22 (.op (some 32) (.ext 1) [(.v 20 none)]),
  .set 9 (.op (some 12) (.alloc 0 [(.int .i64 0), (.int .i64 0), .nils]) []),
  .ef (.op none (.store 3) [(.v 9 none), (.v 21 none)]),
  .set 10 (.op (some 13) .mov [(.v 22 none)])]) <|
 .seq (.block 0 <|
  .ifr [] (.op (some 33) .mov [(.op (some 35) (.binI .eql) [(.v 10 (some 34)), (.k (.int .i64 901))])])
   (.seq (.reg [
    .set 4 (.op (some 6) .mov [(.k (.bool false))]),
    .set 5 (.op (some 7) .mov [(.k (.int .i64 1001))])]) <|
   .ret)
   (.ifr [] (.op (some 36) .mov [(.or 51 58 (.or 45 50 (.or 39 44 (.op (some 38) (.binI .neq) [(.v 10 (some 37)), (.k (.int .i64 0))]) (.op (some 43) (.binI .neq) [(.op (some 41) .load1 [(.op (some 40) (.fadr 0) [(.v 9 none)])]), (.v 6 (some 42))])) (.op (some 49) (.binI .neq) [(.op (some 47) .load1 [(.op (some 46) (.fadr 1) [(.v 9 none)])]), (.v 7 (some 48))])) (.op (some 57) (.binI .neq) [(.op (some 54) .lenL [(.op (some 53) .load1 [(.op (some 52) (.fadr 2) [(.v 9 none)])])]), (.op (some 56) .lenL [(.v 8 (some 55))])]))])
    (.seq (.reg [
     .set 4 (.op (some 6) .mov [(.k (.bool false))]),
     .set 5 (.op (some 7) .mov [(.k (.int .i64 0))])]) <|
    .ret)
    (.skip))) <|
 .seq (.seq (.reg [
  .set 23 (.op (some 59) .mov [(.v 8 none)]),
  .set 24 (.op (some 60) .lenL [(.v 23 none)]),
  .set 25 (.op (some 61) .mov [(.k (.int .i64 0))])]) <|
 .block 1 <|
  .loop [0, 9, 23, 24, 25] <|
   .seq (.reg [
    .set 26 (.op (some 62) (.binI .lss) [(.v 25 none), (.v 24 none)])]) <|
   .seq (.cond (.t 26)
    (.skip)
    (.exit 1)) <|
   .seq (.block 2 <|
    .seq (.reg [
     .set 27 (.op (some 63) .mov [(.v 25 none)]),
     .set 28 (.op (some 65) .load1 [(.op (some 64) (.iadr 1) [(.v 23 none), (.v 25 none)])]),
     .set 11 (.op (some 14) .mov [(.v 27 none)]),
     .set 12 (.op (some 15) .mov [(.v 28 none)])]) <|
    .seq (.reg [
     .set 29 (.op (some 66) .mov [(.op (some 74) (.call 182) [(.v 0 (some 67)), (.v 12 (some 68)), (.op (some 73) (.loadN 4) [(.op (some 72) (.iadr 4) [(.op (some 70) .load1 [(.op (some 69) (.fadr 2) [(.v 9 none)])]), (.v 11 (some 71))])])])]),
     .set 30 (.op (some 75) (.ext 0) [(.v 29 none)]),
     .set 31 (.op (some 76) (.ext 1) [(.v 29 none)]),
     .set 13 (.op (some 16) .mov [(.v 30 none)]),
     .set 14 (.op (some 17) .mov [(.v 31 none)])]) <|
    .ifr [] (.op (some 78) .notB [(.v 13 (some 77))])
     (.seq (.reg [
      .set 32 (.op (some 79) .mov [(.v 14 none)]),
      .set 4 (.op (some 6) .mov [(.k (.bool false))]),
      .set 5 (.op (some 7) .mov [(.v 32 none)])]) <|
     .ret)
     (.skip)) <|
   .reg [
    .set 25 (.op (some 61) .mov [(.op (some 80) (.binI .add) [(.v 25 none), (.k (.int .i64 1))])])]) <|
 .seq (.reg [
  .set 4 (.op (some 6) .mov [(.k (.bool true))]),
  .set 5 (.op (some 7) .mov [(.k (.int .i64 0))])]) <|
 .ret
end Am.T
