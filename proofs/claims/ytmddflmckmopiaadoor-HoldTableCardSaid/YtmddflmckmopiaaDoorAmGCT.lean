/- Functions of the program, as the abstract machine has them. -/
import Derived.Test.YtmddflmckmopiaaDoorAmJc
namespace Am.T
open Go
/- sleuth/sleuthref1.ProgramMay -/
def s149 : SFn := .src 77 [0, 1, 2, 3, 4, 5, 52, 76] [.tmp 2] <|
 .seq (.reg [
  .set 1 (.op (some 1) (.box 0) [(.v 0 none)]),
  .set 2 (.op (some 2) .mov [(.k (.bool false))])]) <|
 .seq (.ifr [] (.or 11 18 (.op (some 10) .notB [(.op (some 9) (.call 30) [(.op (some 8) .lenL [(.op (some 7) .load1 [(.op (some 6) (.fadr 0) [(.v 1 none)])])]), (.k (.int .i64 1)), (.k (.int .i64 8))])]) (.op (some 17) (.binI .neq) [(.op (some 16) .load1 [(.op (some 15) (.fadr 0) [(.op (some 14) (.iadr 2) [(.op (some 13) .load1 [(.op (some 12) (.fadr 0) [(.v 1 none)])]), (.k (.int .i64 0))])])]), (.k (.int .i64 0))]))
  (.seq (.reg [
   .set 2 (.op (some 2) .mov [(.k (.bool false))])]) <|
  .ret)
  (.skip)) <|
 .seq (.seq (.reg [
  .set 3 (.op (some 3) .mov [(.k (.int .i64 0))])]) <|
 .block 0 <|
  .loop [1, 3] <|
   .seq (.ifr [] (.op (some 23) (.binI .lss) [(.v 3 (some 19)), (.op (some 22) .lenL [(.op (some 21) .load1 [(.op (some 20) (.fadr 0) [(.v 1 none)])])])])
    (.skip)
    (.exit 0)) <|
   .seq (.block 1 <|
    .seq (.ifr [] (.op (some 32) .notB [(.op (some 31) (.call 179) [(.op (some 30) (.loadN 2) [(.op (some 29) (.iadr 2) [(.op (some 27) .load1 [(.op (some 26) (.fadr 0) [(.v 1 none)])]), (.v 3 (some 28))])])])])
     (.seq (.reg [
      .set 2 (.op (some 2) .mov [(.k (.bool false))])]) <|
     .ret)
     (.skip)) <|
    .seq (.reg [
     .set 4 (.op (some 4) .mov [(.k (.int .i64 0))])]) <|
    .block 2 <|
     .loop [1, 3, 4] <|
      .seq (.ifr [] (.op (some 41) (.binI .lss) [(.v 4 (some 33)), (.op (some 40) .lenL [(.op (some 39) .load1 [(.op (some 38) (.fadr 1) [(.op (some 37) (.iadr 2) [(.op (some 35) .load1 [(.op (some 34) (.fadr 0) [(.v 1 none)])]), (.v 3 (some 36))])])])])])
       (.skip)
       (.exit 2)) <|
      .seq (.block 3 <|
       .seq (.reg [
        .set 6 (.op (some 52) (.loadN 4) [(.op (some 51) (.iadr 4) [(.op (some 49) .load1 [(.op (some 48) (.fadr 1) [(.op (some 47) (.iadr 2) [(.op (some 45) .load1 [(.op (some 44) (.fadr 0) [(.v 1 none)])]), (.v 3 (some 46))])])]), (.v 4 (some 50))])]),
        .set 5 (.op (some 5) (.alloc 0 [(.int .i64 0), (.int .i64 0), (.int .i64 0), .nils]) []),
        .ef (.op none (.store 4) [(.v 5 none), (.v 6 none)])]) <|
       .seq (.dreg [53, 54, 55, 56, 57, 58, 59, 60, 61, 62, 63, 64, 65, 66, 67, 68, 69, 70, 71, 72, 73, 74, 75] [
        ⟨(some 8), .fadr 0, [.t 5], none⟩,
        ⟨(some 9), .load1, [.t 8], none⟩,
        ⟨(some 10), .binI .eql, [.t 9, .c (.int .i64 2)], none⟩,
        ⟨(some 11), .mov, [.t 10], none⟩,
        ⟨(some 12), .fadr 1, [.t 5], (some (11, true))⟩,
        ⟨(some 13), .load1, [.t 12], (some (11, true))⟩,
        ⟨(some 14), .fadr 0, [.t 1], (some (11, true))⟩,
        ⟨(some 15), .load1, [.t 14], (some (11, true))⟩,
        ⟨(some 16), .lenL, [.t 15], (some (11, true))⟩,
        ⟨(some 17), .binI .geq, [.t 13, .t 16], (some (11, true))⟩,
        ⟨(some 18), .mov, [.t 17], (some (11, true))⟩,
        ⟨(some 19), .fadr 3, [.t 5], (some (18, false))⟩,
        ⟨(some 20), .load1, [.t 19], (some (18, false))⟩,
        ⟨(some 21), .lenL, [.t 20], (some (18, false))⟩,
        ⟨(some 22), .fadr 0, [.t 1], (some (18, false))⟩,
        ⟨(some 23), .load1, [.t 22], (some (18, false))⟩,
        ⟨(some 24), .fadr 1, [.t 5], (some (18, false))⟩,
        ⟨(some 25), .load1, [.t 24], (some (18, false))⟩,
        ⟨(some 26), .iadr 2, [.t 23, .t 25], (some (18, false))⟩,
        ⟨(some 27), .fadr 0, [.t 26], (some (18, false))⟩,
        ⟨(some 28), .load1, [.t 27], (some (18, false))⟩,
        ⟨(some 29), .binI .neq, [.t 21, .t 28], (some (18, false))⟩,
        ⟨(some 30), .pick, [.t 18, .c (.bool true), .t 29], (some (11, true))⟩,
        ⟨(some 7), .pick, [.t 11, .t 30, .c (.bool false)], none⟩]
        [.op 0, .op 1, .op 2, .op 3, .op 4, .op 5, .op 6, .op 7, .op 8, .op 9, .op 10, .op 11, .op 12, .op 13, .op 14, .op 15, .op 16, .op 17, .op 18, .op 19, .op 20, .op 21, .op 22, .op 23]) <|
       .cond (.t 7)
        (.seq (.reg [
         .set 2 (.op (some 2) .mov [(.k (.bool false))])]) <|
        .ret)
        (.skip)) <|
      .reg [
       .set 4 (.op (some 4) .mov [(.op (some 43) (.binI .add) [(.v 4 (some 42)), (.k (.int .i64 1))])])]) <|
   .reg [
    .set 3 (.op (some 3) .mov [(.op (some 25) (.binI .add) [(.v 3 (some 24)), (.k (.int .i64 1))])])]) <|
 .seq (.reg [
  .set 2 (.op (some 2) .mov [(.k (.bool true))])]) <|
 .ret
/- sleuth/program.May -/
def s157 : SFn := .src 42 [0, 1, 2, 3, 5, 26, 27, 28, 29, 31] [.tmp 2] <|
 .seq (.reg [
  .set 1 (.op (some 1) (.box 0) [(.v 0 none)]),
  .set 2 (.op (some 2) .mov [(.k (.bool false))])]) <|
 .seq (.ifr [] (.or 16 23 (.or 10 15 (.op (some 9) (.binI .eql) [(.op (some 8) .lenL [(.op (some 7) .load1 [(.op (some 6) (.fadr 0) [(.v 1 none)])])]), (.k (.int .i64 0))]) (.op (some 14) (.binI .gtr) [(.op (some 13) .lenL [(.op (some 12) .load1 [(.op (some 11) (.fadr 0) [(.v 1 none)])])]), (.k (.int .i64 8))])) (.op (some 22) (.binI .neq) [(.op (some 21) .load1 [(.op (some 20) (.fadr 0) [(.op (some 19) (.iadr 2) [(.op (some 18) .load1 [(.op (some 17) (.fadr 0) [(.v 1 none)])]), (.k (.int .i64 0))])])]), (.k (.int .i64 0))]))
  (.seq (.reg [
   .set 2 (.op (some 2) .mov [(.k (.bool false))])]) <|
  .ret)
  (.skip)) <|
 .seq (.reg [
  .set 3 (.op (some 3) .mov [(.op (some 24) (.mkfn 186) [(.v 1 none)])])]) <|
 .seq (.seq (.reg [
  .set 5 (.op (some 26) .load1 [(.op (some 25) (.fadr 0) [(.v 1 none)])]),
  .set 6 (.op (some 27) .lenL [(.v 5 none)]),
  .set 7 (.op (some 28) .mov [(.k (.int .i64 0))])]) <|
 .block 0 <|
  .loop [3, 5, 6, 7] <|
   .seq (.reg [
    .set 8 (.op (some 29) (.binI .lss) [(.v 7 none), (.v 6 none)])]) <|
   .seq (.cond (.t 8)
    (.skip)
    (.exit 0)) <|
   .seq (.block 1 <|
    .seq (.reg [
     .set 9 (.op (some 31) (.loadN 2) [(.op (some 30) (.iadr 2) [(.v 5 none), (.v 7 none)])]),
     .set 4 (.op (some 5) (.alloc 0 [(.int .i64 0), .nils]) []),
     .ef (.op none (.store 2) [(.v 4 none), (.v 9 none)])]) <|
    .ifr [] (.or 35 40 (.op (some 34) .notB [(.op (some 33) (.call 187) [(.op (some 32) (.loadN 2) [(.v 4 none)])])]) (.op (some 39) (.call 188) [(.op (some 37) .load1 [(.op (some 36) (.fadr 1) [(.v 4 none)])]), (.v 3 (some 38))]))
     (.seq (.reg [
      .set 2 (.op (some 2) .mov [(.k (.bool false))])]) <|
     .ret)
     (.skip)) <|
   .reg [
    .set 7 (.op (some 28) .mov [(.op (some 41) (.binI .add) [(.v 7 none), (.k (.int .i64 1))])])]) <|
 .seq (.reg [
  .set 2 (.op (some 2) .mov [(.k (.bool true))])]) <|
 .ret
/- sleuth/sleuthref1.DefMay -/
def s179 : SFn := .src 102 [0, 1, 2, 3, 4, 5, 6, 7, 21, 23, 26, 43, 66] [.tmp 2] <|
 .seq (.reg [
  .set 1 (.op (some 1) (.box 0) [(.v 0 none)]),
  .set 2 (.op (some 2) .mov [(.k (.bool false))])]) <|
 .seq (.ifr [] (.or 12 18 (.op (some 11) .notB [(.op (some 10) (.call 30) [(.op (some 9) .load1 [(.op (some 8) (.fadr 0) [(.v 1 none)])]), (.k (.int .i64 0)), (.k (.int .i64 3))])]) (.op (some 17) .notB [(.op (some 16) (.call 30) [(.op (some 15) .lenL [(.op (some 14) .load1 [(.op (some 13) (.fadr 1) [(.v 1 none)])])]), (.k (.int .i64 1)), (.k (.int .i64 24))])]))
  (.seq (.reg [
   .set 2 (.op (some 2) .mov [(.k (.bool false))])]) <|
  .ret)
  (.skip)) <|
 .seq (.reg [
  .set 8 (.op (some 21) .lenL [(.op (some 20) .load1 [(.op (some 19) (.fadr 1) [(.v 1 none)])])]),
  .set 3 (.op (some 3) .mov [(.op (some 22) (.mkslice 0 [(.int .i64 0)] 8) [(.v 8 none), (.v 8 none)])])]) <|
 .seq (.reg [
  .set 9 (.op (some 23) .mov [(.v 3 none)]),
  .set 10 (.op (some 26) (.binI .sub) [(.op (some 25) .lenL [(.v 3 (some 24))]), (.k (.int .i64 1))]),
  .ef (.opr none (.store 1) (.op (some 30) (.iadr 1) [(.v 9 none), (.v 10 none)]) (.op (some 29) (.binI .add) [(.op (some 28) .load1 [(.op (some 27) (.fadr 0) [(.v 1 none)])]), (.k (.int .i64 1))]))]) <|
 .seq (.seq (.reg [
  .set 4 (.op (some 4) .mov [(.op (some 34) (.binI .sub) [(.op (some 33) .lenL [(.op (some 32) .load1 [(.op (some 31) (.fadr 1) [(.v 1 none)])])]), (.k (.int .i64 1))])])]) <|
 .block 0 <|
  .loop [1, 3, 4] <|
   .seq (.ifr [] (.op (some 36) (.binI .geq) [(.v 4 (some 35)), (.k (.int .i64 0))])
    (.skip)
    (.exit 0)) <|
   .seq (.block 1 <|
    .seq (.reg [
     .set 11 (.op (some 43) (.loadN 4) [(.op (some 42) (.iadr 4) [(.op (some 40) .load1 [(.op (some 39) (.fadr 1) [(.v 1 none)])]), (.v 4 (some 41))])]),
     .set 5 (.op (some 5) (.alloc 0 [(.int .i64 0), (.int .i64 0), (.int .i64 0), .nils]) []),
     .ef (.op none (.store 4) [(.v 5 none), (.v 11 none)])]) <|
    .seq (.seq (.dreg [44, 45, 46, 47, 48, 49, 50, 51, 52, 53, 54, 55, 56, 57, 58, 59, 60, 61, 62, 63, 64, 65] [
     ⟨(some 13), .mov, [.t 3], none⟩,
     ⟨(some 14), .mov, [.t 4], none⟩,
     ⟨(some 15), .iadr 1, [.t 13, .t 14], none⟩,
     ⟨(some 16), .load1, [.t 15], none⟩,
     ⟨(some 17), .binI .eql, [.t 16, .c (.int .i64 0)], none⟩,
     ⟨(some 18), .mov, [.t 17], none⟩,
     ⟨(some 19), .mov, [.t 3], (some (18, false))⟩,
     ⟨(some 20), .mov, [.t 4], (some (18, false))⟩,
     ⟨(some 21), .iadr 1, [.t 19, .t 20], (some (18, false))⟩,
     ⟨(some 22), .load1, [.t 21], (some (18, false))⟩,
     ⟨(some 23), .binI .sub, [.t 22, .c (.int .i64 1)], (some (18, false))⟩,
     ⟨(some 24), .binI .gtr, [.t 23, .c (.int .i64 8)], (some (18, false))⟩,
     ⟨(some 25), .pick, [.t 18, .c (.bool true), .t 24], none⟩,
     ⟨(some 26), .mov, [.t 25], none⟩,
     ⟨(some 27), .loadN 4, [.t 5], (some (26, false))⟩,
     ⟨(some 28), .mov, [.t 3], (some (26, false))⟩,
     ⟨(some 29), .mov, [.t 4], (some (26, false))⟩,
     ⟨(some 30), .iadr 1, [.t 28, .t 29], (some (26, false))⟩,
     ⟨(some 31), .load1, [.t 30], (some (26, false))⟩,
     ⟨(some 32), .binI .sub, [.t 31, .c (.int .i64 1)], (some (26, false))⟩,
     ⟨(some 33), .call 202, [.t 27, .t 32], (some (26, false))⟩,
     ⟨(some 34), .notB, [.t 33], (some (26, false))⟩,
     ⟨(some 12), .pick, [.t 26, .c (.bool true), .t 34], none⟩]
     [.op 0, .op 1, .op 2, .op 3, .op 4, .op 5, .op 6, .op 7, .op 8, .op 9, .op 10, .op 11, .op 12, .op 13, .op 14, .op 15, .op 16, .op 17, .op 18, .op 19, .op 20, .op 21, .op 22]) <|
    .cond (.t 12)
     (.seq (.reg [
      .set 2 (.op (some 2) .mov [(.k (.bool false))])]) <|
     .ret)
     (.skip)) <|
    .seq (.reg [
     .set 6 (.op (some 6) .mov [(.k (.int .i64 0))])]) <|
    .block 2 <|
     .loop [1, 3, 4, 5, 6] <|
      .seq (.ifr [] (.op (some 71) (.binI .lss) [(.v 6 (some 67)), (.op (some 70) .lenL [(.op (some 69) .load1 [(.op (some 68) (.fadr 3) [(.v 5 none)])])])])
       (.skip)
       (.exit 2)) <|
      .seq (.block 3 <|
       .seq (.reg [
        .set 7 (.op (some 7) .mov [(.op (some 78) .load1 [(.op (some 77) (.iadr 1) [(.op (some 75) .load1 [(.op (some 74) (.fadr 3) [(.v 5 none)])]), (.v 6 (some 76))])])])]) <|
       .seq (.ifr [] (.or 84 90 (.op (some 83) .notB [(.op (some 82) (.call 30) [(.v 7 (some 79)), (.k (.int .i64 0)), (.op (some 81) (.binI .sub) [(.v 4 (some 80)), (.k (.int .i64 1))])])]) (.op (some 89) (.binI .neq) [(.op (some 88) .load1 [(.op (some 87) (.iadr 1) [(.v 3 (some 85)), (.v 7 (some 86))])]), (.k (.int .i64 0))]))
        (.seq (.reg [
         .set 2 (.op (some 2) .mov [(.k (.bool false))])]) <|
        .ret)
        (.skip)) <|
       .dreg [91, 92, 93, 94, 95, 96, 97, 98, 99, 100, 101] [
        ⟨(some 13), .mov, [.t 3], none⟩,
        ⟨(some 14), .mov, [.t 7], none⟩,
        ⟨(some 15), .mov, [.t 3], none⟩,
        ⟨(some 16), .mov, [.t 4], none⟩,
        ⟨(some 17), .iadr 1, [.t 15, .t 16], none⟩,
        ⟨(some 18), .load1, [.t 17], none⟩,
        ⟨(some 19), .loadN 4, [.t 5], none⟩,
        ⟨(some 20), .mov, [.t 6], none⟩,
        ⟨(some 21), .call 203, [.t 19, .t 20], none⟩,
        ⟨(some 22), .binI .add, [.t 18, .t 21], none⟩,
        ⟨(some 23), .iadr 1, [.t 13, .t 14], none⟩,
        ⟨none, .store 1, [.t 23, .t 22], none⟩]
        [.op 0, .op 1, .op 2, .op 3, .op 4, .op 5, .op 6, .op 7, .op 8, .chk 5, .op 9, .op 10, .op 11]) <|
      .reg [
       .set 6 (.op (some 6) .mov [(.op (some 73) (.binI .add) [(.v 6 (some 72)), (.k (.int .i64 1))])])]) <|
   .reg [
    .set 4 (.op (some 4) .mov [(.op (some 38) (.binI .sub) [(.v 4 (some 37)), (.k (.int .i64 1))])])]) <|
 .seq (.reg [
  .set 2 (.op (some 2) .mov [(.k (.bool true))])]) <|
 .ret
/- sleuth/program.May$1 -/
def s186 : SFn := .src 28 [0, 1, 2, 3] [.tmp 3] <|
 .seq (.reg [
  .set 2 (.op (some 2) (.box 0) [(.v 0 none)]),
  .set 3 (.op (some 3) .mov [(.k (.bool false))])]) <|
 .seq (.dreg [4, 5, 6, 7, 8, 9, 10, 11, 12, 13, 14, 15, 16, 17, 18, 19, 20, 21, 22, 23, 24, 25, 26, 27] [
  ⟨(some 4), .fadr 0, [.t 2], none⟩,
  ⟨(some 5), .load1, [.t 4], none⟩,
  ⟨(some 6), .binI .eql, [.t 5, .c (.int .i64 2)], none⟩,
  ⟨(some 7), .mov, [.t 6], none⟩,
  ⟨(some 8), .fadr 1, [.t 2], (some (7, true))⟩,
  ⟨(some 9), .load1, [.t 8], (some (7, true))⟩,
  ⟨(some 10), .fadr 0, [.t 1], (some (7, true))⟩,
  ⟨(some 11), .load1, [.t 10], (some (7, true))⟩,
  ⟨(some 12), .lenL, [.t 11], (some (7, true))⟩,
  ⟨(some 13), .binI .geq, [.t 9, .t 12], (some (7, true))⟩,
  ⟨(some 14), .mov, [.t 13], (some (7, true))⟩,
  ⟨(some 15), .fadr 3, [.t 2], (some (14, false))⟩,
  ⟨(some 16), .load1, [.t 15], (some (14, false))⟩,
  ⟨(some 17), .lenL, [.t 16], (some (14, false))⟩,
  ⟨(some 18), .fadr 0, [.t 1], (some (14, false))⟩,
  ⟨(some 19), .load1, [.t 18], (some (14, false))⟩,
  ⟨(some 20), .fadr 1, [.t 2], (some (14, false))⟩,
  ⟨(some 21), .load1, [.t 20], (some (14, false))⟩,
  ⟨(some 22), .iadr 2, [.t 19, .t 21], (some (14, false))⟩,
  ⟨(some 23), .fadr 0, [.t 22], (some (14, false))⟩,
  ⟨(some 24), .load1, [.t 23], (some (14, false))⟩,
  ⟨(some 25), .binI .neq, [.t 17, .t 24], (some (14, false))⟩,
  ⟨(some 26), .pick, [.t 14, .c (.bool true), .t 25], (some (7, true))⟩,
  ⟨(some 27), .pick, [.t 7, .t 26, .c (.bool false)], none⟩,
  ⟨(some 3), .mov, [.t 27], none⟩]
  [.op 0, .op 1, .op 2, .op 3, .op 4, .op 5, .op 6, .op 7, .op 8, .op 9, .op 10, .op 11, .op 12, .op 13, .op 14, .op 15, .op 16, .op 17, .op 18, .op 19, .op 20, .op 21, .op 22, .op 23, .op 24]) <|
 .ret
/- sleuth/expr.May -/
def s187 : SFn := .src 106 [0, 1, 2, 3, 4, 5, 6, 7, 8, 9, 25, 27, 28, 29, 35, 36, 73, 74, 75, 76, 77, 79] [.tmp 2] <|
 .seq (.reg [
  .set 1 (.op (some 1) (.box 0) [(.v 0 none)]),
  .set 2 (.op (some 2) .mov [(.k (.bool false))])]) <|
 .seq (.reg [
  .set 3 (.op (some 3) .mov [(.op (some 13) (.binI .sub) [(.op (some 12) .lenL [(.op (some 11) .load1 [(.op (some 10) (.fadr 1) [(.v 1 none)])])]), (.k (.int .i64 1))])])]) <|
 .seq (.ifr [] (.or 18 22 (.op (some 17) .notB [(.op (some 16) (.call 212) [(.op (some 15) .load1 [(.op (some 14) (.fadr 0) [(.v 1 none)])]), (.k (.int .i64 3))])]) (.op (some 21) .notB [(.op (some 20) (.call 212) [(.v 3 (some 19)), (.k (.int .i64 23))])]))
  (.seq (.reg [
   .set 2 (.op (some 2) .mov [(.k (.bool false))])]) <|
  .ret)
  (.skip)) <|
 .seq (.reg [
  .set 10 (.op (some 25) .lenL [(.op (some 24) .load1 [(.op (some 23) (.fadr 1) [(.v 1 none)])])]),
  .set 4 (.op (some 4) .mov [(.op (some 26) (.mkslice 0 [(.int .i64 0)] 8) [(.v 10 none), (.v 10 none)])])]) <|
 .seq (.seq (.reg [
  .set 11 (.op (some 27) .mov [(.v 3 none)]),
  .set 12 (.op (some 28) .mov [(.k (.int .i64 0))])]) <|
 .block 0 <|
  .loop [1, 3, 4, 11, 12] <|
   .seq (.reg [
    .set 13 (.op (some 29) (.binI .lss) [(.v 12 none), (.v 11 none)])]) <|
   .seq (.cond (.t 13)
    (.skip)
    (.exit 0)) <|
   .seq (.block 1 <|
    .seq (.reg [
     .set 5 (.op (some 5) .mov [(.v 12 (some 30))])]) <|
    .reg [
     .ef (.op none (.store 1) [(.op (some 33) (.iadr 1) [(.v 4 (some 31)), (.v 5 (some 32))]), (.k (.int .i64 (-1)))])]) <|
   .reg [
    .set 12 (.op (some 28) .mov [(.op (some 34) (.binI .add) [(.v 12 none), (.k (.int .i64 1))])])]) <|
 .seq (.reg [
  .set 14 (.op (some 35) .mov [(.v 4 none)]),
  .set 15 (.op (some 36) .mov [(.v 3 none)]),
  .ef (.opr none (.store 1) (.op (some 39) (.iadr 1) [(.v 14 none), (.v 15 none)]) (.op (some 38) .load1 [(.op (some 37) (.fadr 0) [(.v 1 none)])]))]) <|
 .seq (.seq (.reg [
  .set 6 (.op (some 6) .mov [(.v 3 (some 40))])]) <|
 .block 2 <|
  .loop [1, 4, 6] <|
   .seq (.ifr [] (.op (some 42) (.binI .geq) [(.v 6 (some 41)), (.k (.int .i64 0))])
    (.skip)
    (.exit 2)) <|
   .seq (.block 3 <|
    .seq (.reg [
     .set 7 (.op (some 7) .mov [(.op (some 48) (.iadr 4) [(.op (some 46) .load1 [(.op (some 45) (.fadr 1) [(.v 1 none)])]), (.v 6 (some 47))])])]) <|
    .seq (.ifr [] (.or 61 69 (.or 54 60 (.op (some 53) (.binI .eql) [(.op (some 52) .load1 [(.op (some 51) (.iadr 1) [(.v 4 (some 49)), (.v 6 (some 50))])]), (.k (.int .i64 (-1)))]) (.op (some 59) (.binI .gtr) [(.op (some 58) .load1 [(.op (some 57) (.iadr 1) [(.v 4 (some 55)), (.v 6 (some 56))])]), (.k (.int .i64 8))])) (.op (some 68) .notB [(.op (some 67) (.call 213) [(.v 7 (some 62)), (.op (some 66) .load1 [(.op (some 65) (.iadr 1) [(.v 4 (some 63)), (.v 6 (some 64))])])])]))
     (.seq (.reg [
      .set 2 (.op (some 2) .mov [(.k (.bool false))])]) <|
     .ret)
     (.skip)) <|
    .seq (.reg [
     .set 16 (.op (some 73) .load1 [(.op (some 72) (.fadr 3) [(.op (some 71) .nilCheck [(.v 7 (some 70))])])]),
     .set 17 (.op (some 74) .lenL [(.v 16 none)]),
     .set 18 (.op (some 75) .mov [(.k (.int .i64 0))])]) <|
    .block 4 <|
     .loop [1, 4, 6, 7, 16, 17, 18] <|
      .seq (.reg [
       .set 19 (.op (some 76) (.binI .lss) [(.v 18 none), (.v 17 none)])]) <|
      .seq (.cond (.t 19)
       (.skip)
       (.exit 4)) <|
      .seq (.block 5 <|
       .seq (.reg [
        .set 20 (.op (some 77) .mov [(.v 18 none)]),
        .set 21 (.op (some 79) .load1 [(.op (some 78) (.iadr 1) [(.v 16 none), (.v 18 none)])]),
        .set 8 (.op (some 8) .mov [(.v 20 none)]),
        .set 9 (.op (some 9) .mov [(.v 21 none)])]) <|
       .seq (.ifr [] (.or 87 93 (.or 82 86 (.op (some 81) (.binI .lss) [(.v 9 (some 80)), (.k (.int .i64 0))]) (.op (some 85) (.binI .geq) [(.v 9 (some 83)), (.v 6 (some 84))])) (.op (some 92) (.binI .neq) [(.op (some 91) .load1 [(.op (some 90) (.iadr 1) [(.v 4 (some 88)), (.v 9 (some 89))])]), (.k (.int .i64 (-1)))]))
        (.seq (.reg [
         .set 2 (.op (some 2) .mov [(.k (.bool false))])]) <|
        .ret)
        (.skip)) <|
       .dreg [94, 95, 96, 97, 98, 99, 100, 101, 102, 103, 104] [
        ⟨(some 22), .mov, [.t 4], none⟩,
        ⟨(some 23), .mov, [.t 9], none⟩,
        ⟨(some 24), .mov, [.t 4], none⟩,
        ⟨(some 25), .mov, [.t 6], none⟩,
        ⟨(some 26), .iadr 1, [.t 24, .t 25], none⟩,
        ⟨(some 27), .load1, [.t 26], none⟩,
        ⟨(some 28), .mov, [.t 7], none⟩,
        ⟨(some 29), .mov, [.t 8], none⟩,
        ⟨(some 30), .call 214, [.t 28, .t 29], none⟩,
        ⟨(some 31), .binI .add, [.t 27, .t 30], none⟩,
        ⟨(some 32), .iadr 1, [.t 22, .t 23], none⟩,
        ⟨none, .store 1, [.t 32, .t 31], none⟩]
        [.op 0, .op 1, .op 2, .op 3, .op 4, .op 5, .op 6, .op 7, .op 8, .chk 5, .op 9, .op 10, .op 11]) <|
      .reg [
       .set 18 (.op (some 75) .mov [(.op (some 105) (.binI .add) [(.v 18 none), (.k (.int .i64 1))])])]) <|
   .reg [
    .set 6 (.op (some 6) .mov [(.op (some 44) (.binI .sub) [(.v 6 (some 43)), (.k (.int .i64 1))])])]) <|
 .seq (.reg [
  .set 2 (.op (some 2) .mov [(.k (.bool true))])]) <|
 .ret
/- slices.ContainsFunc[[]sleuth/api.Expr,sleuth/api.Expr] -/
def s188 : SFn := .src 9 [0, 1, 4] [.tmp 2] <|
 .seq (.reg [
  .set 2 (.op (some 4) .mov [(.k (.bool false))])]) <|
 .seq (.reg [
  .set 2 (.op (some 4) .mov [(.op (some 8) (.binI .geq) [(.op (some 7) (.call 215) [(.v 0 (some 5)), (.v 1 (some 6))]), (.k (.int .i64 0))])])]) <|
 .ret
/- sleuth/sleuthref1.kinds -/
def s202 : SFn := .src 115 [0, 1, 2, 4, 5, 6, 14] [.tmp 3] <|
 .seq (.reg [
  .set 2 (.op (some 2) (.box 0) [(.v 0 none)]),
  .set 3 (.op (some 4) .mov [(.k (.bool false))])]) <|
 .seq (.reg [
  .set 4 (.op (some 5) .mov [(.op (some 9) .lenL [(.op (some 8) .load1 [(.op (some 7) (.fadr 3) [(.v 2 none)])])])])]) <|
 .seq (.reg [
  .set 5 (.op (some 6) .mov [(.op (some 12) (.binI .eql) [(.op (some 11) .load1 [(.op (some 10) (.fadr 2) [(.v 2 none)])]), (.k (.int .i64 0))])])]) <|
 .seq (.seq (.reg [
  .set 6 (.op (some 14) .load1 [(.op (some 13) (.fadr 0) [(.v 2 none)])])]) <|
 .block 0 <|
  .ifr [] (.op (some 15) .mov [(.op (some 16) (.binI .eql) [(.v 6 none), (.k (.int .i64 0))])])
   (.seq (.reg [
    .set 3 (.op (some 4) .mov [(.and 22 26 (.and 18 21 (.v 5 (some 17)) (.op (some 20) (.binI .eql) [(.v 4 (some 19)), (.k (.int .i64 0))])) (.op (some 25) (.call 41) [(.op (some 24) .load1 [(.op (some 23) (.fadr 1) [(.v 2 none)])])]))])]) <|
   .ret)
   (.ifr [] (.op (some 27) .mov [(.op (some 28) (.binI .eql) [(.v 6 none), (.k (.int .i64 1))])])
    (.seq (.reg [
     .set 3 (.op (some 4) .mov [(.and 34 40 (.and 30 33 (.v 5 (some 29)) (.op (some 32) (.binI .eql) [(.v 4 (some 31)), (.k (.int .i64 0))])) (.op (some 39) (.call 30) [(.op (some 36) .load1 [(.op (some 35) (.fadr 1) [(.v 2 none)])]), (.k (.int .i64 0)), (.op (some 38) (.binI .sub) [(.v 1 (some 37)), (.k (.int .i64 1))])]))])]) <|
    .ret)
    (.ifr [] (.op (some 41) .mov [(.op (some 42) (.binI .eql) [(.v 6 none), (.k (.int .i64 2))])])
     (.seq (.reg [
      .set 3 (.op (some 4) .mov [(.and 48 52 (.and 44 47 (.v 5 (some 43)) (.op (some 46) (.binI .leq) [(.v 4 (some 45)), (.k (.int .i64 3))])) (.op (some 51) (.call 30) [(.op (some 50) .load1 [(.op (some 49) (.fadr 1) [(.v 2 none)])]), (.k (.int .i64 0)), (.k (.int .i64 7))]))])]) <|
     .ret)
     (.ifr [] (.op (some 53) .mov [(.op (some 54) (.binI .eql) [(.v 6 none), (.k (.int .i64 3))])])
      (.seq (.reg [
       .set 3 (.op (some 4) .mov [(.and 60 64 (.and 56 59 (.v 5 (some 55)) (.op (some 58) (.binI .leq) [(.v 4 (some 57)), (.k (.int .i64 3))])) (.op (some 63) (.call 30) [(.op (some 62) .load1 [(.op (some 61) (.fadr 1) [(.v 2 none)])]), (.k (.int .i64 0)), (.k (.int .i64 99))]))])]) <|
      .ret)
      (.ifr [] (.op (some 65) .mov [(.op (some 66) (.binI .eql) [(.v 6 none), (.k (.int .i64 4))])])
       (.seq (.reg [
        .set 3 (.op (some 4) .mov [(.and 72 76 (.and 68 71 (.v 5 (some 67)) (.op (some 70) (.binI .eql) [(.v 4 (some 69)), (.k (.int .i64 2))])) (.op (some 75) (.call 30) [(.op (some 74) .load1 [(.op (some 73) (.fadr 1) [(.v 2 none)])]), (.k (.int .i64 0)), (.k (.int .i64 4))]))])]) <|
       .ret)
       (.ifr [] (.op (some 77) .mov [(.op (some 78) (.binI .eql) [(.v 6 none), (.k (.int .i64 5))])])
        (.seq (.reg [
         .set 3 (.op (some 4) .mov [(.and 86 90 (.and 81 85 (.op (some 80) (.binI .eql) [(.v 4 (some 79)), (.k (.int .i64 3))]) (.op (some 84) (.call 30) [(.op (some 83) .load1 [(.op (some 82) (.fadr 1) [(.v 2 none)])]), (.k (.int .i64 0)), (.k (.int .i64 99))])) (.op (some 89) (.call 30) [(.op (some 88) .load1 [(.op (some 87) (.fadr 2) [(.v 2 none)])]), (.k (.int .i64 0)), (.k (.int .i64 3))]))])]) <|
        .ret)
        (.ifr [] (.op (some 91) .mov [(.op (some 92) (.binI .eql) [(.v 6 none), (.k (.int .i64 6))])])
         (.seq (.reg [
          .set 3 (.op (some 4) .mov [(.and 98 102 (.and 94 97 (.v 5 (some 93)) (.op (some 96) (.binI .eql) [(.v 4 (some 95)), (.k (.int .i64 2))])) (.op (some 101) (.binI .eql) [(.op (some 100) .load1 [(.op (some 99) (.fadr 1) [(.v 2 none)])]), (.k (.int .i64 0))]))])]) <|
         .ret)
         (.ifr [] (.op (some 103) .mov [(.op (some 104) (.binI .eql) [(.v 6 none), (.k (.int .i64 7))])])
          (.seq (.reg [
           .set 3 (.op (some 4) .mov [(.and 110 114 (.and 106 109 (.v 5 (some 105)) (.op (some 108) (.binI .eql) [(.v 4 (some 107)), (.k (.int .i64 0))])) (.op (some 113) (.binI .eql) [(.op (some 112) .load1 [(.op (some 111) (.fadr 1) [(.v 2 none)])]), (.k (.int .i64 0))]))])]) <|
          .ret)
          (.skip))))))))) <|
 .seq (.reg [
  .set 3 (.op (some 4) .mov [(.k (.bool false))])]) <|
 .ret
/- sleuth/sleuthref1.deeper -/
def s203 : SFn := .src 21 [0, 1, 2, 4] [.tmp 3] <|
 .seq (.reg [
  .set 2 (.op (some 2) (.box 0) [(.v 0 none)]),
  .set 3 (.op (some 4) .mov [(.k (.int .i64 0))])]) <|
 .seq (.ifr [] (.and 7 11 (.op (some 6) (.binI .eql) [(.v 1 (some 5)), (.k (.int .i64 1))]) (.op (some 10) (.binI .eql) [(.op (some 9) .load1 [(.op (some 8) (.fadr 0) [(.v 2 none)])]), (.k (.int .i64 5))]))
  (.seq (.reg [
   .set 3 (.op (some 4) .mov [(.op (some 13) .load1 [(.op (some 12) (.fadr 2) [(.v 2 none)])])])]) <|
  .ret)
  (.skip)) <|
 .seq (.ifr [] (.and 16 20 (.op (some 15) (.binI .eql) [(.v 1 (some 14)), (.k (.int .i64 1))]) (.op (some 19) (.binI .eql) [(.op (some 18) .load1 [(.op (some 17) (.fadr 0) [(.v 2 none)])]), (.k (.int .i64 6))]))
  (.seq (.reg [
   .set 3 (.op (some 4) .mov [(.k (.int .i64 1))])]) <|
  .ret)
  (.skip)) <|
 .seq (.reg [
  .set 3 (.op (some 4) .mov [(.k (.int .i64 0))])]) <|
 .ret
/- sleuth/expr.within -/
def s212 : SFn := .src 12 [0, 1, 4] [.tmp 2] <|
 .seq (.reg [
  .set 2 (.op (some 4) .mov [(.k (.bool false))])]) <|
 .seq (.reg [
  .set 2 (.op (some 4) .mov [(.and 7 11 (.op (some 6) (.binI .geq) [(.v 0 (some 5)), (.k (.int .i64 0))]) (.op (some 10) (.binI .leq) [(.v 0 (some 8)), (.v 1 (some 9))]))])]) <|
 .ret
/- sleuth/expr.part -/
def s213 : SFn := .src 99 [0, 1, 4, 8] [.tmp 2] <|
 .seq (.reg [
  .set 2 (.op (some 4) .mov [(.k (.bool false))])]) <|
 .seq (.seq (.reg [
  .set 3 (.op (some 8) .load1 [(.op (some 7) (.fadr 0) [(.op (some 6) .nilCheck [(.v 0 (some 5))])])])]) <|
 .block 0 <|
  .ifr [] (.op (some 9) .mov [(.op (some 10) (.binI .eql) [(.v 3 none), (.k (.int .i64 0))])])
   (.seq (.reg [
    .set 2 (.op (some 4) .mov [(.and 16 19 (.op (some 15) (.call 28) [(.op (some 14) .load1 [(.op (some 13) (.fadr 1) [(.op (some 12) .nilCheck [(.v 0 (some 11))])])])]) (.op (some 18) (.call 229) [(.v 0 (some 17)), (.k (.int .i64 0)), (.k (.int .i64 0)), (.k (.int .i64 0))]))])]) <|
   .ret)
   (.ifr [] (.op (some 20) .mov [(.op (some 21) (.binI .eql) [(.v 3 none), (.k (.int .i64 1))])])
    (.seq (.reg [
     .set 2 (.op (some 4) .mov [(.and 29 32 (.op (some 28) (.call 212) [(.op (some 25) .load1 [(.op (some 24) (.fadr 1) [(.op (some 23) .nilCheck [(.v 0 (some 22))])])]), (.op (some 27) (.binI .sub) [(.v 1 (some 26)), (.k (.int .i64 1))])]) (.op (some 31) (.call 229) [(.v 0 (some 30)), (.k (.int .i64 0)), (.k (.int .i64 0)), (.k (.int .i64 0))]))])]) <|
    .ret)
    (.ifr [] (.op (some 33) .mov [(.op (some 34) (.binI .eql) [(.v 3 none), (.k (.int .i64 2))])])
     (.seq (.reg [
      .set 2 (.op (some 4) .mov [(.and 40 43 (.op (some 39) (.call 212) [(.op (some 38) .load1 [(.op (some 37) (.fadr 1) [(.op (some 36) .nilCheck [(.v 0 (some 35))])])]), (.k (.int .i64 7))]) (.op (some 42) (.call 229) [(.v 0 (some 41)), (.k (.int .i64 0)), (.k (.int .i64 0)), (.k (.int .i64 3))]))])]) <|
     .ret)
     (.ifr [] (.op (some 44) .mov [(.op (some 45) (.binI .eql) [(.v 3 none), (.k (.int .i64 3))])])
      (.seq (.reg [
       .set 2 (.op (some 4) .mov [(.and 51 54 (.op (some 50) (.call 212) [(.op (some 49) .load1 [(.op (some 48) (.fadr 1) [(.op (some 47) .nilCheck [(.v 0 (some 46))])])]), (.k (.int .i64 99))]) (.op (some 53) (.call 229) [(.v 0 (some 52)), (.k (.int .i64 0)), (.k (.int .i64 0)), (.k (.int .i64 3))]))])]) <|
      .ret)
      (.ifr [] (.op (some 55) .mov [(.op (some 56) (.binI .eql) [(.v 3 none), (.k (.int .i64 4))])])
       (.seq (.reg [
        .set 2 (.op (some 4) .mov [(.and 62 65 (.op (some 61) (.call 212) [(.op (some 60) .load1 [(.op (some 59) (.fadr 1) [(.op (some 58) .nilCheck [(.v 0 (some 57))])])]), (.k (.int .i64 4))]) (.op (some 64) (.call 229) [(.v 0 (some 63)), (.k (.int .i64 0)), (.k (.int .i64 2)), (.k (.int .i64 2))]))])]) <|
       .ret)
       (.ifr [] (.op (some 66) .mov [(.op (some 67) (.binI .eql) [(.v 3 none), (.k (.int .i64 5))])])
        (.seq (.reg [
         .set 2 (.op (some 4) .mov [(.and 73 76 (.op (some 72) (.call 212) [(.op (some 71) .load1 [(.op (some 70) (.fadr 1) [(.op (some 69) .nilCheck [(.v 0 (some 68))])])]), (.k (.int .i64 99))]) (.op (some 75) (.call 229) [(.v 0 (some 74)), (.k (.int .i64 3)), (.k (.int .i64 3)), (.k (.int .i64 3))]))])]) <|
        .ret)
        (.ifr [] (.op (some 77) .mov [(.op (some 78) (.binI .eql) [(.v 3 none), (.k (.int .i64 6))])])
         (.seq (.reg [
          .set 2 (.op (some 4) .mov [(.and 84 87 (.op (some 83) (.binI .eql) [(.op (some 82) .load1 [(.op (some 81) (.fadr 1) [(.op (some 80) .nilCheck [(.v 0 (some 79))])])]), (.k (.int .i64 0))]) (.op (some 86) (.call 229) [(.v 0 (some 85)), (.k (.int .i64 0)), (.k (.int .i64 2)), (.k (.int .i64 2))]))])]) <|
         .ret)
         (.ifr [] (.op (some 88) .mov [(.op (some 89) (.binI .eql) [(.v 3 none), (.k (.int .i64 7))])])
          (.seq (.reg [
           .set 2 (.op (some 4) .mov [(.and 95 98 (.op (some 94) (.binI .eql) [(.op (some 93) .load1 [(.op (some 92) (.fadr 1) [(.op (some 91) .nilCheck [(.v 0 (some 90))])])]), (.k (.int .i64 0))]) (.op (some 97) (.call 229) [(.v 0 (some 96)), (.k (.int .i64 0)), (.k (.int .i64 0)), (.k (.int .i64 0))]))])]) <|
          .ret)
          (.skip))))))))) <|
 .seq (.reg [
  .set 2 (.op (some 4) .mov [(.k (.bool false))])]) <|
 .ret
/- sleuth/expr.more -/
def s214 : SFn := .src 24 [0, 1, 4] [.tmp 2] <|
 .seq (.reg [
  .set 2 (.op (some 4) .mov [(.k (.int .i64 0))])]) <|
 .seq (.block 0 <|
  .ifr [] (.op (some 5) .mov [(.op (some 7) (.binI .neq) [(.v 1 (some 6)), (.k (.int .i64 1))])])
   (.seq (.reg [
    .set 2 (.op (some 4) .mov [(.k (.int .i64 0))])]) <|
   .ret)
   (.ifr [] (.op (some 8) .mov [(.op (some 13) (.binI .eql) [(.op (some 12) .load1 [(.op (some 11) (.fadr 0) [(.op (some 10) .nilCheck [(.v 0 (some 9))])])]), (.k (.int .i64 5))])])
    (.seq (.reg [
     .set 2 (.op (some 4) .mov [(.op (some 17) .load1 [(.op (some 16) (.fadr 2) [(.op (some 15) .nilCheck [(.v 0 (some 14))])])])])]) <|
    .ret)
    (.ifr [] (.op (some 18) .mov [(.op (some 23) (.binI .eql) [(.op (some 22) .load1 [(.op (some 21) (.fadr 0) [(.op (some 20) .nilCheck [(.v 0 (some 19))])])]), (.k (.int .i64 6))])])
     (.seq (.reg [
      .set 2 (.op (some 4) .mov [(.k (.int .i64 1))])]) <|
     .ret)
     (.skip)))) <|
 .seq (.reg [
  .set 2 (.op (some 4) .mov [(.k (.int .i64 0))])]) <|
 .ret
/- slices.IndexFunc[[]sleuth/api.Expr,sleuth/api.Expr] -/
def s215 : SFn := .src 19 [0, 1, 4, 5, 7, 8, 9] [.tmp 2] <|
 .seq (.reg [
  .set 2 (.op (some 4) .mov [(.k (.int .i64 0))])]) <|
 .seq (.seq (.reg [
  .set 4 (.op (some 7) .lenL [(.v 0 (some 6))]),
  .set 5 (.op (some 8) .mov [(.k (.int .i64 0))])]) <|
 .block 0 <|
  .loop [0, 1, 4, 5] <|
   .seq (.reg [
    .set 6 (.op (some 9) (.binI .lss) [(.v 5 none), (.v 4 none)])]) <|
   .seq (.cond (.t 6)
    (.skip)
    (.exit 0)) <|
   .seq (.block 1 <|
    .seq (.reg [
     .set 3 (.op (some 5) .mov [(.v 5 (some 10))])]) <|
    .ifr [] (.op (some 16) .callv [(.v 1 (some 11)), (.op (some 15) (.loadN 4) [(.op (some 14) (.iadr 4) [(.v 0 (some 12)), (.v 3 (some 13))])])])
     (.seq (.reg [
      .set 2 (.op (some 4) .mov [(.v 3 (some 17))])]) <|
     .ret)
     (.skip)) <|
   .reg [
    .set 5 (.op (some 8) .mov [(.op (some 18) (.binI .add) [(.v 5 none), (.k (.int .i64 1))])])]) <|
 .seq (.reg [
  .set 2 (.op (some 4) .mov [(.k (.int .i64 (-1)))])]) <|
 .ret
/- sleuth/expr.plain -/
def s229 : SFn := .src 40 [0, 1, 2, 3, 8] [.tmp 4] <|
 .seq (.reg [
  .set 4 (.op (some 8) .mov [(.k (.bool false))])]) <|
 .seq (.reg [
  .set 4 (.op (some 8) .mov [(.and 31 39 (.and 22 30 (.and 14 21 (.op (some 13) (.binI .geq) [(.op (some 12) .load1 [(.op (some 11) (.fadr 2) [(.op (some 10) .nilCheck [(.v 0 (some 9))])])]), (.k (.int .i64 0))]) (.op (some 20) (.binI .leq) [(.op (some 18) .load1 [(.op (some 17) (.fadr 2) [(.op (some 16) .nilCheck [(.v 0 (some 15))])])]), (.v 1 (some 19))])) (.op (some 29) (.binI .geq) [(.op (some 27) .lenL [(.op (some 26) .load1 [(.op (some 25) (.fadr 3) [(.op (some 24) .nilCheck [(.v 0 (some 23))])])])]), (.v 2 (some 28))])) (.op (some 38) (.binI .leq) [(.op (some 36) .lenL [(.op (some 35) .load1 [(.op (some 34) (.fadr 3) [(.op (some 33) .nilCheck [(.v 0 (some 32))])])])]), (.v 3 (some 37))]))])]) <|
 .ret
/- sleuth/trail.May -/
def s261 : SFn := .src 19 [0, 2, 3, 5, 6, 7] [.tmp 1] <|
 .seq (.reg [
  .set 1 (.op (some 2) .mov [(.k (.bool false))])]) <|
 .seq (.seq (.reg [
  .set 3 (.op (some 5) .lenL [(.v 0 (some 4))]),
  .set 4 (.op (some 6) .mov [(.k (.int .i64 0))])]) <|
 .block 0 <|
  .loop [0, 3, 4] <|
   .seq (.reg [
    .set 5 (.op (some 7) (.binI .lss) [(.v 4 none), (.v 3 none)])]) <|
   .seq (.cond (.t 5)
    (.skip)
    (.exit 0)) <|
   .seq (.block 1 <|
    .seq (.reg [
     .set 2 (.op (some 3) .mov [(.v 4 (some 8))])]) <|
    .ifr [] (.op (some 14) .notB [(.op (some 13) (.call 270) [(.op (some 11) (.iadr 4) [(.v 0 (some 9)), (.v 2 (some 10))]), (.v 2 (some 12))])])
     (.seq (.reg [
      .set 1 (.op (some 2) .mov [(.k (.bool false))])]) <|
     .ret)
     (.skip)) <|
   .reg [
    .set 4 (.op (some 6) .mov [(.op (some 15) (.binI .add) [(.v 4 none), (.k (.int .i64 1))])])]) <|
 .seq (.reg [
  .set 1 (.op (some 2) .mov [(.op (some 18) (.binI .gtr) [(.op (some 17) .lenL [(.v 0 (some 16))]), (.k (.int .i64 0))])])]) <|
 .ret
/- sleuth/trail.Fits -/
def s262 : SFn := .src 26 [0, 1, 2, 4, 5] [.tmp 3] <|
 .seq (.reg [
  .set 2 (.op (some 2) (.box 0) [(.v 0 none)]),
  .set 3 (.op (some 4) .mov [(.k (.bool false))])]) <|
 .seq (.reg [
  .set 4 (.op (some 5) .mov [(.op (some 6) (.mkfn 271) [(.v 2 none)])])]) <|
 .seq (.reg [
  .set 3 (.op (some 4) .mov [(.and 20 25 (.and 13 19 (.and 9 12 (.op (some 8) (.call 157) [(.op (some 7) (.loadN 1) [(.v 2 none)])]) (.op (some 11) (.call 261) [(.v 1 (some 10))])) (.op (some 18) (.binI .eql) [(.op (some 17) .load1 [(.op (some 16) (.fadr 0) [(.op (some 15) (.iadr 4) [(.v 1 (some 14)), (.k (.int .i64 0))])])]), (.k (.int .i64 0))])) (.op (some 24) .notB [(.op (some 23) (.call 272) [(.v 1 (some 21)), (.v 4 (some 22))])]))])]) <|
 .ret
/- sleuth/trail.Next -/
def s270 : SFn := .src 39 [0, 1, 4, 5] [.tmp 2] <|
 .seq (.reg [
  .set 2 (.op (some 4) .mov [(.k (.bool false))])]) <|
 .seq (.reg [
  .set 3 (.op (some 5) .mov [(.or 19 29 (.and 11 18 (.op (some 10) (.binI .geq) [(.op (some 9) .load1 [(.op (some 8) (.fadr 1) [(.op (some 7) .nilCheck [(.v 0 (some 6))])])]), (.k (.int .i64 0))]) (.op (some 17) (.binI .lss) [(.op (some 15) .load1 [(.op (some 14) (.fadr 1) [(.op (some 13) .nilCheck [(.v 0 (some 12))])])]), (.v 1 (some 16))])) (.and 22 28 (.op (some 21) (.binI .eql) [(.v 1 (some 20)), (.k (.int .i64 0))]) (.op (some 27) (.binI .eql) [(.op (some 26) .load1 [(.op (some 25) (.fadr 1) [(.op (some 24) .nilCheck [(.v 0 (some 23))])])]), (.k (.int .i64 (-1)))])))])]) <|
 .seq (.reg [
  .set 2 (.op (some 4) .mov [(.and 35 38 (.and 32 34 (.op (some 31) (.binI .lss) [(.v 1 (some 30)), (.k (.int .i64 512))]) (.v 3 (some 33))) (.op (some 37) (.call 269) [(.v 0 (some 36))]))])]) <|
 .ret
/- sleuth/trail.Fits$1 -/
def s271 : SFn := .src 23 [0, 1, 2, 3] [.tmp 3] <|
 .seq (.reg [
  .set 2 (.op (some 2) (.box 0) [(.v 0 none)]),
  .set 3 (.op (some 3) .mov [(.k (.bool false))])]) <|
 .seq (.dreg [4, 5, 6, 7, 8, 9, 10, 11, 12, 13, 14, 15, 16, 17, 18, 19, 20, 21, 22] [
  ⟨(some 4), .fadr 0, [.t 2], none⟩,
  ⟨(some 5), .load1, [.t 4], none⟩,
  ⟨(some 6), .fadr 0, [.t 1], none⟩,
  ⟨(some 7), .load1, [.t 6], none⟩,
  ⟨(some 8), .lenL, [.t 7], none⟩,
  ⟨(some 9), .binI .geq, [.t 5, .t 8], none⟩,
  ⟨(some 10), .mov, [.t 9], none⟩,
  ⟨(some 11), .fadr 2, [.t 2], (some (10, false))⟩,
  ⟨(some 12), .load1, [.t 11], (some (10, false))⟩,
  ⟨(some 13), .lenL, [.t 12], (some (10, false))⟩,
  ⟨(some 14), .fadr 0, [.t 1], (some (10, false))⟩,
  ⟨(some 15), .load1, [.t 14], (some (10, false))⟩,
  ⟨(some 16), .fadr 0, [.t 2], (some (10, false))⟩,
  ⟨(some 17), .load1, [.t 16], (some (10, false))⟩,
  ⟨(some 18), .iadr 2, [.t 15, .t 17], (some (10, false))⟩,
  ⟨(some 19), .fadr 0, [.t 18], (some (10, false))⟩,
  ⟨(some 20), .load1, [.t 19], (some (10, false))⟩,
  ⟨(some 21), .binI .neq, [.t 13, .t 20], (some (10, false))⟩,
  ⟨(some 22), .pick, [.t 10, .c (.bool true), .t 21], none⟩,
  ⟨(some 3), .mov, [.t 22], none⟩]
  [.op 0, .op 1, .op 2, .op 3, .op 4, .op 5, .op 6, .op 7, .op 8, .op 9, .op 10, .op 11, .op 12, .op 13, .op 14, .op 15, .op 16, .op 17, .op 18, .op 19]) <|
 .ret
/- slices.ContainsFunc[[]sleuth/api.Node,sleuth/api.Node] -/
def s272 : SFn := .src 9 [0, 1, 4] [.tmp 2] <|
 .seq (.reg [
  .set 2 (.op (some 4) .mov [(.k (.bool false))])]) <|
 .seq (.reg [
  .set 2 (.op (some 4) .mov [(.op (some 8) (.binI .geq) [(.op (some 7) (.call 276) [(.v 0 (some 5)), (.v 1 (some 6))]), (.k (.int .i64 0))])])]) <|
 .ret
/- slices.IndexFunc[[]sleuth/api.Node,sleuth/api.Node] -/
def s276 : SFn := .src 19 [0, 1, 4, 5, 7, 8, 9] [.tmp 2] <|
 .seq (.reg [
  .set 2 (.op (some 4) .mov [(.k (.int .i64 0))])]) <|
 .seq (.seq (.reg [
  .set 4 (.op (some 7) .lenL [(.v 0 (some 6))]),
  .set 5 (.op (some 8) .mov [(.k (.int .i64 0))])]) <|
 .block 0 <|
  .loop [0, 1, 4, 5] <|
   .seq (.reg [
    .set 6 (.op (some 9) (.binI .lss) [(.v 5 none), (.v 4 none)])]) <|
   .seq (.cond (.t 6)
    (.skip)
    (.exit 0)) <|
   .seq (.block 1 <|
    .seq (.reg [
     .set 3 (.op (some 5) .mov [(.v 5 (some 10))])]) <|
    .ifr [] (.op (some 16) .callv [(.v 1 (some 11)), (.op (some 15) (.loadN 4) [(.op (some 14) (.iadr 4) [(.v 0 (some 12)), (.v 3 (some 13))])])])
     (.seq (.reg [
      .set 2 (.op (some 4) .mov [(.v 3 (some 17))])]) <|
     .ret)
     (.skip)) <|
   .reg [
    .set 5 (.op (some 8) .mov [(.op (some 18) (.binI .add) [(.v 5 none), (.k (.int .i64 1))])])]) <|
 .seq (.reg [
  .set 2 (.op (some 4) .mov [(.k (.int .i64 (-1)))])]) <|
 .ret
end Am.T
