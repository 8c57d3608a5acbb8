/- Functions of the program, as the abstract machine has them. -/
import Derived.Test.YtpalaplnolcimaaGreatDoorAmJc
namespace Am.T
open Go
/- sleuth/sleuthlaw0.CopyProgram -/
def s135_sleuthlaw0_CopyProgram : SFn := .src 23 [0, 1, 2, 3, 4] [.cellN 2 1] <|
 .seq (.reg [
  .set 1 (.op (some 1) (.box 0) [(.v 0 none)]),
  .set 2 (.op (some 2) (.alloc 0 [.nils]) [])]) <|
 .seq (.reg [
  .set 3 (.op (some 3) .mov [(.k .nils)])]) <|
 .seq (.seq (.reg [
  .set 4 (.op (some 4) .mov [(.k (.int .i64 0))])]) <|
 .block 0 <|
  .loop [1, 2, 3, 4] <|
   .seq (.ifr [] (.op (some 9) (.binI .lss) [(.v 4 (some 5)), (.op (some 8) .lenL [(.op (some 7) .load1 [(.op (some 6) (.fadr 0) [(.v 1 none)])])])])
    (.skip)
    (.exit 0)) <|
   .seq (.block 1 <|
    .reg [
     .set 3 (.op (some 3) .mov [(.op (some 20) (.app 0 2 32) [(.v 3 (some 12)), (.op (some 19) (.bslice 0 [(.int .i64 0), .nils] 1 [(0, 2)]) [(.op (some 18) (.call 156) [(.op (some 17) (.loadN 2) [(.op (some 16) (.iadr 2) [(.op (some 14) .load1 [(.op (some 13) (.fadr 0) [(.v 1 none)])]), (.v 4 (some 15))])])])])])])]) <|
   .reg [
    .set 4 (.op (some 4) .mov [(.op (some 11) (.binI .add) [(.v 4 (some 10)), (.k (.int .i64 1))])])]) <|
 .seq (.reg [
  .ef (.op none (.store 1) [(.v 2 none), (.op (some 22) (.build [.nils] [(0, 1)]) [(.v 3 (some 21))])])]) <|
 .ret
/- sleuth/sleuthlaw0.SameNodes -/
def s138_sleuthlaw0_SameNodes : SFn := .src 27 [0, 1, 4, 5, 26] [.tmp 2] <|
 .seq (.reg [
  .set 2 (.op (some 4) .mov [(.k (.bool false))])]) <|
 .seq (.ifr [] (.op (some 10) (.binI .neq) [(.op (some 7) .lenL [(.v 0 (some 6))]), (.op (some 9) .lenL [(.v 1 (some 8))])])
  (.seq (.reg [
   .set 2 (.op (some 4) .mov [(.k (.bool false))])]) <|
  .ret)
  (.skip)) <|
 .seq (.seq (.reg [
  .set 3 (.op (some 5) .mov [(.k (.int .i64 0))])]) <|
 .block 0 <|
  .loop [0, 1, 3] <|
   .seq (.ifr [] (.op (some 14) (.binI .lss) [(.v 3 (some 11)), (.op (some 13) .lenL [(.v 0 (some 12))])])
    (.skip)
    (.exit 0)) <|
   .seq (.block 1 <|
    .seq (.dreg [17, 18, 19, 20, 21, 22, 23, 24, 25] [
     ⟨(some 5), .mov, [.t 0], none⟩,
     ⟨(some 6), .mov, [.t 3], none⟩,
     ⟨(some 7), .iadr 4, [.t 5, .t 6], none⟩,
     ⟨(some 8), .loadN 4, [.t 7], none⟩,
     ⟨(some 9), .mov, [.t 1], none⟩,
     ⟨(some 10), .mov, [.t 3], none⟩,
     ⟨(some 11), .iadr 4, [.t 9, .t 10], none⟩,
     ⟨(some 12), .loadN 4, [.t 11], none⟩,
     ⟨(some 13), .call 166, [.t 8, .t 12], none⟩,
     ⟨(some 4), .notB, [.t 13], none⟩]
     [.op 0, .op 1, .op 2, .op 3, .op 4, .op 5, .op 6, .op 7, .op 8, .op 9]) <|
    .cond (.t 4)
     (.seq (.reg [
      .set 2 (.op (some 4) .mov [(.k (.bool false))])]) <|
     .ret)
     (.skip)) <|
   .reg [
    .set 3 (.op (some 5) .mov [(.op (some 16) (.binI .add) [(.v 3 (some 15)), (.k (.int .i64 1))])])]) <|
 .seq (.reg [
  .set 2 (.op (some 4) .mov [(.k (.bool true))])]) <|
 .ret
/- sleuth/sleuthlaw0.SameProgram -/
def s140_sleuthlaw0_SameProgram : SFn := .src 32 [0, 1, 2, 3, 4, 5, 31] [.tmp 4] <|
 .seq (.reg [
  .set 2 (.op (some 2) (.box 0) [(.v 0 none)]),
  .set 3 (.op (some 3) (.box 0) [(.v 1 none)]),
  .set 4 (.op (some 4) .mov [(.k (.bool false))])]) <|
 .seq (.ifr [] (.op (some 12) (.binI .neq) [(.op (some 8) .lenL [(.op (some 7) .load1 [(.op (some 6) (.fadr 0) [(.v 2 none)])])]), (.op (some 11) .lenL [(.op (some 10) .load1 [(.op (some 9) (.fadr 0) [(.v 3 none)])])])])
  (.seq (.reg [
   .set 4 (.op (some 4) .mov [(.k (.bool false))])]) <|
  .ret)
  (.skip)) <|
 .seq (.seq (.reg [
  .set 5 (.op (some 5) .mov [(.k (.int .i64 0))])]) <|
 .block 0 <|
  .loop [2, 3, 5] <|
   .seq (.ifr [] (.op (some 17) (.binI .lss) [(.v 5 (some 13)), (.op (some 16) .lenL [(.op (some 15) .load1 [(.op (some 14) (.fadr 0) [(.v 2 none)])])])])
    (.skip)
    (.exit 0)) <|
   .seq (.block 1 <|
    .seq (.dreg [20, 21, 22, 23, 24, 25, 26, 27, 28, 29, 30] [
     ⟨(some 7), .fadr 0, [.t 2], none⟩,
     ⟨(some 8), .load1, [.t 7], none⟩,
     ⟨(some 9), .mov, [.t 5], none⟩,
     ⟨(some 10), .iadr 2, [.t 8, .t 9], none⟩,
     ⟨(some 11), .loadN 2, [.t 10], none⟩,
     ⟨(some 12), .fadr 0, [.t 3], none⟩,
     ⟨(some 13), .load1, [.t 12], none⟩,
     ⟨(some 14), .mov, [.t 5], none⟩,
     ⟨(some 15), .iadr 2, [.t 13, .t 14], none⟩,
     ⟨(some 16), .loadN 2, [.t 15], none⟩,
     ⟨(some 17), .call 167, [.t 11, .t 16], none⟩,
     ⟨(some 6), .notB, [.t 17], none⟩]
     [.op 0, .op 1, .op 2, .op 3, .op 4, .op 5, .op 6, .op 7, .op 8, .op 9, .op 10, .op 11]) <|
    .cond (.t 6)
     (.seq (.reg [
      .set 4 (.op (some 4) .mov [(.k (.bool false))])]) <|
     .ret)
     (.skip)) <|
   .reg [
    .set 5 (.op (some 5) .mov [(.op (some 19) (.binI .add) [(.v 5 (some 18)), (.k (.int .i64 1))])])]) <|
 .seq (.reg [
  .set 4 (.op (some 4) .mov [(.k (.bool true))])]) <|
 .ret
/- sleuth/sleuthlaw0.CopyDef -/
def s156_sleuthlaw0_CopyDef : SFn := .src 30 [0, 1, 2, 3, 4, 5, 17] [.cellN 2 2] <|
 .seq (.reg [
  .set 1 (.op (some 1) (.box 0) [(.v 0 none)]),
  .set 2 (.op (some 2) (.alloc 0 [(.int .i64 0), .nils]) [])]) <|
 .seq (.reg [
  .set 3 (.op (some 3) .mov [(.k .nils)])]) <|
 .seq (.seq (.reg [
  .set 4 (.op (some 4) .mov [(.k (.int .i64 0))])]) <|
 .block 0 <|
  .loop [1, 2, 3, 4] <|
   .seq (.ifr [] (.op (some 10) (.binI .lss) [(.v 4 (some 6)), (.op (some 9) .lenL [(.op (some 8) .load1 [(.op (some 7) (.fadr 1) [(.v 1 none)])])])])
    (.skip)
    (.exit 0)) <|
   .seq (.block 1 <|
    .seq (.reg [
     .set 6 (.op (some 17) (.loadN 4) [(.op (some 16) (.iadr 4) [(.op (some 14) .load1 [(.op (some 13) (.fadr 1) [(.v 1 none)])]), (.v 4 (some 15))])]),
     .set 5 (.op (some 5) (.alloc 0 [(.int .i64 0), (.int .i64 0), (.int .i64 0), .nils]) []),
     .ef (.op none (.store 4) [(.v 5 none), (.v 6 none)])]) <|
    .seq (.reg [
     .ef (.opr none (.store 1) (.op (some 22) (.fadr 3) [(.v 5 none)]) (.op (some 21) (.app 0 1 8) [(.op (some 18) (.bslice 0 [] 0 []) []), (.op (some 20) .load1 [(.op (some 19) (.fadr 3) [(.v 5 none)])])]))]) <|
    .reg [
     .set 3 (.op (some 3) .mov [(.op (some 26) (.app 0 4 48) [(.v 3 (some 23)), (.op (some 25) (.bslice 0 [(.int .i64 0), (.int .i64 0), (.int .i64 0), .nils] 1 [(0, 4)]) [(.op (some 24) (.loadN 4) [(.v 5 none)])])])])]) <|
   .reg [
    .set 4 (.op (some 4) .mov [(.op (some 12) (.binI .add) [(.v 4 (some 11)), (.k (.int .i64 1))])])]) <|
 .seq (.reg [
  .ef (.opr none (.store 1) (.op (some 28) (.fadr 1) [(.v 1 none)]) (.v 3 (some 27)))]) <|
 .seq (.reg [
  .ef (.op none (.store 2) [(.v 2 none), (.op (some 29) (.loadN 2) [(.v 1 none)])])]) <|
 .ret
/- sleuth/sleuthlaw0.SameDef -/
def s167_sleuthlaw0_SameDef : SFn := .src 17 [0, 1, 2, 3, 4] [.tmp 4] <|
 .seq (.reg [
  .set 2 (.op (some 2) (.box 0) [(.v 0 none)]),
  .set 3 (.op (some 3) (.box 0) [(.v 1 none)]),
  .set 4 (.op (some 4) .mov [(.k (.bool false))])]) <|
 .seq (.reg [
  .set 4 (.op (some 4) .mov [(.and 10 16 (.op (some 9) (.binI .eql) [(.op (some 6) .load1 [(.op (some 5) (.fadr 0) [(.v 2 none)])]), (.op (some 8) .load1 [(.op (some 7) (.fadr 0) [(.v 3 none)])])]) (.op (some 15) (.call 194) [(.op (some 12) .load1 [(.op (some 11) (.fadr 1) [(.v 2 none)])]), (.op (some 14) .load1 [(.op (some 13) (.fadr 1) [(.v 3 none)])])]))])]) <|
 .ret
/- sleuth/sleuthlaw0.SameExprs -/
def s194_sleuthlaw0_SameExprs : SFn := .src 68 [0, 1, 4, 5, 67] [.tmp 2] <|
 .seq (.reg [
  .set 2 (.op (some 4) .mov [(.k (.bool false))])]) <|
 .seq (.ifr [] (.op (some 10) (.binI .neq) [(.op (some 7) .lenL [(.v 0 (some 6))]), (.op (some 9) .lenL [(.v 1 (some 8))])])
  (.seq (.reg [
   .set 2 (.op (some 4) .mov [(.k (.bool false))])]) <|
  .ret)
  (.skip)) <|
 .seq (.seq (.reg [
  .set 3 (.op (some 5) .mov [(.k (.int .i64 0))])]) <|
 .block 0 <|
  .loop [0, 1, 3] <|
   .seq (.ifr [] (.op (some 14) (.binI .lss) [(.v 3 (some 11)), (.op (some 13) .lenL [(.v 0 (some 12))])])
    (.skip)
    (.exit 0)) <|
   .seq (.block 1 <|
    .seq (.dreg [17, 18, 19, 20, 21, 22, 23, 24, 25, 26, 27, 28, 29, 30, 31, 32, 33, 34, 35, 36, 37, 38, 39, 40, 41, 42, 43, 44, 45, 46, 47, 48, 49, 50, 51, 52, 53, 54, 55, 56, 57, 58, 59, 60, 61, 62, 63, 64, 65, 66] [
     ⟨(some 5), .mov, [.t 0], none⟩,
     ⟨(some 6), .mov, [.t 3], none⟩,
     ⟨(some 7), .iadr 4, [.t 5, .t 6], none⟩,
     ⟨(some 8), .fadr 0, [.t 7], none⟩,
     ⟨(some 9), .load1, [.t 8], none⟩,
     ⟨(some 10), .mov, [.t 1], none⟩,
     ⟨(some 11), .mov, [.t 3], none⟩,
     ⟨(some 12), .iadr 4, [.t 10, .t 11], none⟩,
     ⟨(some 13), .fadr 0, [.t 12], none⟩,
     ⟨(some 14), .load1, [.t 13], none⟩,
     ⟨(some 15), .binI .neq, [.t 9, .t 14], none⟩,
     ⟨(some 16), .mov, [.t 15], none⟩,
     ⟨(some 17), .mov, [.t 0], (some (16, false))⟩,
     ⟨(some 18), .mov, [.t 3], (some (16, false))⟩,
     ⟨(some 19), .iadr 4, [.t 17, .t 18], (some (16, false))⟩,
     ⟨(some 20), .fadr 1, [.t 19], (some (16, false))⟩,
     ⟨(some 21), .load1, [.t 20], (some (16, false))⟩,
     ⟨(some 22), .mov, [.t 1], (some (16, false))⟩,
     ⟨(some 23), .mov, [.t 3], (some (16, false))⟩,
     ⟨(some 24), .iadr 4, [.t 22, .t 23], (some (16, false))⟩,
     ⟨(some 25), .fadr 1, [.t 24], (some (16, false))⟩,
     ⟨(some 26), .load1, [.t 25], (some (16, false))⟩,
     ⟨(some 27), .binI .neq, [.t 21, .t 26], (some (16, false))⟩,
     ⟨(some 28), .pick, [.t 16, .c (.bool true), .t 27], none⟩,
     ⟨(some 29), .mov, [.t 28], none⟩,
     ⟨(some 30), .mov, [.t 0], (some (29, false))⟩,
     ⟨(some 31), .mov, [.t 3], (some (29, false))⟩,
     ⟨(some 32), .iadr 4, [.t 30, .t 31], (some (29, false))⟩,
     ⟨(some 33), .fadr 2, [.t 32], (some (29, false))⟩,
     ⟨(some 34), .load1, [.t 33], (some (29, false))⟩,
     ⟨(some 35), .mov, [.t 1], (some (29, false))⟩,
     ⟨(some 36), .mov, [.t 3], (some (29, false))⟩,
     ⟨(some 37), .iadr 4, [.t 35, .t 36], (some (29, false))⟩,
     ⟨(some 38), .fadr 2, [.t 37], (some (29, false))⟩,
     ⟨(some 39), .load1, [.t 38], (some (29, false))⟩,
     ⟨(some 40), .binI .neq, [.t 34, .t 39], (some (29, false))⟩,
     ⟨(some 41), .pick, [.t 29, .c (.bool true), .t 40], none⟩,
     ⟨(some 42), .mov, [.t 41], none⟩,
     ⟨(some 43), .mov, [.t 0], (some (42, false))⟩,
     ⟨(some 44), .mov, [.t 3], (some (42, false))⟩,
     ⟨(some 45), .iadr 4, [.t 43, .t 44], (some (42, false))⟩,
     ⟨(some 46), .fadr 3, [.t 45], (some (42, false))⟩,
     ⟨(some 47), .load1, [.t 46], (some (42, false))⟩,
     ⟨(some 48), .mov, [.t 1], (some (42, false))⟩,
     ⟨(some 49), .mov, [.t 3], (some (42, false))⟩,
     ⟨(some 50), .iadr 4, [.t 48, .t 49], (some (42, false))⟩,
     ⟨(some 51), .fadr 3, [.t 50], (some (42, false))⟩,
     ⟨(some 52), .load1, [.t 51], (some (42, false))⟩,
     ⟨(some 53), .call 223, [.t 47, .t 52], (some (42, false))⟩,
     ⟨(some 54), .notB, [.t 53], (some (42, false))⟩,
     ⟨(some 4), .pick, [.t 42, .c (.bool true), .t 54], none⟩]
     [.op 0, .op 1, .op 2, .op 3, .op 4, .op 5, .op 6, .op 7, .op 8, .op 9, .op 10, .op 11, .op 12, .op 13, .op 14, .op 15, .op 16, .op 17, .op 18, .op 19, .op 20, .op 21, .op 22, .op 23, .op 24, .op 25, .op 26, .op 27, .op 28, .op 29, .op 30, .op 31, .op 32, .op 33, .op 34, .op 35, .op 36, .op 37, .op 38, .op 39, .op 40, .op 41, .op 42, .op 43, .op 44, .op 45, .op 46, .op 47, .op 48, .op 49, .op 50]) <|
    .cond (.t 4)
     (.seq (.reg [
      .set 2 (.op (some 4) .mov [(.k (.bool false))])]) <|
     .ret)
     (.skip)) <|
   .reg [
    .set 3 (.op (some 5) .mov [(.op (some 16) (.binI .add) [(.v 3 (some 15)), (.k (.int .i64 1))])])]) <|
 .seq (.reg [
  .set 2 (.op (some 4) .mov [(.k (.bool true))])]) <|
 .ret
/- sleuth/sleuthlaw0.SameInts -/
def s223_sleuthlaw0_SameInts : SFn := .src 26 [0, 1, 4, 5, 25] [.tmp 2] <|
 .seq (.reg [
  .set 2 (.op (some 4) .mov [(.k (.bool false))])]) <|
 .seq (.ifr [] (.op (some 10) (.binI .neq) [(.op (some 7) .lenL [(.v 0 (some 6))]), (.op (some 9) .lenL [(.v 1 (some 8))])])
  (.seq (.reg [
   .set 2 (.op (some 4) .mov [(.k (.bool false))])]) <|
  .ret)
  (.skip)) <|
 .seq (.seq (.reg [
  .set 3 (.op (some 5) .mov [(.k (.int .i64 0))])]) <|
 .block 0 <|
  .loop [0, 1, 3] <|
   .seq (.ifr [] (.op (some 14) (.binI .lss) [(.v 3 (some 11)), (.op (some 13) .lenL [(.v 0 (some 12))])])
    (.skip)
    (.exit 0)) <|
   .seq (.block 1 <|
    .seq (.dreg [17, 18, 19, 20, 21, 22, 23, 24] [
     ⟨(some 5), .mov, [.t 0], none⟩,
     ⟨(some 6), .mov, [.t 3], none⟩,
     ⟨(some 7), .iadr 1, [.t 5, .t 6], none⟩,
     ⟨(some 8), .load1, [.t 7], none⟩,
     ⟨(some 9), .mov, [.t 1], none⟩,
     ⟨(some 10), .mov, [.t 3], none⟩,
     ⟨(some 11), .iadr 1, [.t 9, .t 10], none⟩,
     ⟨(some 12), .load1, [.t 11], none⟩,
     ⟨(some 4), .binI .neq, [.t 8, .t 12], none⟩]
     [.op 0, .op 1, .op 2, .op 3, .op 4, .op 5, .op 6, .op 7, .op 8]) <|
    .cond (.t 4)
     (.seq (.reg [
      .set 2 (.op (some 4) .mov [(.k (.bool false))])]) <|
     .ret)
     (.skip)) <|
   .reg [
    .set 3 (.op (some 5) .mov [(.op (some 16) (.binI .add) [(.v 3 (some 15)), (.k (.int .i64 1))])])]) <|
 .seq (.reg [
  .set 2 (.op (some 4) .mov [(.k (.bool true))])]) <|
 .ret
end Am.T
