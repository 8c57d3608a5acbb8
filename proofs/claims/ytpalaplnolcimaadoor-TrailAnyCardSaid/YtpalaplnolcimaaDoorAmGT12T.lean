/- Functions of the program, as the abstract machine has them. -/
import Derived.Test.YtpalaplnolcimaaDoorAmJc
namespace Am.T
open Go
/- sleuth/sleuthlaw12.Trails -/
def s298 : SFn := .src 38 [0, 1, 2, 4, 5, 6, 8, 10] [.tmp 3] <|
 .seq (.reg [
  .set 2 (.op (some 2) (.box 0) [(.v 0 none)]),
  .set 3 (.op (some 4) .mov [(.k (.bool false))])]) <|
 .seq (.reg [
  .set 6 (.op (some 8) (.call 135) [(.op (some 7) (.loadN 1) [(.v 2 none)])]),
  .set 7 (.op (some 10) (.call 244) [(.v 1 (some 9))]),
  .set 4 (.op (some 5) (.alloc 0 [.nils]) []),
  .ef (.op none (.store 1) [(.v 4 none), (.v 6 none)]),
  .set 5 (.op (some 6) .mov [(.v 7 none)])]) <|
 .seq (.dreg [11, 12, 13, 14, 15, 16, 17, 18, 19, 20, 21, 22, 23, 24, 25, 26, 27, 28, 29, 30, 31, 32, 33, 34, 35, 36, 37] [
  ⟨(some 8), .mov, [.t 5], none⟩,
  ⟨(some 9), .call 261, [.t 8], none⟩,
  ⟨(some 10), .mov, [.t 1], none⟩,
  ⟨(some 11), .call 299, [.t 10], none⟩,
  ⟨(some 12), .eqB false, [.t 9, .t 11], none⟩,
  ⟨(some 13), .mov, [.t 12], none⟩,
  ⟨(some 14), .loadN 1, [.t 4], (some (13, true))⟩,
  ⟨(some 15), .mov, [.t 5], (some (13, true))⟩,
  ⟨(some 16), .call 262, [.t 14, .t 15], (some (13, true))⟩,
  ⟨(some 17), .loadN 1, [.t 2], (some (13, true))⟩,
  ⟨(some 18), .mov, [.t 1], (some (13, true))⟩,
  ⟨(some 19), .call 300, [.t 17, .t 18], (some (13, true))⟩,
  ⟨(some 20), .eqB false, [.t 16, .t 19], (some (13, true))⟩,
  ⟨(some 21), .pick, [.t 13, .t 20, .c (.bool false)], none⟩,
  ⟨(some 22), .mov, [.t 21], none⟩,
  ⟨(some 23), .loadN 1, [.t 4], (some (22, true))⟩,
  ⟨(some 24), .loadN 1, [.t 2], (some (22, true))⟩,
  ⟨(some 25), .call 140, [.t 23, .t 24], (some (22, true))⟩,
  ⟨(some 26), .pick, [.t 22, .t 25, .c (.bool false)], none⟩,
  ⟨(some 27), .mov, [.t 26], none⟩,
  ⟨(some 28), .mov, [.t 5], (some (27, true))⟩,
  ⟨(some 29), .mov, [.t 1], (some (27, true))⟩,
  ⟨(some 30), .call 138, [.t 28, .t 29], (some (27, true))⟩,
  ⟨(some 31), .pick, [.t 27, .t 30, .c (.bool false)], none⟩,
  ⟨(some 32), .mov, [.t 31], none⟩,
  ⟨(some 33), .call 259, [], (some (32, true))⟩,
  ⟨(some 34), .pick, [.t 32, .t 33, .c (.bool false)], none⟩,
  ⟨(some 3), .mov, [.t 34], none⟩]
  [.op 0, .op 2, .op 1, .op 3, .op 4, .op 5, .op 6, .op 7, .op 9, .op 10, .op 8, .chk 9, .op 11, .op 12, .op 13, .op 14, .op 15, .op 16, .op 17, .op 18, .op 19, .op 20, .op 21, .op 22, .op 23, .op 24, .op 25, .op 26, .op 27]) <|
 .ret
/- sleuth/sleuthref12.TrailMay -/
def s299 : SFn := .src 20 [0, 2, 3] [.tmp 1] <|
 .seq (.reg [
  .set 1 (.op (some 2) .mov [(.k (.bool false))])]) <|
 .seq (.seq (.reg [
  .set 2 (.op (some 3) .mov [(.k (.int .i64 0))])]) <|
 .block 0 <|
  .loop [0, 2] <|
   .seq (.ifr [] (.op (some 7) (.binI .lss) [(.v 2 (some 4)), (.op (some 6) .lenL [(.v 0 (some 5))])])
    (.skip)
    (.exit 0)) <|
   .seq (.block 1 <|
    .ifr [] (.op (some 16) .notB [(.op (some 15) (.call 301) [(.op (some 13) (.loadN 4) [(.op (some 12) (.iadr 4) [(.v 0 (some 10)), (.v 2 (some 11))])]), (.v 2 (some 14))])])
     (.seq (.reg [
      .set 1 (.op (some 2) .mov [(.k (.bool false))])]) <|
     .ret)
     (.skip)) <|
   .reg [
    .set 2 (.op (some 3) .mov [(.op (some 9) (.binI .add) [(.v 2 (some 8)), (.k (.int .i64 1))])])]) <|
 .seq (.reg [
  .set 1 (.op (some 2) .mov [(.op (some 19) (.binI .gtr) [(.op (some 18) .lenL [(.v 0 (some 17))]), (.k (.int .i64 0))])])]) <|
 .ret
/- sleuth/sleuthref12.Fits -/
def s300 : SFn := .src 55 [0, 1, 2, 4, 5, 54] [.tmp 3] <|
 .seq (.reg [
  .set 2 (.op (some 2) (.box 0) [(.v 0 none)]),
  .set 3 (.op (some 4) .mov [(.k (.bool false))])]) <|
 .seq (.ifr [] (.or 14 20 (.or 9 13 (.op (some 8) .notB [(.op (some 7) (.call 149) [(.op (some 6) (.loadN 1) [(.v 2 none)])])]) (.op (some 12) .notB [(.op (some 11) (.call 299) [(.v 1 (some 10))])])) (.op (some 19) (.binI .neq) [(.op (some 18) .load1 [(.op (some 17) (.fadr 0) [(.op (some 16) (.iadr 4) [(.v 1 (some 15)), (.k (.int .i64 0))])])]), (.k (.int .i64 0))]))
  (.seq (.reg [
   .set 3 (.op (some 4) .mov [(.k (.bool false))])]) <|
  .ret)
  (.skip)) <|
 .seq (.seq (.reg [
  .set 4 (.op (some 5) .mov [(.k (.int .i64 0))])]) <|
 .block 0 <|
  .loop [1, 2, 4] <|
   .seq (.ifr [] (.op (some 24) (.binI .lss) [(.v 4 (some 21)), (.op (some 23) .lenL [(.v 1 (some 22))])])
    (.skip)
    (.exit 0)) <|
   .seq (.block 1 <|
    .seq (.dreg [27, 28, 29, 30, 31, 32, 33, 34, 35, 36, 37, 38, 39, 40, 41, 42, 43, 44, 45, 46, 47, 48, 49, 50, 51, 52, 53] [
     ⟨(some 6), .mov, [.t 1], none⟩,
     ⟨(some 7), .mov, [.t 4], none⟩,
     ⟨(some 8), .iadr 4, [.t 6, .t 7], none⟩,
     ⟨(some 9), .fadr 0, [.t 8], none⟩,
     ⟨(some 10), .load1, [.t 9], none⟩,
     ⟨(some 11), .fadr 0, [.t 2], none⟩,
     ⟨(some 12), .load1, [.t 11], none⟩,
     ⟨(some 13), .lenL, [.t 12], none⟩,
     ⟨(some 14), .binI .geq, [.t 10, .t 13], none⟩,
     ⟨(some 15), .mov, [.t 14], none⟩,
     ⟨(some 16), .mov, [.t 1], (some (15, false))⟩,
     ⟨(some 17), .mov, [.t 4], (some (15, false))⟩,
     ⟨(some 18), .iadr 4, [.t 16, .t 17], (some (15, false))⟩,
     ⟨(some 19), .fadr 2, [.t 18], (some (15, false))⟩,
     ⟨(some 20), .load1, [.t 19], (some (15, false))⟩,
     ⟨(some 21), .lenL, [.t 20], (some (15, false))⟩,
     ⟨(some 22), .fadr 0, [.t 2], (some (15, false))⟩,
     ⟨(some 23), .load1, [.t 22], (some (15, false))⟩,
     ⟨(some 24), .mov, [.t 1], (some (15, false))⟩,
     ⟨(some 25), .mov, [.t 4], (some (15, false))⟩,
     ⟨(some 26), .iadr 4, [.t 24, .t 25], (some (15, false))⟩,
     ⟨(some 27), .fadr 0, [.t 26], (some (15, false))⟩,
     ⟨(some 28), .load1, [.t 27], (some (15, false))⟩,
     ⟨(some 29), .iadr 2, [.t 23, .t 28], (some (15, false))⟩,
     ⟨(some 30), .fadr 0, [.t 29], (some (15, false))⟩,
     ⟨(some 31), .load1, [.t 30], (some (15, false))⟩,
     ⟨(some 32), .binI .neq, [.t 21, .t 31], (some (15, false))⟩,
     ⟨(some 5), .pick, [.t 15, .c (.bool true), .t 32], none⟩]
     [.op 0, .op 1, .op 2, .op 3, .op 4, .op 5, .op 6, .op 7, .op 8, .op 9, .op 10, .op 11, .op 12, .op 13, .op 14, .op 15, .op 16, .op 17, .op 18, .op 19, .op 20, .op 21, .op 22, .op 23, .op 24, .op 25, .op 26, .op 27]) <|
    .cond (.t 5)
     (.seq (.reg [
      .set 3 (.op (some 4) .mov [(.k (.bool false))])]) <|
     .ret)
     (.skip)) <|
   .reg [
    .set 4 (.op (some 5) .mov [(.op (some 26) (.binI .add) [(.v 4 (some 25)), (.k (.int .i64 1))])])]) <|
 .seq (.reg [
  .set 3 (.op (some 4) .mov [(.k (.bool true))])]) <|
 .ret
/- sleuth/sleuthref12.stands -/
def s301 : SFn := .src 31 [0, 1, 2, 4] [.tmp 3] <|
 .seq (.reg [
  .set 2 (.op (some 2) (.box 0) [(.v 0 none)]),
  .set 3 (.op (some 4) .mov [(.k (.bool false))])]) <|
 .seq (.reg [
  .set 3 (.op (some 4) .mov [(.and 11 30 (.and 7 10 (.op (some 6) (.binI .lss) [(.v 1 (some 5)), (.k (.int .i64 512))]) (.op (some 9) (.call 296) [(.op (some 8) (.loadN 4) [(.v 2 none)])])) (.or 19 29 (.and 14 18 (.op (some 13) (.binI .eql) [(.v 1 (some 12)), (.k (.int .i64 0))]) (.op (some 17) (.binI .eql) [(.op (some 16) .load1 [(.op (some 15) (.fadr 1) [(.v 2 none)])]), (.k (.int .i64 (-1)))])) (.and 22 28 (.op (some 21) (.binI .gtr) [(.v 1 (some 20)), (.k (.int .i64 0))]) (.op (some 27) (.call 297) [(.op (some 24) .load1 [(.op (some 23) (.fadr 1) [(.v 2 none)])]), (.k (.int .i64 0)), (.op (some 26) (.binI .sub) [(.v 1 (some 25)), (.k (.int .i64 1))])]))))])]) <|
 .ret
end Am.T
