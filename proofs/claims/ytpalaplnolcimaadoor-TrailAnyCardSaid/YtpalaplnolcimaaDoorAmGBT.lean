/- Functions of the program, as the abstract machine has them. -/
import Derived.Test.YtpalaplnolcimaaDoorAmJc
namespace Am.T
open Go
/- sleuth/sleuthlaw0.SameNode -/
def s166 : SFn := .src 31 [0, 1, 2, 3, 4] [.tmp 4] <|
 .seq (.reg [
  .set 2 (.op (some 2) (.box 0) [(.v 0 none)]),
  .set 3 (.op (some 3) (.box 0) [(.v 1 none)]),
  .set 4 (.op (some 4) .mov [(.k (.bool false))])]) <|
 .seq (.reg [
  .set 4 (.op (some 4) .mov [(.and 24 30 (.and 17 23 (.and 10 16 (.op (some 9) (.binI .eql) [(.op (some 6) .load1 [(.op (some 5) (.fadr 0) [(.v 2 none)])]), (.op (some 8) .load1 [(.op (some 7) (.fadr 0) [(.v 3 none)])])]) (.op (some 15) (.binI .eql) [(.op (some 12) .load1 [(.op (some 11) (.fadr 1) [(.v 2 none)])]), (.op (some 14) .load1 [(.op (some 13) (.fadr 1) [(.v 3 none)])])])) (.op (some 22) (.call 15) [(.op (some 19) .load1 [(.op (some 18) (.fadr 2) [(.v 2 none)])]), (.op (some 21) .load1 [(.op (some 20) (.fadr 2) [(.v 3 none)])])])) (.op (some 29) (.binS .eql) [(.op (some 26) .load1 [(.op (some 25) (.fadr 3) [(.v 2 none)])]), (.op (some 28) .load1 [(.op (some 27) (.fadr 3) [(.v 3 none)])])]))])]) <|
 .ret
/- sleuth/sleuthlaw0.CopyNodes -/
def s244 : SFn := .src 26 [0, 2, 3, 4, 5, 15] [.tmp 1] <|
 .seq (.reg [
  .set 1 (.op (some 2) .mov [(.k .nils)])]) <|
 .seq (.reg [
  .set 2 (.op (some 3) .mov [(.k .nils)])]) <|
 .seq (.seq (.reg [
  .set 3 (.op (some 4) .mov [(.k (.int .i64 0))])]) <|
 .block 0 <|
  .loop [0, 2, 3] <|
   .seq (.ifr [] (.op (some 9) (.binI .lss) [(.v 3 (some 6)), (.op (some 8) .lenL [(.v 0 (some 7))])])
    (.skip)
    (.exit 0)) <|
   .seq (.block 1 <|
    .seq (.reg [
     .set 5 (.op (some 15) (.loadN 4) [(.op (some 14) (.iadr 4) [(.v 0 (some 12)), (.v 3 (some 13))])]),
     .set 4 (.op (some 5) (.alloc 0 [(.int .i64 0), (.int .i64 0), .nils, (.str [])]) []),
     .ef (.op none (.store 4) [(.v 4 none), (.v 5 none)])]) <|
    .seq (.reg [
     .ef (.opr none (.store 1) (.op (some 20) (.fadr 2) [(.v 4 none)]) (.op (some 19) (.app 0 1 16) [(.op (some 16) (.bslice 0 [] 0 []) []), (.op (some 18) .load1 [(.op (some 17) (.fadr 2) [(.v 4 none)])])]))]) <|
    .reg [
     .set 2 (.op (some 3) .mov [(.op (some 24) (.app 0 4 56) [(.v 2 (some 21)), (.op (some 23) (.bslice 0 [(.int .i64 0), (.int .i64 0), .nils, (.str [])] 1 [(0, 4)]) [(.op (some 22) (.loadN 4) [(.v 4 none)])])])])]) <|
   .reg [
    .set 3 (.op (some 4) .mov [(.op (some 11) (.binI .add) [(.v 3 (some 10)), (.k (.int .i64 1))])])]) <|
 .seq (.reg [
  .set 1 (.op (some 2) .mov [(.v 2 (some 25))])]) <|
 .ret
/- sleuth/equation.Text -/
def s258 : SFn := .src 21 [0, 1, 2, 3, 4] [.tmp 2, .tmp 3] <|
 .seq (.reg [
  .set 1 (.op (some 1) (.box 0) [(.v 0 none)]),
  .set 2 (.op (some 2) .mov [(.k (.str []))]),
  .set 3 (.op (some 3) .mov [(.k (.int .i64 0))])]) <|
 .seq (.ifr [] (.op (some 6) .notB [(.op (some 5) (.call 269) [(.v 1 none)])])
  (.seq (.reg [
   .set 2 (.op (some 2) .mov [(.k (.str []))]),
   .set 3 (.op (some 3) .mov [(.k (.int .i64 1400))])]) <|
  .ret)
  (.skip)) <|
 .seq (.dreg [7, 8, 9, 10, 11, 12, 13, 14] [
  ⟨(some 5), .fadr 0, [.t 1], none⟩,
  ⟨(some 6), .load1, [.t 5], none⟩,
  ⟨(some 7), .call 29, [.t 6], none⟩,
  ⟨(some 8), .binS .add, [.c (.str [102]), .t 7], none⟩,
  ⟨(some 9), .bslice 0 [(.str [])] 1 [(0, 1)], [.t 8], none⟩,
  ⟨(some 10), .fadr 2, [.t 1], none⟩,
  ⟨(some 11), .load1, [.t 10], none⟩,
  ⟨(some 12), .app 0 1 16, [.t 9, .t 11], none⟩,
  ⟨(some 4), .mov, [.t 12], none⟩]
  [.op 0, .op 1, .op 5, .op 6, .op 2, .chk 6, .op 3, .op 4, .chk 6, .op 7, .op 8]) <|
 .seq (.reg [
  .set 2 (.op (some 2) .mov [(.op (some 20) (.call 42) [(.op (some 19) (.app 0 1 16) [(.v 4 (some 15)), (.op (some 18) (.bslice 0 [(.str []), (.str [])] 2 [(0, 1), (1, 1)]) [(.k (.str [61])), (.op (some 17) .load1 [(.op (some 16) (.fadr 3) [(.v 1 none)])])])]), (.k (.str [32]))])]),
  .set 3 (.op (some 3) .mov [(.k (.int .i64 0))])]) <|
 .ret
/- sleuth/trail.Equation -/
def s269 : SFn := .src 37 [0, 2] [.tmp 1] <|
 .seq (.reg [
  .set 1 (.op (some 2) .mov [(.k (.bool false))])]) <|
 .seq (.reg [
  .set 1 (.op (some 2) .mov [(.and 30 36 (.and 23 29 (.and 15 22 (.and 8 14 (.op (some 7) (.binI .geq) [(.op (some 6) .load1 [(.op (some 5) (.fadr 0) [(.op (some 4) .nilCheck [(.v 0 (some 3))])])]), (.k (.int .i64 0))]) (.op (some 13) (.binI .lss) [(.op (some 12) .load1 [(.op (some 11) (.fadr 0) [(.op (some 10) .nilCheck [(.v 0 (some 9))])])]), (.k (.int .i64 8))])) (.op (some 21) (.binI .leq) [(.op (some 20) .lenL [(.op (some 19) .load1 [(.op (some 18) (.fadr 2) [(.op (some 17) .nilCheck [(.v 0 (some 16))])])])]), (.k (.int .i64 3))])) (.op (some 28) (.call 26) [(.op (some 27) .load1 [(.op (some 26) (.fadr 2) [(.op (some 25) .nilCheck [(.v 0 (some 24))])])])])) (.op (some 35) (.call 17) [(.op (some 34) .load1 [(.op (some 33) (.fadr 3) [(.op (some 32) .nilCheck [(.v 0 (some 31))])])])]))])]) <|
 .ret
/- sleuth/sleuthref12.Equation -/
def s295 : SFn := .src 33 [0, 1, 2, 3, 4, 5] [.tmp 2, .tmp 3] <|
 .seq (.reg [
  .set 1 (.op (some 1) (.box 0) [(.v 0 none)]),
  .set 2 (.op (some 2) .mov [(.k (.str []))]),
  .set 3 (.op (some 3) .mov [(.k (.int .i64 0))])]) <|
 .seq (.ifr [] (.op (some 8) .notB [(.op (some 7) (.call 296) [(.op (some 6) (.loadN 4) [(.v 1 none)])])])
  (.seq (.reg [
   .set 2 (.op (some 2) .mov [(.k (.str []))]),
   .set 3 (.op (some 3) .mov [(.k (.int .i64 1400))])]) <|
  .ret)
  (.skip)) <|
 .seq (.reg [
  .set 4 (.op (some 4) .mov [(.op (some 12) (.binS .add) [(.k (.str [102])), (.op (some 11) (.call 22) [(.op (some 10) .load1 [(.op (some 9) (.fadr 0) [(.v 1 none)])])])])])]) <|
 .seq (.seq (.reg [
  .set 5 (.op (some 5) .mov [(.k (.int .i64 0))])]) <|
 .block 0 <|
  .loop [1, 4, 5] <|
   .seq (.ifr [] (.op (some 17) (.binI .lss) [(.v 5 (some 13)), (.op (some 16) .lenL [(.op (some 15) .load1 [(.op (some 14) (.fadr 2) [(.v 1 none)])])])])
    (.skip)
    (.exit 0)) <|
   .seq (.block 1 <|
    .reg [
     .set 4 (.op (some 4) .mov [(.op (some 27) (.binS .add) [(.op (some 21) (.binS .add) [(.v 4 (some 20)), (.k (.str [32]))]), (.op (some 26) .load1 [(.op (some 25) (.iadr 1) [(.op (some 23) .load1 [(.op (some 22) (.fadr 2) [(.v 1 none)])]), (.v 5 (some 24))])])])])]) <|
   .reg [
    .set 5 (.op (some 5) .mov [(.op (some 19) (.binI .add) [(.v 5 (some 18)), (.k (.int .i64 1))])])]) <|
 .seq (.reg [
  .set 2 (.op (some 2) .mov [(.op (some 32) (.binS .add) [(.op (some 29) (.binS .add) [(.v 4 (some 28)), (.k (.str [32, 61, 32]))]), (.op (some 31) .load1 [(.op (some 30) (.fadr 3) [(.v 1 none)])])])]),
  .set 3 (.op (some 3) .mov [(.k (.int .i64 0))])]) <|
 .ret
/- sleuth/sleuthref12.texts -/
def s296 : SFn := .src 32 [0, 1, 2, 3] [.tmp 2] <|
 .seq (.reg [
  .set 1 (.op (some 1) (.box 0) [(.v 0 none)]),
  .set 2 (.op (some 2) .mov [(.k (.bool false))])]) <|
 .seq (.seq (.reg [
  .set 3 (.op (some 3) .mov [(.k (.int .i64 0))])]) <|
 .block 0 <|
  .loop [1, 3] <|
   .seq (.ifr [] (.op (some 8) (.binI .lss) [(.v 3 (some 4)), (.op (some 7) .lenL [(.op (some 6) .load1 [(.op (some 5) (.fadr 2) [(.v 1 none)])])])])
    (.skip)
    (.exit 0)) <|
   .seq (.block 1 <|
    .ifr [] (.op (some 17) .notB [(.op (some 16) (.call 18) [(.op (some 15) .load1 [(.op (some 14) (.iadr 1) [(.op (some 12) .load1 [(.op (some 11) (.fadr 2) [(.v 1 none)])]), (.v 3 (some 13))])])])])
     (.seq (.reg [
      .set 2 (.op (some 2) .mov [(.k (.bool false))])]) <|
     .ret)
     (.skip)) <|
   .reg [
    .set 3 (.op (some 3) .mov [(.op (some 10) (.binI .add) [(.v 3 (some 9)), (.k (.int .i64 1))])])]) <|
 .seq (.reg [
  .set 2 (.op (some 2) .mov [(.and 27 31 (.and 21 26 (.op (some 20) (.call 297) [(.op (some 19) .load1 [(.op (some 18) (.fadr 0) [(.v 1 none)])]), (.k (.int .i64 0)), (.k (.int .i64 7))]) (.op (some 25) (.binI .leq) [(.op (some 24) .lenL [(.op (some 23) .load1 [(.op (some 22) (.fadr 2) [(.v 1 none)])])]), (.k (.int .i64 3))])) (.op (some 30) (.call 18) [(.op (some 29) .load1 [(.op (some 28) (.fadr 3) [(.v 1 none)])])]))])]) <|
 .ret
/- sleuth/sleuthref12.upTo -/
def s297 : SFn := .src 15 [0, 1, 2, 6] [.tmp 3] <|
 .seq (.reg [
  .set 3 (.op (some 6) .mov [(.k (.bool false))])]) <|
 .seq (.reg [
  .set 3 (.op (some 6) .mov [(.and 10 14 (.op (some 9) (.binI .geq) [(.v 0 (some 7)), (.v 1 (some 8))]) (.op (some 13) (.binI .leq) [(.v 0 (some 11)), (.v 2 (some 12))]))])]) <|
 .ret
end Am.T
