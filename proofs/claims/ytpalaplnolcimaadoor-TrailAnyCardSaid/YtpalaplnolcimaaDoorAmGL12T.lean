/- Functions of the program, as the abstract machine has them. -/
import Derived.Test.YtpalaplnolcimaaDoorAmJc
namespace Am.T
open Go
/- sleuth/sleuthlaw12.TrailForms -/
def s250 : SFn := .src 123 [0, 1, 4, 5, 6, 7, 16, 18, 42, 49, 56, 63, 70, 77] [.tmp 2] <|
 .seq (.reg [
  .set 2 (.op (some 4) .mov [(.k (.bool false))])]) <|
 .seq (.ifr [] (.op (some 9) .notB [(.op (some 8) (.call 259) [])])
  (.seq (.reg [
   .set 2 (.op (some 4) .mov [(.k (.bool false))])]) <|
  .ret)
  (.skip)) <|
 .seq (.reg [
  .set 3 (.op (some 5) .mov [(.op (some 12) (.binI .add) [(.k (.int .i64 1)), (.op (some 11) (.binI .and) [(.v 1 (some 10)), (.k (.int .i64 1023))])])])]) <|
 .seq (.reg [
  .set 4 (.op (some 6) .mov [(.op (some 13) (.call 260) [])])]) <|
 .seq (.seq (.reg [
  .set 6 (.op (some 16) (.binI .rem) [(.op (some 15) (.conv .u64) [(.v 0 (some 14))]), (.k (.int .u64 12))])]) <|
 .block 0 <|
  .ifr [] (.op (some 33) .mov [(.op (some 34) (.binI .eql) [(.v 6 none), (.k (.int .u64 0))])])
   (.reg [
    .set 4 (.op (some 6) .mov [(.k .nils)])])
   (.ifr [] (.op (some 35) .mov [(.op (some 36) (.binI .eql) [(.v 6 none), (.k (.int .u64 1))])])
    (.reg [
     .ef (.op none (.store 1) [(.op (some 39) (.fadr 1) [(.op (some 38) (.iadr 4) [(.v 4 (some 37)), (.k (.int .i64 0))])]), (.k (.int .i64 0))])])
    (.ifr [] (.op (some 40) .mov [(.op (some 41) (.binI .eql) [(.v 6 none), (.k (.int .u64 2))])])
     (.reg [
      .set 8 (.op (some 42) .mov [(.v 4 none)]),
      .ef (.opr none (.store 1) (.op (some 46) (.fadr 1) [(.op (some 45) (.iadr 4) [(.v 8 none), (.k (.int .i64 0))])]) (.op (some 44) (.binI .sub) [(.k (.int .i64 (-1))), (.v 3 (some 43))]))])
     (.ifr [] (.op (some 47) .mov [(.op (some 48) (.binI .eql) [(.v 6 none), (.k (.int .u64 3))])])
      (.reg [
       .set 9 (.op (some 49) .mov [(.v 4 none)]),
       .ef (.opr none (.store 1) (.op (some 53) (.fadr 1) [(.op (some 52) (.iadr 4) [(.v 9 none), (.k (.int .i64 3))])]) (.op (some 51) .negI [(.v 3 (some 50))]))])
      (.ifr [] (.op (some 54) .mov [(.op (some 55) (.binI .eql) [(.v 6 none), (.k (.int .u64 4))])])
       (.reg [
        .set 10 (.op (some 56) .mov [(.v 4 none)]),
        .ef (.opr none (.store 1) (.op (some 60) (.fadr 1) [(.op (some 59) (.iadr 4) [(.v 10 none), (.k (.int .i64 3))])]) (.op (some 58) (.binI .add) [(.k (.int .i64 2)), (.v 3 (some 57))]))])
       (.ifr [] (.op (some 61) .mov [(.op (some 62) (.binI .eql) [(.v 6 none), (.k (.int .u64 5))])])
        (.reg [
         .set 11 (.op (some 63) .mov [(.v 4 none)]),
         .ef (.opr none (.store 1) (.op (some 67) (.fadr 0) [(.op (some 66) (.iadr 4) [(.v 11 none), (.k (.int .i64 3))])]) (.op (some 65) .negI [(.v 3 (some 64))]))])
        (.ifr [] (.op (some 68) .mov [(.op (some 69) (.binI .eql) [(.v 6 none), (.k (.int .u64 6))])])
         (.reg [
          .set 12 (.op (some 70) .mov [(.v 4 none)]),
          .ef (.opr none (.store 1) (.op (some 74) (.fadr 0) [(.op (some 73) (.iadr 4) [(.v 12 none), (.k (.int .i64 3))])]) (.op (some 72) (.binI .add) [(.k (.int .i64 7)), (.v 3 (some 71))]))])
         (.ifr [] (.op (some 75) .mov [(.op (some 76) (.binI .eql) [(.v 6 none), (.k (.int .u64 7))])])
          (.reg [
           .set 13 (.op (some 77) .mov [(.v 4 none)]),
           .ef (.opr none (.store 1) (.op (some 80) (.fadr 2) [(.op (some 79) (.iadr 4) [(.v 13 none), (.k (.int .i64 3))])]) (.op (some 78) (.bslice 0 [(.str []), (.str []), (.str []), (.str [])] 4 [(0, 1), (1, 1), (2, 1), (3, 1)]) [(.k (.str [49])), (.k (.str [50])), (.k (.str [51])), (.k (.str [52]))]))])
          (.ifr [] (.op (some 81) .mov [(.op (some 82) (.binI .eql) [(.v 6 none), (.k (.int .u64 8))])])
           (.dreg [83, 84, 85, 86, 87, 88, 89, 90, 91, 92] [
            ⟨(some 14), .mov, [.t 4], none⟩,
            ⟨(some 15), .iadr 4, [.t 14, .c (.int .i64 3)], none⟩,
            ⟨(some 16), .fadr 2, [.t 15], none⟩,
            ⟨(some 17), .load1, [.t 16], none⟩,
            ⟨(some 18), .bslice 0 [(.str []), (.str []), (.str []), (.str [])] 4 [(0, 1), (1, 1), (2, 1), (3, 1)], [.c (.str []), .c (.str [48, 49]), .c (.str [120]), .c (.str [64, 49, 40, 41])], none⟩,
            ⟨(some 19), .mov, [.t 1], none⟩,
            ⟨(some 20), .binI .and, [.t 19, .c (.int .i64 3)], none⟩,
            ⟨(some 21), .iadr 1, [.t 18, .t 20], none⟩,
            ⟨(some 22), .load1, [.t 21], none⟩,
            ⟨(some 23), .iadr 1, [.t 17, .c (.int .i64 1)], none⟩,
            ⟨none, .store 1, [.t 23, .t 22], none⟩]
            [.op 0, .op 1, .op 2, .op 3, .op 5, .op 6, .op 4, .chk 3, .op 7, .op 8, .op 9, .op 10])
           (.ifr [] (.op (some 93) .mov [(.op (some 94) (.binI .eql) [(.v 6 none), (.k (.int .u64 9))])])
            (.reg [
             .ef (.op none (.store 1) [(.op (some 97) (.fadr 3) [(.op (some 96) (.iadr 4) [(.v 4 (some 95)), (.k (.int .i64 3))])]), (.k (.str []))])])
            (.ifr [] (.op (some 98) .mov [(.op (some 99) (.binI .eql) [(.v 6 none), (.k (.int .u64 10))])])
             (.reg [
              .ef (.op none (.store 1) [(.op (some 102) (.fadr 3) [(.op (some 101) (.iadr 4) [(.v 4 (some 100)), (.k (.int .i64 0))])]), (.k (.str [64, 49, 48, 48]))])])
             (.seq (.reg [
              .set 7 (.op (some 18) (.binI .add) [(.k (.int .i64 512)), (.v 3 (some 17))]),
              .set 4 (.op (some 6) .mov [(.op (some 19) (.mkslice 0 [(.int .i64 0), (.int .i64 0), .nils, (.str [])] 56) [(.v 7 none), (.v 7 none)])])]) <|
             .seq (.seq (.reg [
              .set 5 (.op (some 7) .mov [(.k (.int .i64 0))])]) <|
             .block 1 <|
              .loop [4, 5] <|
               .seq (.ifr [] (.op (some 23) (.binI .lss) [(.v 5 (some 20)), (.op (some 22) .lenL [(.v 4 (some 21))])])
                (.skip)
                (.exit 1)) <|
               .seq (.block 2 <|
                .reg [
                 .ef (.op none (.store 1) [(.op (some 29) (.fadr 3) [(.op (some 28) (.iadr 4) [(.v 4 (some 26)), (.v 5 (some 27))])]), (.k (.str [49]))])]) <|
               .reg [
                .set 5 (.op (some 7) .mov [(.op (some 25) (.binI .add) [(.v 5 (some 24)), (.k (.int .i64 1))])])]) <|
             .reg [
              .ef (.op none (.store 1) [(.op (some 32) (.fadr 1) [(.op (some 31) (.iadr 4) [(.v 4 (some 30)), (.k (.int .i64 0))])]), (.k (.int .i64 (-1)))])])))))))))))) <|
 .seq (.reg [
  .set 2 (.op (some 4) .mov [(.and 120 122 (.and 116 119 (.and 110 115 (.and 105 109 (.op (some 104) (.call 261) [(.op (some 103) (.call 260) [])]) (.op (some 108) .notB [(.op (some 107) (.call 261) [(.v 4 (some 106))])])) (.op (some 114) .notB [(.op (some 113) (.call 262) [(.op (some 111) (.call 263) []), (.v 4 (some 112))])])) (.op (some 118) (.binI .eql) [(.op (some 117) (.call 16) [(.k (.int .i64 0))]), (.k (.int .i64 0))])) (.op (some 121) (.call 41) [(.k (.int .i64 0))]))])]) <|
 .ret
/- sleuth/sleuthlaw12.TrailCut -/
def s293 : SFn := .src 56 [0, 1, 2, 3, 6, 7] [.tmp 4] <|
 .seq (.reg [
  .set 3 (.op (some 3) (.box 0) [(.v 0 none)]),
  .set 4 (.op (some 6) .mov [(.k (.bool false))])]) <|
 .seq (.ifr [] (.op (some 9) .notB [(.op (some 8) (.call 259) [])])
  (.seq (.reg [
   .set 4 (.op (some 6) .mov [(.k (.bool false))])]) <|
  .ret)
  (.skip)) <|
 .seq (.ifr [] (.op (some 12) (.binI .eql) [(.op (some 11) .lenL [(.v 1 (some 10))]), (.k (.int .i64 0))])
  (.seq (.reg [
   .set 4 (.op (some 6) .mov [(.and 16 21 (.op (some 15) .notB [(.op (some 14) (.call 261) [(.v 1 (some 13))])]) (.op (some 20) .notB [(.op (some 19) (.call 262) [(.op (some 17) (.loadN 1) [(.v 3 none)]), (.v 1 (some 18))])]))])]) <|
  .ret)
  (.skip)) <|
 .seq (.reg [
  .set 5 (.op (some 7) .mov [(.op (some 29) (.binI .add) [(.k (.int .i64 1)), (.op (some 28) (.conv .i64) [(.op (some 27) (.binI .rem) [(.op (some 23) (.conv .u64) [(.v 2 (some 22))]), (.op (some 26) (.conv .u64) [(.op (some 25) .lenL [(.v 1 (some 24))])])])])])])]) <|
 .seq (.dreg [30, 31, 32, 33, 34, 35, 36, 37, 38, 39, 40, 41, 42, 43, 44, 45, 46, 47, 48, 49, 50, 51, 52, 53, 54, 55] [
  ⟨(some 6), .mov, [.t 1], none⟩,
  ⟨(some 7), .call 261, [.t 6], none⟩,
  ⟨(some 8), .notB, [.t 7], none⟩,
  ⟨(some 9), .mov, [.t 8], none⟩,
  ⟨(some 10), .mov, [.t 1], (some (9, false))⟩,
  ⟨(some 11), .mov, [.t 5], (some (9, false))⟩,
  ⟨(some 12), .slL 4 false true false, [.t 10, .t 11], (some (9, false))⟩,
  ⟨(some 13), .call 261, [.t 12], (some (9, false))⟩,
  ⟨(some 14), .pick, [.t 9, .c (.bool true), .t 13], none⟩,
  ⟨(some 15), .mov, [.t 14], none⟩,
  ⟨(some 16), .loadN 1, [.t 3], (some (15, true))⟩,
  ⟨(some 17), .mov, [.t 1], (some (15, true))⟩,
  ⟨(some 18), .call 262, [.t 16, .t 17], (some (15, true))⟩,
  ⟨(some 19), .notB, [.t 18], (some (15, true))⟩,
  ⟨(some 20), .mov, [.t 19], (some (15, true))⟩,
  ⟨(some 21), .loadN 1, [.t 3], (some (20, false))⟩,
  ⟨(some 22), .mov, [.t 1], (some (20, false))⟩,
  ⟨(some 23), .mov, [.t 5], (some (20, false))⟩,
  ⟨(some 24), .slL 4 false true false, [.t 22, .t 23], (some (20, false))⟩,
  ⟨(some 25), .call 262, [.t 21, .t 24], (some (20, false))⟩,
  ⟨(some 26), .mov, [.t 25], (some (20, false))⟩,
  ⟨(some 27), .mov, [.t 1], (some (26, true))⟩,
  ⟨(some 28), .call 261, [.t 27], (some (26, true))⟩,
  ⟨(some 29), .pick, [.t 26, .t 28, .c (.bool false)], (some (20, false))⟩,
  ⟨(some 30), .pick, [.t 20, .c (.bool true), .t 29], (some (15, true))⟩,
  ⟨(some 31), .pick, [.t 15, .t 30, .c (.bool false)], none⟩,
  ⟨(some 4), .mov, [.t 31], none⟩]
  [.op 0, .op 1, .op 2, .op 3, .op 4, .op 5, .op 6, .op 7, .op 8, .op 9, .op 10, .op 11, .op 12, .op 13, .op 14, .op 15, .op 16, .op 17, .op 18, .op 19, .op 20, .op 21, .op 22, .op 23, .op 24, .op 25, .op 26]) <|
 .ret
/- sleuth/sleuthlaw12.TrailAny -/
def s294 : SFn := .src 61 [0, 1, 4, 5, 6] [.tmp 2] <|
 .seq (.reg [
  .set 2 (.op (some 4) .mov [(.k (.bool false))])]) <|
 .seq (.ifr [] (.op (some 8) .notB [(.op (some 7) (.call 259) [])])
  (.seq (.reg [
   .set 2 (.op (some 4) .mov [(.k (.bool false))])]) <|
  .ret)
  (.skip)) <|
 .seq (.reg [
  .set 3 (.op (some 5) .mov [(.op (some 12) (.bslice 0 [(.int .i64 0), (.int .i64 0), .nils, (.str [])] 1 [(0, 4)]) [(.op (some 11) (.build [(.int .i64 0), (.int .i64 0), .nils, (.str [])] [(1, 1), (0, 1), (3, 1)]) [(.k (.int .i64 (-1))), (.op (some 10) (.binI .and) [(.v 1 (some 9)), (.k (.int .i64 7))]), (.k (.str [49]))])])])]) <|
 .seq (.seq (.reg [
  .set 4 (.op (some 6) .mov [(.k (.int .i64 0))])]) <|
 .block 0 <|
  .loop [0, 1, 3, 4] <|
   .seq (.ifr [] (.and 17 20 (.op (some 16) (.binI .lss) [(.v 4 (some 13)), (.op (some 15) .lenL [(.v 0 (some 14))])]) (.op (some 19) (.binI .lss) [(.v 4 (some 18)), (.k (.int .i64 40))]))
    (.skip)
    (.exit 0)) <|
   .seq (.block 1 <|
    .reg [
     .set 3 (.op (some 5) .mov [(.op (some 36) (.app 0 4 56) [(.v 3 (some 23)), (.op (some 35) (.bslice 0 [(.int .i64 0), (.int .i64 0), .nils, (.str [])] 1 [(0, 4)]) [(.op (some 34) (.build [(.int .i64 0), (.int .i64 0), .nils, (.str [])] [(1, 1), (3, 1)]) [(.op (some 33) (.conv .i64) [(.op (some 32) (.binI .rem) [(.op (some 28) (.conv .u64) [(.op (some 27) .load1 [(.op (some 26) (.iadr 1) [(.v 0 (some 24)), (.v 4 (some 25))])])]), (.op (some 31) (.conv .u64) [(.op (some 30) (.binI .add) [(.v 4 (some 29)), (.k (.int .i64 1))])])])]), (.k (.str [95]))])])])])]) <|
   .reg [
    .set 4 (.op (some 6) .mov [(.op (some 22) (.binI .add) [(.v 4 (some 21)), (.k (.int .i64 1))])])]) <|
 .seq (.reg [
  .set 2 (.op (some 4) .mov [(.and 56 60 (.and 52 55 (.and 43 51 (.and 39 42 (.op (some 38) (.binI .eql) [(.op (some 37) (.call 16) [(.k (.int .i64 0))]), (.k (.int .i64 0))]) (.op (some 41) (.call 261) [(.v 3 (some 40))])) (.op (some 50) (.eqB false) [(.op (some 46) (.call 262) [(.op (some 44) (.call 263) []), (.v 3 (some 45))]), (.op (some 49) (.binI .eql) [(.op (some 48) (.binI .and) [(.v 1 (some 47)), (.k (.int .i64 7))]), (.k (.int .i64 0))])])) (.op (some 54) (.call 149) [(.op (some 53) (.call 263) [])])) (.op (some 59) (.binI .eql) [(.op (some 58) .lenL [(.op (some 57) (.call 260) [])]), (.k (.int .i64 5))]))])]) <|
 .ret
end Am.T
