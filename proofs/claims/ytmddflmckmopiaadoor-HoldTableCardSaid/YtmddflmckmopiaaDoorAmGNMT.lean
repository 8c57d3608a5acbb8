/- Functions of the program, as the abstract machine has them. -/
import Derived.Test.YtmddflmckmopiaaDoorAmJc
namespace Am.T
open Go
/- sleuth/name.Head -/
def s155 : SFn := .src 36 [0, 1, 2, 3, 4, 8, 9, 10, 11, 12, 13, 14, 15, 21, 22, 23, 26, 30, 31, 34] [.tmp 5, .tmp 6] <|
 .seq (.reg [
  .set 4 (.op (some 4) (.box 0) [(.v 0 none)]),
  .set 5 (.op (some 8) .mov [(.k (.str []))]),
  .set 6 (.op (some 9) .mov [(.k (.int .i64 0))])]) <|
 .seq (.reg [
  .set 12 (.op (some 15) .mov [(.op (some 20) (.call 181) [(.op (some 16) (.loadN 1) [(.v 4 none)]), (.v 1 (some 17)), (.v 2 (some 18)), (.v 3 (some 19))])]),
  .set 13 (.op (some 21) (.ext 0) [(.v 12 none)]),
  .set 14 (.op (some 22) (.ext 1) [(.v 12 none)]),
  .set 15 (.op (some 23) (.ext 2) [(.v 12 none)]),
  .set 8 (.op (some 11) (.alloc 0 [(.str []), .nils, (.int .i64 0), .nils]) []),
  .set 7 (.op (some 10) .mov [(.v 13 none)]),
  .ef (.op none (.store 4) [(.v 8 none), (.v 14 none)]),
  .set 9 (.op (some 12) .mov [(.v 15 none)])]) <|
 .seq (.ifr [] (.op (some 25) .notB [(.v 9 (some 24))])
  (.seq (.reg [
   .set 5 (.op (some 8) .mov [(.k (.str []))]),
   .set 6 (.op (some 9) .mov [(.k (.int .i64 900))])]) <|
  .ret)
  (.skip)) <|
 .seq (.reg [
  .set 16 (.op (some 26) .mov [(.op (some 29) (.call 184) [(.v 7 (some 27)), (.op (some 28) (.loadN 4) [(.v 8 none)])])]),
  .set 17 (.op (some 30) (.ext 0) [(.v 16 none)]),
  .set 18 (.op (some 31) (.ext 1) [(.v 16 none)]),
  .set 10 (.op (some 13) (.alloc 0 [(.int .i64 0), (.int .i64 0), .nils]) []),
  .ef (.op none (.store 3) [(.v 10 none), (.v 17 none)]),
  .set 11 (.op (some 14) .mov [(.v 18 none)])]) <|
 .seq (.ifr [] (.op (some 33) (.binI .neq) [(.v 11 (some 32)), (.k (.int .i64 0))])
  (.seq (.reg [
   .set 19 (.op (some 34) .mov [(.v 11 none)]),
   .set 5 (.op (some 8) .mov [(.k (.str []))]),
   .set 6 (.op (some 9) .mov [(.v 19 none)])]) <|
  .ret)
  (.skip)) <|
 .seq (.reg [
  .set 5 (.op (some 8) .mov [(.op (some 35) (.call 185) [(.v 10 none)])]),
  .set 6 (.op (some 9) .mov [(.k (.int .i64 0))])]) <|
 .ret
/- sleuth/name.New -/
def s181 : SFn := .src 76 [0, 1, 2, 3, 4, 8, 9, 10, 11, 12, 14, 53, 59, 60, 61, 62, 71, 75] [.tmp 5, .cellN 6 4, .tmp 7] <|
 .seq (.reg [
  .set 4 (.op (some 4) (.box 0) [(.v 0 none)]),
  .set 5 (.op (some 8) .mov [(.k .nilp)]),
  .set 6 (.op (some 9) (.alloc 0 [(.str []), .nils, (.int .i64 0), .nils]) []),
  .set 7 (.op (some 10) .mov [(.k (.bool false))])]) <|
 .seq (.ifr [] (.or 49 52 (.or 45 48 (.or 40 44 (.or 29 39 (.or 22 28 (.or 18 21 (.op (some 17) .notB [(.op (some 16) (.call 157) [(.op (some 15) (.loadN 1) [(.v 4 none)])])]) (.op (some 20) (.binI .lss) [(.v 1 (some 19)), (.k (.int .i64 0))])) (.op (some 27) (.binI .geq) [(.v 1 (some 23)), (.op (some 26) .lenL [(.op (some 25) .load1 [(.op (some 24) (.fadr 0) [(.v 4 none)])])])])) (.op (some 38) (.binI .neq) [(.op (some 31) .lenL [(.v 2 (some 30))]), (.op (some 37) .load1 [(.op (some 36) (.fadr 0) [(.op (some 35) (.iadr 2) [(.op (some 33) .load1 [(.op (some 32) (.fadr 0) [(.v 4 none)])]), (.v 1 (some 34))])])])])) (.op (some 43) .notB [(.op (some 42) (.call 26) [(.v 2 (some 41))])])) (.op (some 47) (.binI .lss) [(.v 3 (some 46)), (.k (.int .i64 0))])) (.op (some 51) (.binI .gtr) [(.v 3 (some 50)), (.k (.int .i64 400))]))
  (.seq (.reg [
   .set 11 (.op (some 53) (.build [(.str []), .nils, (.int .i64 0), .nils] []) []),
   .set 5 (.op (some 8) .mov [(.k .nilp)]),
   .ef (.op none (.store 4) [(.v 6 none), (.v 11 none)]),
   .set 7 (.op (some 10) .mov [(.k (.bool false))])]) <|
  .ret)
  (.skip)) <|
 .seq (.reg [
  .set 8 (.op (some 11) .mov [(.op (some 58) (.box 0) [(.op (some 57) (.build [.nils, (.int .i64 0)] [(0, 1), (1, 1)]) [(.op (some 55) .load1 [(.op (some 54) (.fadr 0) [(.v 4 none)])]), (.v 3 (some 56))])])])]) <|
 .seq (.reg [
  .set 9 (.op (some 12) .mov [(.k .nils)])]) <|
 .seq (.seq (.reg [
  .set 12 (.op (some 59) .mov [(.v 2 none)]),
  .set 13 (.op (some 60) .lenL [(.v 12 none)]),
  .set 14 (.op (some 61) .mov [(.k (.int .i64 0))])]) <|
 .block 0 <|
  .loop [1, 6, 8, 9, 12, 13, 14] <|
   .seq (.reg [
    .set 15 (.op (some 62) (.binI .lss) [(.v 14 none), (.v 13 none)])]) <|
   .seq (.cond (.t 15)
    (.skip)
    (.exit 0)) <|
   .seq (.block 1 <|
    .seq (.reg [
     .set 10 (.op (some 14) .mov [(.op (some 64) .load1 [(.op (some 63) (.iadr 1) [(.v 12 none), (.v 14 none)])])])]) <|
    .reg [
     .set 9 (.op (some 12) .mov [(.op (some 69) (.app 0 4 72) [(.v 9 (some 65)), (.op (some 68) (.bslice 0 [(.str []), .nils, (.int .i64 0), .nils] 1 [(0, 4)]) [(.op (some 67) (.call 204) [(.v 10 (some 66))])])])])]) <|
   .reg [
    .set 14 (.op (some 61) .mov [(.op (some 70) (.binI .add) [(.v 14 none), (.k (.int .i64 1))])])]) <|
 .seq (.reg [
  .set 16 (.op (some 71) .mov [(.v 8 none)]),
  .set 17 (.op (some 75) (.call 205) [(.v 8 (some 72)), (.v 1 (some 73)), (.v 9 (some 74))]),
  .set 5 (.op (some 8) .mov [(.v 16 none)]),
  .ef (.op none (.store 4) [(.v 6 none), (.v 17 none)]),
  .set 7 (.op (some 10) .mov [(.k (.bool true))])]) <|
 .ret
/- (*sleuth/name.Looker).Look -/
def s184 : SFn := .src 139 [0, 1, 3, 4, 5, 6, 7, 8, 18, 33, 34, 35, 36, 85, 89, 90, 100, 101, 102, 136, 137, 138] [.cellN 3 3, .tmp 4] <|
 .seq (.reg [
  .set 2 (.op (some 3) (.box 0) [(.v 1 none)]),
  .set 3 (.op (some 4) (.alloc 0 [(.int .i64 0), (.int .i64 0), .nils]) []),
  .set 4 (.op (some 5) .mov [(.k (.int .i64 0))])]) <|
 .seq (.block 0 <|
  .loop [0, 2, 3] <|
   .seq (.ifr [] (.op (some 11) (.isNil .sl true) [(.op (some 10) .load1 [(.op (some 9) (.fadr 1) [(.v 2 none)])])])
    (.skip)
    (.exit 0)) <|
   .block 1 <|
    .seq (.ifr [] (.op (some 16) (.binI .eql) [(.op (some 15) .load1 [(.op (some 14) (.fadr 1) [(.op (some 13) .nilCheck [(.v 0 (some 12))])])]), (.k (.int .i64 0))])
     (.seq (.reg [
      .ef (.op none (.store 3) [(.v 3 none), (.op (some 17) (.build [(.int .i64 0), (.int .i64 0), .nils] []) [])]),
      .set 4 (.op (some 5) .mov [(.k (.int .i64 901))])]) <|
     .ret)
     (.skip)) <|
    .seq (.reg [
     .set 8 (.op (some 18) .mov [(.v 0 none)]),
     .ef (.opr none (.store 1) (.op (some 24) (.fadr 1) [(.op (some 23) .nilCheck [(.v 8 none)])]) (.op (some 22) (.binI .sub) [(.op (some 21) .load1 [(.op (some 20) (.fadr 1) [(.op (some 19) .nilCheck [(.v 8 none)])])]), (.k (.int .i64 1))]))]) <|
    .seq (.reg [
     .set 5 (.op (some 6) .mov [(.op (some 29) (.iadr 4) [(.op (some 26) .load1 [(.op (some 25) (.fadr 1) [(.v 2 none)])]), (.op (some 28) .load1 [(.op (some 27) (.fadr 2) [(.v 2 none)])])])])]) <|
    .seq (.reg [
     .set 9 (.op (some 33) .load1 [(.op (some 32) (.fadr 0) [(.op (some 31) .nilCheck [(.v 5 (some 30))])])])]) <|
    .block 2 <|
     .ifr [] (.op (some 37) .mov [(.op (some 38) (.binI .eql) [(.v 9 none), (.k (.int .i64 0))])])
      (.seq (.reg [
       .ef (.op none (.store 3) [(.v 3 none), (.op (some 43) (.build [(.int .i64 0), (.int .i64 0), .nils] [(0, 1), (1, 1)]) [(.k (.int .i64 1)), (.op (some 42) .load1 [(.op (some 41) (.fadr 1) [(.op (some 40) .nilCheck [(.v 5 (some 39))])])])])]),
       .set 4 (.op (some 5) .mov [(.k (.int .i64 0))])]) <|
      .ret)
      (.ifr [] (.op (some 44) .mov [(.op (some 45) (.binI .eql) [(.v 9 none), (.k (.int .i64 1))])])
       (.dreg [46, 47, 48, 49, 50, 51, 52, 53] [
        ⟨(some 22), .fadr 3, [.t 2], none⟩,
        ⟨(some 23), .load1, [.t 22], none⟩,
        ⟨(some 24), .mov, [.t 5], none⟩,
        ⟨(some 25), .nilCheck, [.t 24], none⟩,
        ⟨(some 26), .fadr 1, [.t 25], none⟩,
        ⟨(some 27), .load1, [.t 26], none⟩,
        ⟨(some 28), .iadr 4, [.t 23, .t 27], none⟩,
        ⟨(some 29), .loadN 4, [.t 28], none⟩,
        ⟨none, .store 4, [.t 2, .t 29], none⟩]
        [.op 0, .op 1, .op 2, .op 3, .op 4, .op 5, .op 6, .op 7, .op 8])
       (.ifr [] (.op (some 54) .mov [(.op (some 55) (.binI .eql) [(.v 9 none), (.k (.int .i64 2))])])
        (.dreg [56, 57, 58, 59, 60, 61, 62] [
         ⟨(some 22), .mov, [.t 0], none⟩,
         ⟨(some 23), .mov, [.t 5], none⟩,
         ⟨(some 24), .nilCheck, [.t 23], none⟩,
         ⟨(some 25), .fadr 1, [.t 24], none⟩,
         ⟨(some 26), .load1, [.t 25], none⟩,
         ⟨(some 27), .call 206, [.t 2], none⟩,
         ⟨(some 28), .call 205, [.t 22, .t 26, .t 27], none⟩,
         ⟨none, .store 4, [.t 2, .t 28], none⟩]
         [.op 0, .op 1, .op 2, .op 3, .op 4, .op 5, .chk 4, .op 6, .op 7])
        (.ifr [] (.op (some 63) .mov [(.op (some 64) (.binI .eql) [(.v 9 none), (.k (.int .i64 3))])])
         (.seq (.dreg [65, 66, 67, 68, 69, 70] [
          ⟨(some 22), .mov, [.t 5], none⟩,
          ⟨(some 23), .nilCheck, [.t 22], none⟩,
          ⟨(some 24), .fadr 1, [.t 23], none⟩,
          ⟨(some 25), .load1, [.t 24], none⟩,
          ⟨(some 26), .call 206, [.t 2], none⟩,
          ⟨(some 27), .build [(.int .i64 0), (.int .i64 0), .nils] [(0, 1), (1, 1), (2, 1)], [.c (.int .i64 2), .t 25, .t 26], none⟩,
          ⟨none, .store 3, [.t 3, .t 27], none⟩,
          ⟨(some 4), .mov, [.c (.int .i64 0)], none⟩]
          [.op 0, .op 1, .op 2, .op 3, .op 4, .chk 3, .op 5, .op 6, .op 7]) <|
         .ret)
         (.ifr [] (.op (some 71) .mov [(.op (some 72) (.binI .eql) [(.v 9 none), (.k (.int .i64 4))])])
          (.seq (.dreg [73, 74, 75, 76, 77, 78, 79, 80, 81, 82] [
           ⟨(some 22), .mov, [.t 0], none⟩,
           ⟨(some 23), .mov, [.t 5], none⟩,
           ⟨(some 24), .nilCheck, [.t 23], none⟩,
           ⟨(some 25), .fadr 1, [.t 24], none⟩,
           ⟨(some 26), .load1, [.t 25], none⟩,
           ⟨(some 27), .call 208, [.t 2, .c (.int .i64 0), .c .nils], none⟩,
           ⟨(some 28), .call 208, [.t 2, .c (.int .i64 1), .c .nils], none⟩,
           ⟨(some 29), .call 207, [.t 22, .t 26, .t 27, .t 28], none⟩,
           ⟨(some 30), .ext 0, [.t 29], none⟩,
           ⟨(some 31), .ext 1, [.t 29], none⟩,
           ⟨none, .store 3, [.t 3, .t 30], none⟩,
           ⟨(some 4), .mov, [.t 31], none⟩]
           [.op 0, .op 1, .op 2, .op 3, .op 4, .op 5, .chk 4, .op 6, .chk 4, .op 7, .op 8, .op 9, .op 10, .op 11]) <|
          .ret)
          (.ifr [] (.op (some 83) .mov [(.op (some 84) (.binI .eql) [(.v 9 none), (.k (.int .i64 5))])])
           (.seq (.reg [
            .set 13 (.op (some 85) .mov [(.op (some 88) (.call 184) [(.v 0 (some 86)), (.op (some 87) (.call 208) [(.v 2 none), (.k (.int .i64 0)), (.k .nils)])])]),
            .set 14 (.op (some 89) (.ext 0) [(.v 13 none)]),
            .set 15 (.op (some 90) (.ext 1) [(.v 13 none)]),
            .set 6 (.op (some 7) (.alloc 0 [(.int .i64 0), (.int .i64 0), .nils]) []),
            .ef (.op none (.store 3) [(.v 6 none), (.v 14 none)]),
            .set 7 (.op (some 8) .mov [(.v 15 none)])]) <|
           .block 3 <|
            .ifr [] (.op (some 92) .mov [(.or 95 99 (.op (some 94) (.binI .neq) [(.v 7 (some 93)), (.k (.int .i64 0))]) (.op (some 98) (.binI .eql) [(.op (some 97) .load1 [(.op (some 96) (.fadr 0) [(.v 6 none)])]), (.k (.int .i64 3))]))])
             (.seq (.reg [
              .set 16 (.op (some 100) (.loadN 3) [(.v 6 none)]),
              .set 17 (.op (some 101) .mov [(.v 7 none)]),
              .ef (.op none (.store 3) [(.v 3 none), (.v 16 none)]),
              .set 4 (.op (some 5) .mov [(.v 17 none)])]) <|
             .ret)
             (.seq (.dreg [103, 104, 105, 106, 107, 108, 109, 110, 111, 112, 113, 114, 115, 116, 117, 118, 119, 120, 121, 122, 123, 124] [
              ⟨(some 22), .fadr 0, [.t 6], none⟩,
              ⟨(some 23), .load1, [.t 22], none⟩,
              ⟨(some 24), .binI .eql, [.t 23, .c (.int .i64 2)], none⟩,
              ⟨(some 25), .mov, [.t 24], none⟩,
              ⟨(some 26), .fadr 1, [.t 6], (some (25, true))⟩,
              ⟨(some 27), .load1, [.t 26], (some (25, true))⟩,
              ⟨(some 28), .mov, [.t 5], (some (25, true))⟩,
              ⟨(some 29), .nilCheck, [.t 28], (some (25, true))⟩,
              ⟨(some 30), .fadr 1, [.t 29], (some (25, true))⟩,
              ⟨(some 31), .load1, [.t 30], (some (25, true))⟩,
              ⟨(some 32), .binI .eql, [.t 27, .t 31], (some (25, true))⟩,
              ⟨(some 33), .pick, [.t 25, .t 32, .c (.bool false)], none⟩,
              ⟨(some 34), .mov, [.t 33], none⟩,
              ⟨(some 35), .fadr 2, [.t 6], (some (34, true))⟩,
              ⟨(some 36), .load1, [.t 35], (some (34, true))⟩,
              ⟨(some 37), .lenL, [.t 36], (some (34, true))⟩,
              ⟨(some 38), .mov, [.t 5], (some (34, true))⟩,
              ⟨(some 39), .nilCheck, [.t 38], (some (34, true))⟩,
              ⟨(some 40), .fadr 2, [.t 39], (some (34, true))⟩,
              ⟨(some 41), .load1, [.t 40], (some (34, true))⟩,
              ⟨(some 42), .binI .eql, [.t 37, .t 41], (some (34, true))⟩,
              ⟨(some 43), .pick, [.t 34, .t 42, .c (.bool false)], none⟩,
              ⟨(some 18), .mov, [.t 43], none⟩]
              [.op 0, .op 1, .op 2, .op 3, .op 4, .op 5, .op 6, .op 7, .op 8, .op 9, .op 10, .op 11, .op 12, .op 13, .op 14, .op 15, .op 16, .op 17, .op 18, .op 19, .op 20, .op 21, .op 22]) <|
             .cond (.t 18)
              (.reg [
               .ef (.op none (.store 4) [(.v 2 none), (.op (some 127) (.call 208) [(.v 2 none), (.k (.int .i64 1)), (.op (some 126) .load1 [(.op (some 125) (.fadr 2) [(.v 6 none)])])])])])
              (.reg [
               .ef (.op none (.store 4) [(.v 2 none), (.op (some 91) (.call 208) [(.v 2 none), (.k (.int .i64 2)), (.k .nils)])])])))
           (.ifr [] (.op (some 128) .mov [(.op (some 129) (.binI .eql) [(.v 9 none), (.k (.int .i64 6))])])
            (.reg [
             .ef (.op none (.store 4) [(.v 2 none), (.op (some 132) (.call 208) [(.v 2 none), (.k (.int .i64 1)), (.op (some 131) (.bslice 0 [(.str []), .nils, (.int .i64 0), .nils] 1 [(0, 4)]) [(.op (some 130) (.call 208) [(.v 2 none), (.k (.int .i64 0)), (.k .nils)])])])])])
            (.seq (.reg [
             .set 10 (.op (some 34) (.call 209) []),
             .set 11 (.op (some 35) (.ext 0) [(.v 10 none)]),
             .set 12 (.op (some 36) (.ext 1) [(.v 10 none)]),
             .ef (.op none (.store 3) [(.v 3 none), (.v 11 none)]),
             .set 4 (.op (some 5) .mov [(.v 12 none)])]) <|
            .ret)))))))) <|
 .seq (.reg [
  .set 19 (.op (some 136) (.call 210) [(.v 0 (some 133)), (.op (some 135) .load1 [(.op (some 134) (.fadr 0) [(.v 2 none)])])]),
  .set 20 (.op (some 137) (.ext 0) [(.v 19 none)]),
  .set 21 (.op (some 138) (.ext 1) [(.v 19 none)]),
  .ef (.op none (.store 3) [(.v 3 none), (.v 20 none)]),
  .set 4 (.op (some 5) .mov [(.v 21 none)])]) <|
 .ret
/- sleuth/name.holes -/
def s185 : SFn := .src 28 [0, 2, 6] [.tmp 1] <|
 .seq (.reg [
  .set 1 (.op (some 2) .mov [(.k (.str []))])]) <|
 .seq (.seq (.reg [
  .set 2 (.op (some 6) .load1 [(.op (some 5) (.fadr 0) [(.op (some 4) .nilCheck [(.v 0 (some 3))])])])]) <|
 .block 0 <|
  .ifr [] (.op (some 7) .mov [(.op (some 8) (.binI .eql) [(.v 2 none), (.k (.int .i64 3))])])
   (.seq (.reg [
    .set 1 (.op (some 2) .mov [(.k (.str [33]))])]) <|
   .ret)
   (.ifr [] (.op (some 9) .mov [(.op (some 10) (.binI .eql) [(.v 2 none), (.k (.int .i64 1))])])
    (.seq (.reg [
     .set 1 (.op (some 2) .mov [(.op (some 15) (.call 29) [(.op (some 14) .load1 [(.op (some 13) (.fadr 1) [(.op (some 12) .nilCheck [(.v 0 (some 11))])])])])])]) <|
    .ret)
    (.skip))) <|
 .seq (.dreg [16, 17, 18, 19, 20, 21, 22, 23, 24, 25, 26, 27] [
  ⟨(some 3), .mov, [.t 0], none⟩,
  ⟨(some 4), .nilCheck, [.t 3], none⟩,
  ⟨(some 5), .fadr 1, [.t 4], none⟩,
  ⟨(some 6), .load1, [.t 5], none⟩,
  ⟨(some 7), .bslice 0 [(.str [])] 1 [(0, 1)], [.c (.str [95])], none⟩,
  ⟨(some 8), .mov, [.t 0], none⟩,
  ⟨(some 9), .nilCheck, [.t 8], none⟩,
  ⟨(some 10), .fadr 2, [.t 9], none⟩,
  ⟨(some 11), .load1, [.t 10], none⟩,
  ⟨(some 12), .lenL, [.t 11], none⟩,
  ⟨(some 13), .call 211, [.t 7, .t 12], none⟩,
  ⟨(some 14), .call 27, [.t 6, .t 13], none⟩,
  ⟨(some 1), .mov, [.t 14], none⟩]
  [.op 0, .op 1, .op 2, .op 3, .op 5, .op 6, .op 7, .op 8, .op 9, .op 4, .chk 8, .chk 3, .op 10, .chk 3, .op 11, .op 12]) <|
 .ret
/- sleuth/name.Term -/
def s204 : SFn := .src 5 [0, 2] [.cellN 1 4] <|
 .seq (.reg [
  .set 1 (.op (some 2) (.alloc 0 [(.str []), .nils, (.int .i64 0), .nils]) [])]) <|
 .seq (.reg [
  .ef (.op none (.store 4) [(.v 1 none), (.op (some 4) (.build [(.str []), .nils, (.int .i64 0), .nils] [(0, 1)]) [(.v 0 (some 3))])])]) <|
 .ret
/- (*sleuth/name.Looker).call -/
def s205 : SFn := .src 22 [0, 1, 2, 6, 7] [.cellN 3 4] <|
 .seq (.reg [
  .set 3 (.op (some 6) (.alloc 0 [(.str []), .nils, (.int .i64 0), .nils]) [])]) <|
 .seq (.reg [
  .set 4 (.op (some 7) .mov [(.op (some 15) .load1 [(.op (some 14) (.fadr 1) [(.op (some 13) (.iadr 2) [(.op (some 11) .load1 [(.op (some 10) (.fadr 0) [(.op (some 9) .nilCheck [(.v 0 (some 8))])])]), (.v 1 (some 12))])])])])]) <|
 .seq (.reg [
  .ef (.op none (.store 4) [(.v 3 none), (.op (some 21) (.build [(.str []), .nils, (.int .i64 0), .nils] [(1, 1), (2, 1), (3, 1)]) [(.v 4 (some 16)), (.op (some 19) (.binI .sub) [(.op (some 18) .lenL [(.v 4 (some 17))]), (.k (.int .i64 1))]), (.v 2 (some 20))])])]) <|
 .ret
/- (*sleuth/name.Thing).kids -/
def s206 : SFn := .src 28 [0, 2, 3, 4, 16, 17, 18] [.tmp 1] <|
 .seq (.reg [
  .set 1 (.op (some 2) .mov [(.k .nils)])]) <|
 .seq (.reg [
  .set 2 (.op (some 3) .mov [(.k .nils)])]) <|
 .seq (.seq (.dreg [5, 6, 7, 8, 9, 10, 11, 12, 13, 14, 15] [
  ⟨(some 7), .mov, [.t 0], none⟩,
  ⟨(some 8), .nilCheck, [.t 7], none⟩,
  ⟨(some 9), .fadr 1, [.t 8], none⟩,
  ⟨(some 10), .load1, [.t 9], none⟩,
  ⟨(some 11), .mov, [.t 0], none⟩,
  ⟨(some 12), .nilCheck, [.t 11], none⟩,
  ⟨(some 13), .fadr 2, [.t 12], none⟩,
  ⟨(some 14), .load1, [.t 13], none⟩,
  ⟨(some 15), .iadr 4, [.t 10, .t 14], none⟩,
  ⟨(some 16), .fadr 3, [.t 15], none⟩,
  ⟨(some 17), .load1, [.t 16], none⟩,
  ⟨(some 4), .lenL, [.t 17], none⟩,
  ⟨(some 5), .mov, [.c (.int .i64 0)], none⟩]
  [.op 0, .op 1, .op 2, .op 3, .op 4, .op 5, .op 6, .op 7, .op 8, .op 9, .op 10, .op 11, .op 12]) <|
 .block 0 <|
  .loop [0, 2, 4, 5] <|
   .seq (.reg [
    .set 6 (.op (some 18) (.binI .lss) [(.v 5 none), (.v 4 none)])]) <|
   .seq (.cond (.t 6)
    (.skip)
    (.exit 0)) <|
   .seq (.block 1 <|
    .seq (.reg [
     .set 3 (.op (some 4) .mov [(.v 5 (some 19))])]) <|
    .reg [
     .set 2 (.op (some 3) .mov [(.op (some 25) (.app 0 4 72) [(.v 2 (some 20)), (.op (some 24) (.bslice 0 [(.str []), .nils, (.int .i64 0), .nils] 1 [(0, 4)]) [(.op (some 23) (.call 208) [(.v 0 (some 21)), (.v 3 (some 22)), (.k .nils)])])])])]) <|
   .reg [
    .set 5 (.op (some 17) .mov [(.op (some 26) (.binI .add) [(.v 5 none), (.k (.int .i64 1))])])]) <|
 .seq (.reg [
  .set 1 (.op (some 2) .mov [(.v 2 (some 27))])]) <|
 .ret
/- (*sleuth/name.Looker).prim -/
def s207 : SFn := .src 58 [0, 1, 2, 3, 6, 7, 8, 9, 10, 11, 12, 13, 14, 15, 19, 20, 21, 22, 23, 25, 26, 30, 31, 34, 35, 39, 40, 41, 42, 47, 54, 55] [.cellN 6 3, .tmp 7] <|
 .seq (.reg [
  .set 4 (.op (some 6) (.box 0) [(.v 2 none)]),
  .set 5 (.op (some 7) (.box 0) [(.v 3 none)]),
  .set 6 (.op (some 8) (.alloc 0 [(.int .i64 0), (.int .i64 0), .nils]) []),
  .set 7 (.op (some 9) .mov [(.k (.int .i64 0))])]) <|
 .seq (.reg [
  .set 8 (.op (some 10) (.alloc 0 [(.int .i64 0), (.int .i64 0)]) [])]) <|
 .seq (.seq (.reg [
  .set 14 (.op (some 19) (.bslice 0 [(.str []), .nils, (.int .i64 0), .nils, (.str []), .nils, (.int .i64 0), .nils] 2 [(0, 4), (4, 4)]) [(.op (some 17) (.loadN 4) [(.v 4 none)]), (.op (some 18) (.loadN 4) [(.v 5 none)])]),
  .set 15 (.op (some 20) .lenL [(.v 14 none)]),
  .set 16 (.op (some 21) .mov [(.k (.int .i64 0))])]) <|
 .block 0 <|
  .loop [0, 1, 6, 8, 14, 15, 16] <|
   .seq (.reg [
    .set 17 (.op (some 22) (.binI .lss) [(.v 16 none), (.v 15 none)])]) <|
   .seq (.cond (.t 17)
    (.skip)
    (.exit 0)) <|
   .seq (.block 1 <|
    .seq (.reg [
     .set 18 (.op (some 23) .mov [(.v 16 none)]),
     .set 19 (.op (some 25) (.loadN 4) [(.op (some 24) (.iadr 4) [(.v 14 none), (.v 16 none)])]),
     .set 10 (.op (some 12) (.alloc 0 [(.str []), .nils, (.int .i64 0), .nils]) []),
     .set 9 (.op (some 11) .mov [(.v 18 none)]),
     .ef (.op none (.store 4) [(.v 10 none), (.v 19 none)])]) <|
    .seq (.reg [
     .set 20 (.op (some 26) .mov [(.op (some 29) (.call 184) [(.v 0 (some 27)), (.op (some 28) (.loadN 4) [(.v 10 none)])])]),
     .set 21 (.op (some 30) (.ext 0) [(.v 20 none)]),
     .set 22 (.op (some 31) (.ext 1) [(.v 20 none)]),
     .set 11 (.op (some 13) (.alloc 0 [(.int .i64 0), (.int .i64 0), .nils]) []),
     .ef (.op none (.store 3) [(.v 11 none), (.v 21 none)]),
     .set 12 (.op (some 14) .mov [(.v 22 none)])]) <|
    .seq (.ifr [] (.op (some 33) (.binI .neq) [(.v 12 (some 32)), (.k (.int .i64 0))])
     (.seq (.reg [
      .set 23 (.op (some 34) (.build [(.int .i64 0), (.int .i64 0), .nils] []) []),
      .set 24 (.op (some 35) .mov [(.v 12 none)]),
      .ef (.op none (.store 3) [(.v 6 none), (.v 23 none)]),
      .set 7 (.op (some 9) .mov [(.v 24 none)])]) <|
     .ret)
     (.skip)) <|
    .seq (.ifr [] (.op (some 38) (.binI .neq) [(.op (some 37) .load1 [(.op (some 36) (.fadr 0) [(.v 11 none)])]), (.k (.int .i64 1))])
     (.seq (.reg [
      .set 25 (.op (some 39) (.call 209) []),
      .set 26 (.op (some 40) (.ext 0) [(.v 25 none)]),
      .set 27 (.op (some 41) (.ext 1) [(.v 25 none)]),
      .ef (.op none (.store 3) [(.v 6 none), (.v 26 none)]),
      .set 7 (.op (some 9) .mov [(.v 27 none)])]) <|
     .ret)
     (.skip)) <|
    .reg [
     .set 28 (.op (some 42) .mov [(.v 9 none)]),
     .ef (.opr none (.store 1) (.op (some 45) (.iadrA 2 1) [(.v 8 none), (.v 28 none)]) (.op (some 44) .load1 [(.op (some 43) (.fadr 1) [(.v 11 none)])]))]) <|
   .reg [
    .set 16 (.op (some 21) .mov [(.op (some 46) (.binI .add) [(.v 16 none), (.k (.int .i64 1))])])]) <|
 .seq (.reg [
  .set 29 (.op (some 47) .mov [(.op (some 53) (.call 226) [(.v 1 (some 48)), (.op (some 50) .load1 [(.op (some 49) (.iadrA 2 1) [(.v 8 none), (.k (.int .i64 0))])]), (.op (some 52) .load1 [(.op (some 51) (.iadrA 2 1) [(.v 8 none), (.k (.int .i64 1))])])])]),
  .set 30 (.op (some 54) (.ext 0) [(.v 29 none)]),
  .set 31 (.op (some 55) (.ext 1) [(.v 29 none)]),
  .set 13 (.op (some 15) .mov [(.v 30 none)]),
  .ef (.v 31 (some 16))]) <|
 .seq (.reg [
  .ef (.op none (.store 3) [(.v 6 none), (.op (some 57) (.build [(.int .i64 0), (.int .i64 0), .nils] [(0, 1), (1, 1)]) [(.k (.int .i64 1)), (.v 13 (some 56))])]),
  .set 7 (.op (some 9) .mov [(.k (.int .i64 0))])]) <|
 .ret
/- (*sleuth/name.Thing).kid -/
def s208 : SFn := .src 33 [0, 1, 2, 6] [.cellN 3 4] <|
 .seq (.reg [
  .set 3 (.op (some 6) (.alloc 0 [(.str []), .nils, (.int .i64 0), .nils]) [])]) <|
 .seq (.dreg [7, 8, 9, 10, 11, 12, 13, 14, 15, 16, 17, 18, 19, 20, 21, 22, 23, 24, 25, 26, 27, 28, 29, 30, 31, 32] [
  ⟨(some 4), .mov, [.t 0], none⟩,
  ⟨(some 5), .nilCheck, [.t 4], none⟩,
  ⟨(some 6), .fadr 1, [.t 5], none⟩,
  ⟨(some 7), .load1, [.t 6], none⟩,
  ⟨(some 8), .mov, [.t 0], none⟩,
  ⟨(some 9), .nilCheck, [.t 8], none⟩,
  ⟨(some 10), .fadr 1, [.t 9], none⟩,
  ⟨(some 11), .load1, [.t 10], none⟩,
  ⟨(some 12), .mov, [.t 0], none⟩,
  ⟨(some 13), .nilCheck, [.t 12], none⟩,
  ⟨(some 14), .fadr 2, [.t 13], none⟩,
  ⟨(some 15), .load1, [.t 14], none⟩,
  ⟨(some 16), .iadr 4, [.t 11, .t 15], none⟩,
  ⟨(some 17), .fadr 3, [.t 16], none⟩,
  ⟨(some 18), .load1, [.t 17], none⟩,
  ⟨(some 19), .mov, [.t 1], none⟩,
  ⟨(some 20), .iadr 1, [.t 18, .t 19], none⟩,
  ⟨(some 21), .load1, [.t 20], none⟩,
  ⟨(some 22), .mov, [.t 0], none⟩,
  ⟨(some 23), .nilCheck, [.t 22], none⟩,
  ⟨(some 24), .fadr 3, [.t 23], none⟩,
  ⟨(some 25), .load1, [.t 24], none⟩,
  ⟨(some 26), .mov, [.t 2], none⟩,
  ⟨(some 27), .bslice 0 [.nils, .nils] 2 [(0, 1), (1, 1)], [.t 25, .t 26], none⟩,
  ⟨(some 28), .call 227, [.t 27], none⟩,
  ⟨(some 29), .build [(.str []), .nils, (.int .i64 0), .nils] [(1, 1), (2, 1), (3, 1)], [.t 7, .t 21, .t 28], none⟩,
  ⟨none, .store 4, [.t 3, .t 29], none⟩]
  [.op 0, .op 1, .op 2, .op 3, .op 4, .op 5, .op 6, .op 7, .op 8, .op 9, .op 10, .op 11, .op 12, .op 13, .op 14, .op 15, .op 16, .op 17, .op 18, .op 19, .op 20, .op 21, .op 22, .op 23, .chk 17, .chk 14, .chk 11, .chk 7, .chk 3, .op 24, .chk 17, .chk 14, .chk 11, .chk 7, .chk 3, .op 25, .op 26]) <|
 .ret
/- sleuth/name.failure -/
def s209 : SFn := .src 3 [0, 1] [.cellN 0 3, .tmp 1] <|
 .seq (.reg [
  .set 0 (.op (some 0) (.alloc 0 [(.int .i64 0), (.int .i64 0), .nils]) []),
  .set 1 (.op (some 1) .mov [(.k (.int .i64 0))])]) <|
 .seq (.reg [
  .ef (.op none (.store 3) [(.v 0 none), (.op (some 2) (.build [(.int .i64 0), (.int .i64 0), .nils] [(0, 1)]) [(.k (.int .i64 3))])]),
  .set 1 (.op (some 1) .mov [(.k (.int .i64 0))])]) <|
 .ret
/- (*sleuth/name.Looker).term -/
def s210 : SFn := .src 41 [1, 4, 5, 6, 7, 8, 10, 12, 13, 16, 17, 18, 19, 25, 26, 27, 28, 29] [.cellN 1 3, .tmp 2] <|
 .seq (.reg [
  .set 1 (.op (some 4) (.alloc 0 [(.int .i64 0), (.int .i64 0), .nils]) []),
  .set 2 (.op (some 5) .mov [(.k (.int .i64 0))])]) <|
 .seq (.reg [
  .set 8 (.op (some 13) .mov [(.op (some 15) (.call 11) [(.v 0 (some 14))])]),
  .set 9 (.op (some 16) (.ext 0) [(.v 8 none)]),
  .set 10 (.op (some 17) (.ext 1) [(.v 8 none)]),
  .set 11 (.op (some 18) (.ext 2) [(.v 8 none)]),
  .set 12 (.op (some 19) (.ext 3) [(.v 8 none)]),
  .set 3 (.op (some 6) .mov [(.v 9 none)]),
  .set 4 (.op (some 7) .mov [(.v 10 none)]),
  .set 5 (.op (some 8) .mov [(.v 11 none)]),
  .ef (.v 12 (some 9))]) <|
 .seq (.ifr [] (.op (some 21) (.binI .eql) [(.v 3 (some 20)), (.k (.int .i64 0))])
  (.seq (.reg [
   .ef (.op none (.store 3) [(.v 1 none), (.op (some 22) (.build [(.int .i64 0), (.int .i64 0), .nils] []) [])]),
   .set 2 (.op (some 5) .mov [(.k (.int .i64 902))])]) <|
  .ret)
  (.skip)) <|
 .seq (.reg [
  .set 13 (.op (some 25) (.build [(.int .i64 0), (.int .i64 0), .nils] [(0, 1), (1, 1)]) [(.v 3 (some 23)), (.v 4 (some 24))]),
  .set 6 (.op (some 10) (.alloc 0 [(.int .i64 0), (.int .i64 0), .nils]) []),
  .ef (.op none (.store 3) [(.v 6 none), (.v 13 none)])]) <|
 .seq (.seq (.reg [
  .set 14 (.op (some 26) .mov [(.v 5 none)]),
  .set 15 (.op (some 27) .lenL [(.v 14 none)]),
  .set 16 (.op (some 28) .mov [(.k (.int .i64 0))])]) <|
 .block 0 <|
  .loop [1, 6, 14, 15, 16] <|
   .seq (.reg [
    .set 17 (.op (some 29) (.binI .lss) [(.v 16 none), (.v 15 none)])]) <|
   .seq (.cond (.t 17)
    (.skip)
    (.exit 0)) <|
   .seq (.block 1 <|
    .seq (.reg [
     .set 7 (.op (some 12) .mov [(.op (some 31) .load1 [(.op (some 30) (.iadr 1) [(.v 14 none), (.v 16 none)])])])]) <|
    .dreg [32, 33, 34, 35, 36, 37, 38] [
     ⟨(some 18), .fadr 2, [.t 6], none⟩,
     ⟨(some 19), .load1, [.t 18], none⟩,
     ⟨(some 20), .mov, [.t 7], none⟩,
     ⟨(some 21), .call 204, [.t 20], none⟩,
     ⟨(some 22), .bslice 0 [(.str []), .nils, (.int .i64 0), .nils] 1 [(0, 4)], [.t 21], none⟩,
     ⟨(some 23), .app 0 4 72, [.t 19, .t 22], none⟩,
     ⟨(some 24), .fadr 2, [.t 6], none⟩,
     ⟨none, .store 1, [.t 24, .t 23], none⟩]
     [.op 0, .op 1, .op 2, .op 3, .chk 1, .op 4, .chk 1, .op 5, .op 6, .op 7]) <|
   .reg [
    .set 16 (.op (some 28) .mov [(.op (some 39) (.binI .add) [(.v 16 none), (.k (.int .i64 1))])])]) <|
 .seq (.reg [
  .ef (.op none (.store 3) [(.v 1 none), (.op (some 40) (.loadN 3) [(.v 6 none)])]),
  .set 2 (.op (some 5) .mov [(.k (.int .i64 0))])]) <|
 .ret
/- slices.Repeat[[]string,string] -/
def s211 : SFn := .src 48 [0, 1, 4, 5, 6, 7, 8, 12, 19, 20, 29] [.tmp 2] <|
 .seq (.reg [
  .set 2 (.op (some 4) .mov [(.k .nils)])]) <|
 .seq (.ifr [] (.op (some 10) (.binI .lss) [(.v 1 (some 9)), (.k (.int .i64 0))])
  (.reg [
   .ef (.op (some 11) .mkifc [(.k (.str [99, 97, 110, 110, 111, 116, 32, 98, 101, 32, 110, 101, 103, 97, 116, 105, 118, 101]))]),
   .ef (.op none .bad [])])
  (.skip)) <|
 .seq (.reg [
  .set 7 (.op (some 12) .mov [(.op (some 18) (.call 228) [(.op (some 15) (.conv .u64) [(.op (some 14) .lenL [(.v 0 (some 13))])]), (.op (some 17) (.conv .u64) [(.v 1 (some 16))])])]),
  .set 8 (.op (some 19) (.ext 0) [(.v 7 none)]),
  .set 9 (.op (some 20) (.ext 1) [(.v 7 none)]),
  .set 3 (.op (some 5) .mov [(.v 8 none)]),
  .set 4 (.op (some 6) .mov [(.v 9 none)])]) <|
 .seq (.ifr [] (.or 23 26 (.op (some 22) (.binI .gtr) [(.v 3 (some 21)), (.k (.int .u64 0))]) (.op (some 25) (.binI .gtr) [(.v 4 (some 24)), (.k (.int .u64 9223372036854775807))]))
  (.reg [
   .ef (.op (some 27) .mkifc [(.k (.str [116, 104, 101, 32, 114, 101, 115, 117, 108, 116, 32, 111, 102, 32, 40, 108, 101, 110, 40, 120, 41, 32, 42, 32, 99, 111, 117, 110, 116, 41, 32, 111, 118, 101, 114, 102, 108, 111, 119, 115]))]),
   .ef (.op none .bad [])])
  (.skip)) <|
 .seq (.reg [
  .set 10 (.op (some 29) (.conv .i64) [(.v 4 (some 28))]),
  .set 5 (.op (some 7) .mov [(.op (some 30) (.mkslice 0 [(.str [])] 16) [(.v 10 none), (.v 10 none)])])]) <|
 .seq (.reg [
  .set 6 (.op (some 8) .mov [(.op (some 33) (.cpy 1) [(.v 5 (some 31)), (.v 0 (some 32))])])]) <|
 .seq (.block 0 <|
  .loop [5, 6] <|
   .seq (.ifr [] (.op (some 37) (.binI .lss) [(.v 6 (some 34)), (.op (some 36) .lenL [(.v 5 (some 35))])])
    (.skip)
    (.exit 0)) <|
   .block 1 <|
    .dreg [38, 39, 40, 41, 42, 43, 44, 45, 46] [
     ⟨(some 11), .mov, [.t 6], none⟩,
     ⟨(some 12), .mov, [.t 5], none⟩,
     ⟨(some 13), .mov, [.t 6], none⟩,
     ⟨(some 14), .slL 1 true false false, [.t 12, .t 13], none⟩,
     ⟨(some 15), .mov, [.t 5], none⟩,
     ⟨(some 16), .mov, [.t 6], none⟩,
     ⟨(some 17), .slL 1 false true false, [.t 15, .t 16], none⟩,
     ⟨(some 18), .cpy 1, [.t 14, .t 17], none⟩,
     ⟨(some 19), .binI .add, [.t 11, .t 18], none⟩,
     ⟨(some 6), .mov, [.t 19], none⟩]
     [.op 0, .op 1, .op 2, .op 3, .op 4, .op 5, .op 6, .op 7, .op 8, .op 9]) <|
 .seq (.reg [
  .set 2 (.op (some 4) .mov [(.v 5 (some 47))])]) <|
 .ret
/- sleuth/prim.Do -/
def s226 : SFn := .src 48 [0, 1, 2, 6, 7, 8, 17] [.tmp 3, .tmp 4] <|
 .seq (.reg [
  .set 3 (.op (some 6) .mov [(.k (.int .i64 0))]),
  .set 4 (.op (some 7) .mov [(.k (.int .i64 0))])]) <|
 .seq (.ifr [] (.or 12 16 (.op (some 11) .notB [(.op (some 10) (.call 28) [(.v 1 (some 9))])]) (.op (some 15) .notB [(.op (some 14) (.call 28) [(.v 2 (some 13))])]))
  (.seq (.reg [
   .set 3 (.op (some 6) .mov [(.k (.int .i64 0))]),
   .set 4 (.op (some 7) .mov [(.k (.int .i64 100))])]) <|
  .ret)
  (.skip)) <|
 .seq (.reg [
  .set 5 (.op (some 8) .mov [(.k (.int .i64 0))])]) <|
 .seq (.seq (.reg [
  .set 6 (.op (some 17) .mov [(.v 0 none)])]) <|
 .block 0 <|
  .ifr [] (.op (some 18) .mov [(.op (some 19) (.binI .eql) [(.v 6 none), (.k (.int .i64 0))])])
   (.reg [
    .set 5 (.op (some 8) .mov [(.op (some 22) (.binI .add) [(.v 1 (some 20)), (.v 2 (some 21))])])])
   (.ifr [] (.op (some 23) .mov [(.op (some 24) (.binI .eql) [(.v 6 none), (.k (.int .i64 1))])])
    (.reg [
     .set 5 (.op (some 8) .mov [(.op (some 27) (.binI .sub) [(.v 1 (some 25)), (.v 2 (some 26))])])])
    (.ifr [] (.op (some 28) .mov [(.op (some 29) (.binI .eql) [(.v 6 none), (.k (.int .i64 2))])])
     (.reg [
      .set 5 (.op (some 8) .mov [(.op (some 32) (.binI .mul) [(.v 1 (some 30)), (.v 2 (some 31))])])])
     (.ifr [] (.op (some 33) .mov [(.op (some 34) (.binI .eql) [(.v 6 none), (.k (.int .i64 3))])])
      (.reg [
       .set 5 (.op (some 8) .mov [(.op (some 38) (.call 230) [(.op (some 37) (.binI .eql) [(.v 1 (some 35)), (.v 2 (some 36))])])])])
      (.ifr [] (.op (some 39) .mov [(.op (some 40) (.binI .eql) [(.v 6 none), (.k (.int .i64 4))])])
       (.reg [
        .set 5 (.op (some 8) .mov [(.op (some 44) (.call 230) [(.op (some 43) (.binI .lss) [(.v 1 (some 41)), (.v 2 (some 42))])])])])
       (.seq (.reg [
        .set 3 (.op (some 6) .mov [(.k (.int .i64 0))]),
        .set 4 (.op (some 7) .mov [(.k (.int .i64 100))])]) <|
       .ret)))))) <|
 .seq (.reg [
  .set 3 (.op (some 6) .mov [(.op (some 47) (.conv .i64) [(.op (some 46) (.conv .i16) [(.v 5 (some 45))])])]),
  .set 4 (.op (some 7) .mov [(.k (.int .i64 0))])]) <|
 .ret
/- slices.Concat[[]sleuth/name.Thing,sleuth/name.Thing] -/
def s227 : SFn := .src 36 [0, 2, 3, 5, 6, 8, 9, 10, 11, 12, 25, 26, 27, 28] [.tmp 1] <|
 .seq (.reg [
  .set 1 (.op (some 2) .mov [(.k .nils)])]) <|
 .seq (.reg [
  .set 2 (.op (some 3) .mov [(.k (.int .i64 0))])]) <|
 .seq (.seq (.reg [
  .set 6 (.op (some 9) .mov [(.v 0 none)]),
  .set 7 (.op (some 10) .lenL [(.v 6 none)]),
  .set 8 (.op (some 11) .mov [(.k (.int .i64 0))])]) <|
 .block 0 <|
  .loop [0, 2, 6, 7, 8] <|
   .seq (.reg [
    .set 9 (.op (some 12) (.binI .lss) [(.v 8 none), (.v 7 none)])]) <|
   .seq (.cond (.t 9)
    (.skip)
    (.exit 0)) <|
   .seq (.block 1 <|
    .seq (.reg [
     .set 3 (.op (some 5) .mov [(.op (some 14) .load1 [(.op (some 13) (.iadr 1) [(.v 6 none), (.v 8 none)])])])]) <|
    .seq (.reg [
     .set 2 (.op (some 3) .mov [(.op (some 18) (.binI .add) [(.v 2 (some 15)), (.op (some 17) .lenL [(.v 3 (some 16))])])])]) <|
    .ifr [] (.op (some 20) (.binI .lss) [(.v 2 (some 19)), (.k (.int .i64 0))])
     (.reg [
      .ef (.op (some 21) .mkifc [(.k (.str [108, 101, 110, 32, 111, 117, 116, 32, 111, 102, 32, 114, 97, 110, 103, 101]))]),
      .ef (.op none .bad [])])
     (.skip)) <|
   .reg [
    .set 8 (.op (some 11) .mov [(.op (some 22) (.binI .add) [(.v 8 none), (.k (.int .i64 1))])])]) <|
 .seq (.reg [
  .set 4 (.op (some 6) .mov [(.op (some 24) (.call 231) [(.k .nils), (.v 2 (some 23))])])]) <|
 .seq (.seq (.reg [
  .set 10 (.op (some 25) .mov [(.v 0 none)]),
  .set 11 (.op (some 26) .lenL [(.v 10 none)]),
  .set 12 (.op (some 27) .mov [(.k (.int .i64 0))])]) <|
 .block 2 <|
  .loop [4, 10, 11, 12] <|
   .seq (.reg [
    .set 13 (.op (some 28) (.binI .lss) [(.v 12 none), (.v 11 none)])]) <|
   .seq (.cond (.t 13)
    (.skip)
    (.exit 2)) <|
   .seq (.block 3 <|
    .seq (.reg [
     .set 5 (.op (some 8) .mov [(.op (some 30) .load1 [(.op (some 29) (.iadr 1) [(.v 10 none), (.v 12 none)])])])]) <|
    .reg [
     .set 4 (.op (some 6) .mov [(.op (some 33) (.app 0 4 72) [(.v 4 (some 31)), (.v 5 (some 32))])])]) <|
   .reg [
    .set 12 (.op (some 27) .mov [(.op (some 34) (.binI .add) [(.v 12 none), (.k (.int .i64 1))])])]) <|
 .seq (.reg [
  .set 1 (.op (some 2) .mov [(.v 4 (some 35))])]) <|
 .ret
/- math/bits.Mul -/
def s228 : SFn := .src 30 [0, 1, 4, 5, 6, 7, 8, 9, 10, 16, 17, 19, 21, 22, 26, 27, 28, 29] [.tmp 2, .tmp 3] <|
 .seq (.reg [
  .set 2 (.op (some 4) .mov [(.k (.int .u64 0))]),
  .set 3 (.op (some 5) .mov [(.k (.int .u64 0))])]) <|
 .seq (.cond (.c (.bool false))
  (.seq (.reg [
   .set 8 (.op (some 10) .mov [(.op (some 15) (.call 232) [(.op (some 12) (.conv .u32) [(.v 0 (some 11))]), (.op (some 14) (.conv .u32) [(.v 1 (some 13))])])]),
   .set 9 (.op (some 16) (.ext 0) [(.v 8 none)]),
   .set 10 (.op (some 17) (.ext 1) [(.v 8 none)]),
   .set 4 (.op (some 6) .mov [(.v 9 none)]),
   .set 5 (.op (some 7) .mov [(.v 10 none)])]) <|
  .seq (.reg [
   .set 11 (.op (some 19) (.conv .u64) [(.v 4 (some 18))]),
   .set 12 (.op (some 21) (.conv .u64) [(.v 5 (some 20))]),
   .set 2 (.op (some 4) .mov [(.v 11 none)]),
   .set 3 (.op (some 5) .mov [(.v 12 none)])]) <|
  .ret)
  (.skip)) <|
 .seq (.reg [
  .set 13 (.op (some 22) .mov [(.op (some 25) (.call 233) [(.v 0 (some 23)), (.v 1 (some 24))])]),
  .set 14 (.op (some 26) (.ext 0) [(.v 13 none)]),
  .set 15 (.op (some 27) (.ext 1) [(.v 13 none)]),
  .set 6 (.op (some 8) .mov [(.v 14 none)]),
  .set 7 (.op (some 9) .mov [(.v 15 none)])]) <|
 .seq (.reg [
  .set 16 (.op (some 28) .mov [(.v 6 none)]),
  .set 17 (.op (some 29) .mov [(.v 7 none)]),
  .set 2 (.op (some 4) .mov [(.v 16 none)]),
  .set 3 (.op (some 5) .mov [(.v 17 none)])]) <|
 .ret
/- sleuth/prim.truth -/
def s230 : SFn := .src 4 [0, 2] [.tmp 1] <|
 .seq (.reg [
  .set 1 (.op (some 2) .mov [(.k (.int .i64 0))])]) <|
 .seq (.ifr [] (.v 0 (some 3))
  (.seq (.reg [
   .set 1 (.op (some 2) .mov [(.k (.int .i64 1))])]) <|
  .ret)
  (.skip)) <|
 .seq (.reg [
  .set 1 (.op (some 2) .mov [(.k (.int .i64 0))])]) <|
 .ret
/- slices.Grow[[]sleuth/name.Thing,sleuth/name.Thing] -/
def s231 : SFn := .src 27 [0, 1, 4] [.tmp 2] <|
 .seq (.reg [
  .set 2 (.op (some 4) .mov [(.k .nils)])]) <|
 .seq (.ifr [] (.op (some 6) (.binI .lss) [(.v 1 (some 5)), (.k (.int .i64 0))])
  (.reg [
   .ef (.op (some 7) .mkifc [(.k (.str [99, 97, 110, 110, 111, 116, 32, 98, 101, 32, 110, 101, 103, 97, 116, 105, 118, 101]))]),
   .ef (.op none .bad [])])
  (.skip)) <|
 .seq (.seq (.reg [
  .set 1 (.op (some 1) .mov [(.op (some 14) (.binI .sub) [(.v 1 (some 8)), (.op (some 13) (.binI .sub) [(.op (some 10) .capL [(.v 0 (some 9))]), (.op (some 12) .lenL [(.v 0 (some 11))])])])])]) <|
 .ifr [] (.op (some 16) (.binI .gtr) [(.v 1 (some 15)), (.k (.int .i64 0))])
  (.reg [
   .set 0 (.op (some 0) .mov [(.op (some 25) (.slL 4 false true false) [(.op (some 22) (.appz 0 4 72 [(.str []), .nils, (.int .i64 0), .nils]) [(.op (some 20) (.slL 4 false true false) [(.v 0 (some 17)), (.op (some 19) .capL [(.v 0 (some 18))])]), (.v 1 (some 21))]), (.op (some 24) .lenL [(.v 0 (some 23))])])])])
  (.skip)) <|
 .seq (.reg [
  .set 2 (.op (some 4) .mov [(.v 0 (some 26))])]) <|
 .ret
/- math/bits.Mul32 -/
def s232 : SFn := .src 17 [0, 1, 4, 5, 6, 14, 16] [.tmp 2, .tmp 3] <|
 .seq (.reg [
  .set 2 (.op (some 4) .mov [(.k (.int .u32 0))]),
  .set 3 (.op (some 5) .mov [(.k (.int .u32 0))])]) <|
 .seq (.reg [
  .set 4 (.op (some 6) .mov [(.op (some 11) (.binI .mul) [(.op (some 8) (.conv .u64) [(.v 0 (some 7))]), (.op (some 10) (.conv .u64) [(.v 1 (some 9))])])])]) <|
 .seq (.reg [
  .set 5 (.op (some 14) (.conv .u32) [(.op (some 13) (.binI .shr) [(.v 4 (some 12)), (.k (.int .u64 32))])]),
  .set 6 (.op (some 16) (.conv .u32) [(.v 4 (some 15))]),
  .set 2 (.op (some 4) .mov [(.v 5 none)]),
  .set 3 (.op (some 5) .mov [(.v 6 none)])]) <|
 .ret
/- math/bits.Mul64 -/
def s233 : SFn := .src 51 [0, 1, 4, 5, 6, 7, 8, 9, 10, 11, 12, 13] [.tmp 2, .tmp 3] <|
 .seq (.reg [
  .set 2 (.op (some 4) .mov [(.k (.int .u64 0))]),
  .set 3 (.op (some 5) .mov [(.k (.int .u64 0))])]) <|
 .seq (.reg [
  .set 4 (.op (some 6) .mov [(.op (some 15) (.binI .and) [(.v 0 (some 14)), (.k (.int .u64 4294967295))])])]) <|
 .seq (.reg [
  .set 5 (.op (some 7) .mov [(.op (some 17) (.binI .shr) [(.v 0 (some 16)), (.k (.int .u64 32))])])]) <|
 .seq (.reg [
  .set 6 (.op (some 8) .mov [(.op (some 19) (.binI .and) [(.v 1 (some 18)), (.k (.int .u64 4294967295))])])]) <|
 .seq (.reg [
  .set 7 (.op (some 9) .mov [(.op (some 21) (.binI .shr) [(.v 1 (some 20)), (.k (.int .u64 32))])])]) <|
 .seq (.reg [
  .set 8 (.op (some 10) .mov [(.op (some 24) (.binI .mul) [(.v 4 (some 22)), (.v 6 (some 23))])])]) <|
 .seq (.reg [
  .set 9 (.op (some 11) .mov [(.op (some 30) (.binI .add) [(.op (some 27) (.binI .mul) [(.v 5 (some 25)), (.v 6 (some 26))]), (.op (some 29) (.binI .shr) [(.v 8 (some 28)), (.k (.int .u64 32))])])])]) <|
 .seq (.reg [
  .set 10 (.op (some 12) .mov [(.op (some 32) (.binI .and) [(.v 9 (some 31)), (.k (.int .u64 4294967295))])])]) <|
 .seq (.reg [
  .set 11 (.op (some 13) .mov [(.op (some 34) (.binI .shr) [(.v 9 (some 33)), (.k (.int .u64 32))])])]) <|
 .seq (.reg [
  .set 10 (.op (some 12) .mov [(.op (some 39) (.binI .add) [(.v 10 (some 35)), (.op (some 38) (.binI .mul) [(.v 4 (some 36)), (.v 7 (some 37))])])])]) <|
 .seq (.reg [
  .set 2 (.op (some 4) .mov [(.op (some 47) (.binI .add) [(.op (some 44) (.binI .add) [(.op (some 42) (.binI .mul) [(.v 5 (some 40)), (.v 7 (some 41))]), (.v 11 (some 43))]), (.op (some 46) (.binI .shr) [(.v 10 (some 45)), (.k (.int .u64 32))])])])]) <|
 .seq (.reg [
  .set 3 (.op (some 5) .mov [(.op (some 50) (.binI .mul) [(.v 0 (some 48)), (.v 1 (some 49))])])]) <|
 .ret
end Am.T
