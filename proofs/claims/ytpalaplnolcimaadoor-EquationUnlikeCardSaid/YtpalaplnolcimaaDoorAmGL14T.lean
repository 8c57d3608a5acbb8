/- Functions of the program, as the abstract machine has them. -/
import Derived.Test.YtpalaplnolcimaaDoorAmJc
namespace Am.T
open Go
/- sleuth/sleuthlaw14.awake -/
def s256_sleuthlaw14_awake : SFn := .src 47 [0, 1, 2, 3, 4, 6, 7, 12, 13, 14, 19, 20, 21, 24, 25] [.tmp 0] <|
 .seq (.reg [
  .set 0 (.op (some 0) .mov [(.k (.bool false))])]) <|
 .seq (.reg [
  .set 6 (.op (some 7) .mov [(.op (some 11) (.call 258) [(.op (some 10) (.loadN 4) [(.op (some 9) (.iadr 4) [(.op (some 8) (.call 257) []), (.k (.int .i64 1))])])])]),
  .set 7 (.op (some 12) (.ext 0) [(.v 6 none)]),
  .set 8 (.op (some 13) (.ext 1) [(.v 6 none)]),
  .set 1 (.op (some 1) .mov [(.v 7 none)]),
  .set 2 (.op (some 2) .mov [(.v 8 none)])]) <|
 .seq (.reg [
  .set 9 (.op (some 14) .mov [(.op (some 18) (.call 258) [(.op (some 17) (.loadN 4) [(.op (some 16) (.iadr 4) [(.op (some 15) (.call 257) []), (.k (.int .i64 0))])])])]),
  .set 10 (.op (some 19) (.ext 0) [(.v 9 none)]),
  .set 11 (.op (some 20) (.ext 1) [(.v 9 none)]),
  .set 3 (.op (some 3) .mov [(.v 10 none)]),
  .set 4 (.op (some 4) .mov [(.v 11 none)])]) <|
 .seq (.reg [
  .set 12 (.op (some 21) .mov [(.op (some 23) (.call 258) [(.op (some 22) (.build [(.int .i64 0), (.int .i64 0), .nils, (.str [])] []) [])])]),
  .set 13 (.op (some 24) (.ext 0) [(.v 12 none)]),
  .set 14 (.op (some 25) (.ext 1) [(.v 12 none)]),
  .ef (.v 13 (some 5)),
  .set 5 (.op (some 6) .mov [(.v 14 none)])]) <|
 .seq (.reg [
  .set 0 (.op (some 0) .mov [(.and 42 46 (.and 37 41 (.and 33 36 (.and 28 32 (.op (some 27) (.binS .eql) [(.v 1 (some 26)), (.k (.str [102, 49, 32, 64, 55, 40, 95, 32, 52, 41, 32, 53, 32, 61, 32, 57]))]) (.op (some 31) (.binI .eql) [(.op (some 30) (.call 16) [(.v 2 (some 29))]), (.k (.int .i64 0))])) (.op (some 35) (.binS .eql) [(.v 3 (some 34)), (.k (.str [102, 48, 32, 61, 32, 57]))])) (.op (some 40) (.binI .eql) [(.op (some 39) (.call 16) [(.v 4 (some 38))]), (.k (.int .i64 0))])) (.op (some 45) (.binI .eql) [(.op (some 44) (.call 16) [(.v 5 (some 43))]), (.k (.int .i64 1400))]))])]) <|
 .ret

/- sleuth/sleuthlaw14.some -/
def s257_sleuthlaw14_some : SFn := .src 10 [0] [.tmp 0] <|
 .seq (.reg [
  .set 0 (.op (some 0) .mov [(.k .nils)])]) <|
 .seq (.reg [
  .set 0 (.op (some 0) .mov [(.op (some 9) (.bslice 0 [(.int .i64 0), (.int .i64 0), .nils, (.str []), (.int .i64 0), (.int .i64 0), .nils, (.str []), (.int .i64 0), (.int .i64 0), .nils, (.str []), (.int .i64 0), (.int .i64 0), .nils, (.str []), (.int .i64 0), (.int .i64 0), .nils, (.str [])] 5 [(0, 4), (4, 4), (8, 4), (12, 4), (16, 4)]) [(.op (some 1) (.build [(.int .i64 0), (.int .i64 0), .nils, (.str [])] [(1, 1), (3, 1)]) [(.k (.int .i64 (-1))), (.k (.str [57]))]), (.op (some 3) (.build [(.int .i64 0), (.int .i64 0), .nils, (.str [])] [(0, 1), (1, 1), (2, 1), (3, 1)]) [(.k (.int .i64 1)), (.k (.int .i64 0)), (.op (some 2) (.bslice 0 [(.str []), (.str [])] 2 [(0, 1), (1, 1)]) [(.k (.str [64, 55, 40, 95, 32, 52, 41])), (.k (.str [53]))]), (.k (.str [57]))]), (.op (some 4) (.build [(.int .i64 0), (.int .i64 0), .nils, (.str [])] [(0, 1), (1, 1), (3, 1)]) [(.k (.int .i64 2)), (.k (.int .i64 0)), (.k (.str [33]))]), (.op (some 6) (.build [(.int .i64 0), (.int .i64 0), .nils, (.str [])] [(0, 1), (1, 1), (2, 1), (3, 1)]) [(.k (.int .i64 1)), (.k (.int .i64 1)), (.op (some 5) (.bslice 0 [(.str []), (.str [])] 2 [(0, 1), (1, 1)]) [(.k (.str [49])), (.k (.str [95]))]), (.k (.str [95]))]), (.op (some 8) (.build [(.int .i64 0), (.int .i64 0), .nils, (.str [])] [(0, 1), (1, 1), (2, 1), (3, 1)]) [(.k (.int .i64 1)), (.k (.int .i64 2)), (.op (some 7) (.bslice 0 [(.str []), (.str [])] 2 [(0, 1), (1, 1)]) [(.k (.str [49])), (.k (.str [95]))]), (.k (.str [95]))])])])]) <|
 .ret

/- sleuth/sleuthlaw14.Equations -/
def s291_sleuthlaw14_Equations : SFn := .src 42 [0, 1, 2, 3, 4, 5, 6, 7, 11, 16, 17, 18, 21, 22] [.tmp 2] <|
 .seq (.reg [
  .set 1 (.op (some 1) (.box 0) [(.v 0 none)]),
  .set 2 (.op (some 2) .mov [(.k (.bool false))])]) <|
 .seq (.reg [
  .set 3 (.op (some 3) .mov [(.op (some 10) (.call 244) [(.op (some 9) (.bslice 0 [(.int .i64 0), (.int .i64 0), .nils, (.str [])] 1 [(0, 4)]) [(.op (some 8) (.loadN 4) [(.v 1 none)])])])])]) <|
 .seq (.reg [
  .set 8 (.op (some 11) .mov [(.op (some 15) (.call 258) [(.op (some 14) (.loadN 4) [(.op (some 13) (.iadr 4) [(.v 3 (some 12)), (.k (.int .i64 0))])])])]),
  .set 9 (.op (some 16) (.ext 0) [(.v 8 none)]),
  .set 10 (.op (some 17) (.ext 1) [(.v 8 none)]),
  .set 4 (.op (some 4) .mov [(.v 9 none)]),
  .set 5 (.op (some 5) .mov [(.v 10 none)])]) <|
 .seq (.reg [
  .set 11 (.op (some 18) .mov [(.op (some 20) (.call 295) [(.op (some 19) (.loadN 4) [(.v 1 none)])])]),
  .set 12 (.op (some 21) (.ext 0) [(.v 11 none)]),
  .set 13 (.op (some 22) (.ext 1) [(.v 11 none)]),
  .set 6 (.op (some 6) .mov [(.v 12 none)]),
  .set 7 (.op (some 7) .mov [(.v 13 none)])]) <|
 .seq (.dreg [23, 24, 25, 26, 27, 28, 29, 30, 31, 32, 33, 34, 35, 36, 37, 38, 39, 40, 41] [
  ⟨(some 14), .mov, [.t 4], none⟩,
  ⟨(some 15), .mov, [.t 6], none⟩,
  ⟨(some 16), .binS .eql, [.t 14, .t 15], none⟩,
  ⟨(some 17), .mov, [.t 16], none⟩,
  ⟨(some 18), .mov, [.t 5], (some (17, true))⟩,
  ⟨(some 19), .call 16, [.t 18], (some (17, true))⟩,
  ⟨(some 20), .mov, [.t 7], (some (17, true))⟩,
  ⟨(some 21), .binI .eql, [.t 19, .t 20], (some (17, true))⟩,
  ⟨(some 22), .pick, [.t 17, .t 21, .c (.bool false)], none⟩,
  ⟨(some 23), .mov, [.t 22], none⟩,
  ⟨(some 24), .mov, [.t 3], (some (23, true))⟩,
  ⟨(some 25), .iadr 4, [.t 24, .c (.int .i64 0)], (some (23, true))⟩,
  ⟨(some 26), .loadN 4, [.t 25], (some (23, true))⟩,
  ⟨(some 27), .loadN 4, [.t 1], (some (23, true))⟩,
  ⟨(some 28), .call 166, [.t 26, .t 27], (some (23, true))⟩,
  ⟨(some 29), .pick, [.t 23, .t 28, .c (.bool false)], none⟩,
  ⟨(some 30), .mov, [.t 29], none⟩,
  ⟨(some 31), .call 256, [], (some (30, true))⟩,
  ⟨(some 32), .pick, [.t 30, .t 31, .c (.bool false)], none⟩,
  ⟨(some 2), .mov, [.t 32], none⟩]
  [.op 0, .op 1, .op 2, .op 3, .op 4, .op 6, .op 5, .op 7, .op 8, .op 9, .op 10, .op 11, .op 12, .op 13, .op 14, .op 15, .op 16, .op 17, .op 18, .op 19]) <|
 .ret

/- sleuth/sleuthlaw14.EquationUnlike -/
def s292_sleuthlaw14_EquationUnlike : SFn := .src 93 [0, 1, 2, 3, 4, 6, 7, 8, 9, 10, 11, 12, 13, 14, 17, 20, 21, 22, 25, 26, 27, 30, 33, 34] [.tmp 5] <|
 .seq (.reg [
  .set 3 (.op (some 3) (.box 0) [(.v 0 none)]),
  .set 4 (.op (some 4) (.box 0) [(.v 1 none)]),
  .set 5 (.op (some 6) .mov [(.k (.bool false))])]) <|
 .seq (.ifr [] (.op (some 16) .notB [(.op (some 15) (.call 256) [])])
  (.seq (.reg [
   .set 5 (.op (some 6) .mov [(.k (.bool false))])]) <|
  .ret)
  (.skip)) <|
 .seq (.reg [
  .set 14 (.op (some 17) .mov [(.op (some 19) (.call 258) [(.op (some 18) (.loadN 4) [(.v 3 none)])])]),
  .set 15 (.op (some 20) (.ext 0) [(.v 14 none)]),
  .set 16 (.op (some 21) (.ext 1) [(.v 14 none)]),
  .set 6 (.op (some 7) .mov [(.v 15 none)]),
  .set 7 (.op (some 8) .mov [(.v 16 none)])]) <|
 .seq (.reg [
  .set 17 (.op (some 22) .mov [(.op (some 24) (.call 258) [(.op (some 23) (.loadN 4) [(.v 4 none)])])]),
  .set 18 (.op (some 25) (.ext 0) [(.v 17 none)]),
  .set 19 (.op (some 26) (.ext 1) [(.v 17 none)]),
  .set 8 (.op (some 9) .mov [(.v 18 none)]),
  .set 9 (.op (some 10) .mov [(.v 19 none)])]) <|
 .seq (.reg [
  .set 20 (.op (some 27) (.loadN 4) [(.v 3 none)]),
  .set 10 (.op (some 11) (.alloc 0 [(.int .i64 0), (.int .i64 0), .nils, (.str [])]) []),
  .ef (.op none (.store 4) [(.v 10 none), (.v 20 none)])]) <|
 .seq (.reg [
  .ef (.opr none (.store 1) (.op (some 29) (.fadr 1) [(.v 10 none)]) (.v 2 (some 28)))]) <|
 .seq (.reg [
  .set 21 (.op (some 30) .mov [(.op (some 32) (.call 258) [(.op (some 31) (.loadN 4) [(.v 10 none)])])]),
  .set 22 (.op (some 33) (.ext 0) [(.v 21 none)]),
  .set 23 (.op (some 34) (.ext 1) [(.v 21 none)]),
  .set 11 (.op (some 12) .mov [(.v 22 none)]),
  .set 12 (.op (some 13) .mov [(.v 23 none)])]) <|
 .seq (.ifr [] (.or 38 42 (.op (some 37) (.binI .neq) [(.op (some 36) (.call 16) [(.v 7 (some 35))]), (.k (.int .i64 0))]) (.op (some 41) (.binI .neq) [(.op (some 40) (.call 16) [(.v 9 (some 39))]), (.k (.int .i64 0))]))
  (.seq (.reg [
   .set 5 (.op (some 6) .mov [(.and 50 58 (.or 46 49 (.op (some 45) (.binI .eql) [(.op (some 44) (.call 16) [(.v 7 (some 43))]), (.k (.int .i64 0))]) (.op (some 48) (.binS .eql) [(.v 6 (some 47)), (.k (.str []))])) (.or 54 57 (.op (some 53) (.binI .eql) [(.op (some 52) (.call 16) [(.v 9 (some 51))]), (.k (.int .i64 0))]) (.op (some 56) (.binS .eql) [(.v 8 (some 55)), (.k (.str []))])))])]) <|
  .ret)
  (.skip)) <|
 .seq (.reg [
  .set 13 (.op (some 14) .mov [(.and 71 77 (.and 64 70 (.op (some 63) (.binI .eql) [(.op (some 60) .load1 [(.op (some 59) (.fadr 0) [(.v 3 none)])]), (.op (some 62) .load1 [(.op (some 61) (.fadr 0) [(.v 4 none)])])]) (.op (some 69) (.call 15) [(.op (some 66) .load1 [(.op (some 65) (.fadr 2) [(.v 3 none)])]), (.op (some 68) .load1 [(.op (some 67) (.fadr 2) [(.v 4 none)])])])) (.op (some 76) (.binS .eql) [(.op (some 73) .load1 [(.op (some 72) (.fadr 3) [(.v 3 none)])]), (.op (some 75) .load1 [(.op (some 74) (.fadr 3) [(.v 4 none)])])]))])]) <|
 .seq (.reg [
  .set 5 (.op (some 6) .mov [(.and 88 92 (.and 83 87 (.op (some 82) (.eqB false) [(.op (some 80) (.binS .eql) [(.v 6 (some 78)), (.v 8 (some 79))]), (.v 13 (some 81))]) (.op (some 86) (.binI .eql) [(.op (some 85) (.call 16) [(.v 12 (some 84))]), (.k (.int .i64 0))])) (.op (some 91) (.binS .eql) [(.v 11 (some 89)), (.v 6 (some 90))]))])]) <|
 .ret
end Am.T
