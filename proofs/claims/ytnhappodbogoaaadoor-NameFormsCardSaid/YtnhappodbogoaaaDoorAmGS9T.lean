/- Functions of the program, as the abstract machine has them. -/
import Derived.Test.YtnhappodbogoaaaDoorAmJc
namespace Am.T
open Go
/- sleuth/sleuthlaw9.small -/
def s154 : SFn := .src 15 [0, 1, 10] [.cellN 0 1] <|
 .seq (.reg [
  .set 0 (.op (some 0) (.alloc 0 [.nils]) [])]) <|
 .seq (.reg [
  .set 2 (.op (some 10) (.build [(.int .i64 0), .nils] [(1, 1)]) [(.op (some 9) (.bslice 0 [(.int .i64 0), (.int .i64 0), (.int .i64 0), .nils, (.int .i64 0), (.int .i64 0), (.int .i64 0), .nils, (.int .i64 0), (.int .i64 0), (.int .i64 0), .nils, (.int .i64 0), (.int .i64 0), (.int .i64 0), .nils, (.int .i64 0), (.int .i64 0), (.int .i64 0), .nils] 5 [(0, 4), (4, 4), (8, 4), (12, 4), (16, 4)]) [(.op (some 2) (.build [(.int .i64 0), (.int .i64 0), (.int .i64 0), .nils] [(0, 1)]) [(.k (.int .i64 7))]), (.op (some 3) (.build [(.int .i64 0), (.int .i64 0), (.int .i64 0), .nils] [(1, 1)]) [(.k (.int .i64 4))]), (.op (some 5) (.build [(.int .i64 0), (.int .i64 0), (.int .i64 0), .nils] [(0, 1), (1, 1), (3, 1)]) [(.k (.int .i64 3)), (.k (.int .i64 7)), (.op (some 4) (.bslice 0 [(.int .i64 0), (.int .i64 0)] 2 [(0, 1), (1, 1)]) [(.k (.int .i64 0)), (.k (.int .i64 1))])]), (.op (some 6) (.build [(.int .i64 0), (.int .i64 0), (.int .i64 0), .nils] [(1, 1)]) [(.k (.int .i64 5))]), (.op (some 8) (.build [(.int .i64 0), (.int .i64 0), (.int .i64 0), .nils] [(0, 1), (1, 1), (3, 1)]) [(.k (.int .i64 2)), (.k (.int .i64 1)), (.op (some 7) (.bslice 0 [(.int .i64 0), (.int .i64 0)] 2 [(0, 1), (1, 1)]) [(.k (.int .i64 2)), (.k (.int .i64 3))])])])]),
  .set 1 (.op (some 1) (.alloc 0 [(.int .i64 0), .nils]) []),
  .ef (.op none (.store 2) [(.v 1 none), (.v 2 none)])]) <|
 .seq (.dreg [11, 12, 13, 14] [
  ⟨(some 3), .loadN 2, [.t 1], none⟩,
  ⟨(some 4), .call 183, [], none⟩,
  ⟨(some 5), .bslice 0 [(.int .i64 0), .nils, (.int .i64 0), .nils] 2 [(0, 2), (2, 2)], [.t 3, .t 4], none⟩,
  ⟨(some 6), .build [.nils] [(0, 1)], [.t 5], none⟩,
  ⟨none, .store 1, [.t 0, .t 6], none⟩]
  [.op 0, .op 1, .chk 0, .op 2, .op 3, .op 4]) <|
 .ret
/- sleuth/sleuthlaw9.adds -/
def s183 : SFn := .src 14 [0] [.cellN 0 2] <|
 .seq (.reg [
  .set 0 (.op (some 0) (.alloc 0 [(.int .i64 0), .nils]) [])]) <|
 .seq (.reg [
  .ef (.op none (.store 2) [(.v 0 none), (.op (some 13) (.build [(.int .i64 0), .nils] [(0, 1), (1, 1)]) [(.k (.int .i64 2)), (.op (some 12) (.bslice 0 [(.int .i64 0), (.int .i64 0), (.int .i64 0), .nils, (.int .i64 0), (.int .i64 0), (.int .i64 0), .nils, (.int .i64 0), (.int .i64 0), (.int .i64 0), .nils, (.int .i64 0), (.int .i64 0), (.int .i64 0), .nils, (.int .i64 0), (.int .i64 0), (.int .i64 0), .nils, (.int .i64 0), (.int .i64 0), (.int .i64 0), .nils, (.int .i64 0), (.int .i64 0), (.int .i64 0), .nils, (.int .i64 0), (.int .i64 0), (.int .i64 0), .nils] 8 [(0, 4), (4, 4), (8, 4), (12, 4), (16, 4), (20, 4), (24, 4), (28, 4)]) [(.op (some 1) (.build [(.int .i64 0), (.int .i64 0), (.int .i64 0), .nils] [(0, 1)]) [(.k (.int .i64 1))]), (.op (some 2) (.build [(.int .i64 0), (.int .i64 0), (.int .i64 0), .nils] [(0, 1), (1, 1)]) [(.k (.int .i64 1)), (.k (.int .i64 3))]), (.op (some 3) (.build [(.int .i64 0), (.int .i64 0), (.int .i64 0), .nils] [(0, 1), (1, 1)]) [(.k (.int .i64 1)), (.k (.int .i64 1))]), (.op (some 5) (.build [(.int .i64 0), (.int .i64 0), (.int .i64 0), .nils] [(0, 1), (3, 1)]) [(.k (.int .i64 4)), (.op (some 4) (.bslice 0 [(.int .i64 0), (.int .i64 0)] 2 [(0, 1), (1, 1)]) [(.k (.int .i64 1)), (.k (.int .i64 2))])]), (.op (some 6) (.build [(.int .i64 0), (.int .i64 0), (.int .i64 0), .nils] [(0, 1)]) [(.k (.int .i64 1))]), (.op (some 7) (.build [(.int .i64 0), (.int .i64 0), (.int .i64 0), .nils] [(0, 1), (1, 1)]) [(.k (.int .i64 1)), (.k (.int .i64 1))]), (.op (some 9) (.build [(.int .i64 0), (.int .i64 0), (.int .i64 0), .nils] [(0, 1), (3, 1)]) [(.k (.int .i64 4)), (.op (some 8) (.bslice 0 [(.int .i64 0), (.int .i64 0)] 2 [(0, 1), (1, 1)]) [(.k (.int .i64 4)), (.k (.int .i64 5))])]), (.op (some 11) (.build [(.int .i64 0), (.int .i64 0), (.int .i64 0), .nils] [(0, 1), (1, 1), (2, 1), (3, 1)]) [(.k (.int .i64 5)), (.k (.int .i64 7)), (.k (.int .i64 2)), (.op (some 10) (.bslice 0 [(.int .i64 0), (.int .i64 0), (.int .i64 0)] 3 [(0, 1), (1, 1), (2, 1)]) [(.k (.int .i64 0)), (.k (.int .i64 3)), (.k (.int .i64 6))])])])])])]) <|
 .ret
end Am.T
