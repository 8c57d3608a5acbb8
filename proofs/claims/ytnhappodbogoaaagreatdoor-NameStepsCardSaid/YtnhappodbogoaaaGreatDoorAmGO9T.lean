/- Functions of the program, as the abstract machine has them. -/
import Derived.Test.YtnhappodbogoaaaGreatDoorAmJc
namespace Am.T
open Go
/- sleuth/sleuthlaw9.one -/
def s245 : SFn := .src 13 [0, 2, 3, 5, 10, 11] [.cellN 1 1] <|
 .seq (.reg [
  .set 1 (.op (some 2) (.alloc 0 [.nils]) [])]) <|
 .seq (.reg [
  .set 3 (.op (some 5) .mov [(.op (some 9) (.call 148) [(.op (some 8) (.binS .add) [(.op (some 7) (.binS .add) [(.k (.str [40, 100, 101, 102, 32, 48, 32])), (.v 0 (some 6))]), (.k (.str [41, 10, 40, 100, 101, 102, 32, 50, 32, 40, 99, 97, 115, 101, 32, 36, 48, 32, 64, 55, 32, 50, 32, 40, 43, 32, 36, 51, 32, 36, 49, 41, 32, 40, 43, 32, 36, 48, 32, 36, 49, 41, 41, 41, 10, 40, 100, 101, 102, 32, 49, 32, 40, 102, 50, 32, 36, 48, 41, 41, 10, 40, 100, 101, 102, 32, 50, 32, 36, 49, 41, 10]))])])]),
  .set 4 (.op (some 10) (.ext 0) [(.v 3 none)]),
  .set 5 (.op (some 11) (.ext 1) [(.v 3 none)]),
  .set 2 (.op (some 3) (.alloc 0 [.nils]) []),
  .ef (.op none (.store 1) [(.v 2 none), (.v 4 none)]),
  .ef (.v 5 (some 4))]) <|
 .seq (.reg [
  .ef (.op none (.store 1) [(.v 1 none), (.op (some 12) (.loadN 1) [(.v 2 none)])])]) <|
 .ret
end Am.T
