/- Functions of the program, as the abstract machine has them. -/
import Derived.Test.YtmddflmckmopiaaDoorAmJc
namespace Am.T
open Go
/- sleuth/sleuthlaw14.some -/
def s257 : SFn := .src 10 [0] [.tmp 0] <|
 .seq (.reg [
  .set 0 (.op (some 0) .mov [(.k .nils)])]) <|
 .seq (.reg [
  .set 0 (.op (some 0) .mov [(.op (some 9) (.bslice 0 [(.int .i64 0), (.int .i64 0), .nils, (.str []), (.int .i64 0), (.int .i64 0), .nils, (.str []), (.int .i64 0), (.int .i64 0), .nils, (.str []), (.int .i64 0), (.int .i64 0), .nils, (.str []), (.int .i64 0), (.int .i64 0), .nils, (.str [])] 5 [(0, 4), (4, 4), (8, 4), (12, 4), (16, 4)]) [(.op (some 1) (.build [(.int .i64 0), (.int .i64 0), .nils, (.str [])] [(1, 1), (3, 1)]) [(.k (.int .i64 (-1))), (.k (.str [57]))]), (.op (some 3) (.build [(.int .i64 0), (.int .i64 0), .nils, (.str [])] [(0, 1), (1, 1), (2, 1), (3, 1)]) [(.k (.int .i64 1)), (.k (.int .i64 0)), (.op (some 2) (.bslice 0 [(.str []), (.str [])] 2 [(0, 1), (1, 1)]) [(.k (.str [64, 55, 40, 95, 32, 52, 41])), (.k (.str [53]))]), (.k (.str [57]))]), (.op (some 4) (.build [(.int .i64 0), (.int .i64 0), .nils, (.str [])] [(0, 1), (1, 1), (3, 1)]) [(.k (.int .i64 2)), (.k (.int .i64 0)), (.k (.str [33]))]), (.op (some 6) (.build [(.int .i64 0), (.int .i64 0), .nils, (.str [])] [(0, 1), (1, 1), (2, 1), (3, 1)]) [(.k (.int .i64 1)), (.k (.int .i64 1)), (.op (some 5) (.bslice 0 [(.str []), (.str [])] 2 [(0, 1), (1, 1)]) [(.k (.str [49])), (.k (.str [95]))]), (.k (.str [95]))]), (.op (some 8) (.build [(.int .i64 0), (.int .i64 0), .nils, (.str [])] [(0, 1), (1, 1), (2, 1), (3, 1)]) [(.k (.int .i64 1)), (.k (.int .i64 2)), (.op (some 7) (.bslice 0 [(.str []), (.str [])] 2 [(0, 1), (1, 1)]) [(.k (.str [49])), (.k (.str [95]))]), (.k (.str [95]))])])])]) <|
 .ret
end Am.T
