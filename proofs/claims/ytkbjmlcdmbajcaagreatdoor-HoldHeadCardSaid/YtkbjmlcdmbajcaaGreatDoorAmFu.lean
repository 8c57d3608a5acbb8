/- Fuel out of any number. -/
import Derived.Test.YtkbjmlcdmbajcaaGreatDoorAmJd
set_option linter.unusedSimpArgs false
set_option linter.unusedVariables false
namespace Am.F
open Go Am
section
variable {β:Type}
theorem zjL(x:Int)(k:VK β):qBin .rem (.int .u64 (IntKind.u64.wrap x)) (.int .u64 401) (.mk k)=k (.int .u64 ((IntKind.u64.wrap x).tmod 401)):=pBin_rem _ _ _ (by decide) k
def zeL(x:Int):Int:=(IntKind.u64.wrap x).tmod 401
theorem zkv(x:Int):0<=zeL x/\zeL x<=400:=by
 have:=u64_rem 401 (by omega) x
 unfold zeL;omega
theorem u64c(x:Int)(k:VK β):zaI .u64 (.int .i64 x) (.mk k)=k (.int .u64 (IntKind.u64.wrap x)):=zbh _ _ _ k
end
end Am.F
