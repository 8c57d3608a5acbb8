/- Fuel out of any number. -/
import Derived.Test.YtddiafpckjhadaaGreatDoorAmJd
set_option linter.unusedSimpArgs false
set_option linter.unusedVariables false
namespace Am.F
open Go Am
section
variable {β:Type}
theorem zc7(x:Int)(k:VK β):qBin .rem (.int .u64 (IntKind.u64.wrap x)) (.int .u64 401) (.mk k)=k (.int .u64 ((IntKind.u64.wrap x).tmod 401)):=pBin_rem _ _ _ (by decide) k
def zL(x:Int):Int:=(IntKind.u64.wrap x).tmod 401
theorem zaU(x:Int):0<=zL x/\zL x<=400:=by
 have:=u64_rem 401 (by omega) x
 unfold zL;omega
theorem u64c(x:Int)(k:VK β):zah .u64 (.int .i64 x) (.mk k)=k (.int .u64 (IntKind.u64.wrap x)):=zcI _ _ _ k
end
end Am.F
