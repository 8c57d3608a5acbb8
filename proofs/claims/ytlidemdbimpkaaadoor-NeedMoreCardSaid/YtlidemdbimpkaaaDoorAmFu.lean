/- Fuel out of any number. -/
import Derived.Test.YtlidemdbimpkaaaDoorAmJd
set_option linter.unusedSimpArgs false
set_option linter.unusedVariables false
namespace Am.F
open Go Am
section
variable {β:Type}
theorem rem401(x:Int)(k:VK β):qBin .rem (.int .u64 (IntKind.u64.wrap x)) (.int .u64 401) (.mk k)=k (.int .u64 ((IntKind.u64.wrap x).tmod 401)):=pBin_rem _ _ _ (by decide) k
def zcT(x:Int):Int:=(IntKind.u64.wrap x).tmod 401
theorem zgW(x:Int):0<=zcT x/\zcT x<=400:=by
 have:=u64_rem 401 (by omega) x
 unfold zcT;omega
theorem u64c(x:Int)(k:VK β):ze2 .u64 (.int .i64 x) (.mk k)=k (.int .u64 (IntKind.u64.wrap x)):=zgE _ _ _ k
end
end Am.F
