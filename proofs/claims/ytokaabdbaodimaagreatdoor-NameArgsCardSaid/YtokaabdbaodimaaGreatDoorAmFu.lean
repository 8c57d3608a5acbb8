/- Fuel out of any number. -/
import Derived.Test.YtokaabdbaodimaaGreatDoorAmJd
set_option linter.unusedSimpArgs false
set_option linter.unusedVariables false
namespace Am.F
open Go Am
section
variable {β:Type}
theorem rem401(x:Int)(k:VK β):qBin .rem (.int .u64 (IntKind.u64.wrap x)) (.int .u64 401) (.mk k)=k (.int .u64 ((IntKind.u64.wrap x).tmod 401)):=pBin_rem _ _ _ (by decide) k
def zbR(x:Int):Int:=(IntKind.u64.wrap x).tmod 401
theorem zeS(x:Int):0≤zbR x∧zbR x≤400:=by
 have:=u64_rem 401 (by omega) x
 unfold zbR;omega
theorem u64c(x:Int)(k:VK β):zao .u64 (.int .i64 x) (.mk k)=k (.int .u64 (IntKind.u64.wrap x)):=zaM _ _ _ k
end
end Am.F
