/- Fuel out of any number. -/
import Derived.Test.YtkbjmlcdmbajcaaDoorAmJd
set_option linter.unusedSimpArgs false
set_option linter.unusedVariables false
namespace Am.F
open Go Am
section
variable {β:Type}
theorem rem401(x:Int)(k:VK β):qBin .rem (.int .u64 (IntKind.u64.wrap x)) (.int .u64 401) (.mk k)=k (.int .u64 ((IntKind.u64.wrap x).tmod 401)):=zhH _ _ _ (by decide) k
def zd8(x:Int):Int:=(IntKind.u64.wrap x).tmod 401
theorem zj7(x:Int):0≤zd8 x∧zd8 x≤400:=by
 have:=ziY 401 (by omega) x
 unfold zd8;omega
theorem u64c(x:Int)(k:VK β):zav .u64 (.int .i64 x) (.mk k)=k (.int .u64 (IntKind.u64.wrap x)):=zcg _ _ _ k
end
end Am.F
