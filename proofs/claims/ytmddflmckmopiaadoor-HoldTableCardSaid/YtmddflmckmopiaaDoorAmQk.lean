/- A check whose continuation is a function. -/
import Derived.Test.YtmddflmckmopiaaDoorAmJc
namespace Am.F
open Go Am
variable {β : Type}
noncomputable def qChkU (v w : AV) {k : VK β} (_ : Wr k) : Option β := fChk v w (k v)
end Am.F
