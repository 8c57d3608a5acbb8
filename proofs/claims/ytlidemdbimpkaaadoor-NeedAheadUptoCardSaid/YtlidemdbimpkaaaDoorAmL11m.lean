/- Walks: NeedMore. -/
import Derived.Test.YtlidemdbimpkaaaDoorAmJn
import Derived.Test.YtlidemdbimpkaaaDoorAmNl2
import Derived.Test.YtlidemdbimpkaaaDoorAmGL11W
import Derived.Test.YtlidemdbimpkaaaDoorAmAwk
import Derived.Test.YtlidemdbimpkaaaDoorAmFu
import Derived.Test.YtlidemdbimpkaaaDoorAmSm
set_option linter.unusedSimpArgs false
set_option linter.unusedVariables false
namespace Am.F
open Go Am
section
variable {β:Type} {t:ETree} {p:List Df}
theorem zjL{p:List Df}(hp:zo p=true){fuel:Nat}(hf:fuel<=400):(runQ p fuel).2.length<=401/\∀x ∈ (runQ p fuel).2,x.args.length<=8:=by
 obtain⟨_,_,r3,r4⟩:=ziO hp hf;refine⟨r3,λx hx=>?_⟩;obtain⟨q,hq⟩:=List.mem_iff_getElem?.1 hx;have nd:=r4 q x hq;have h1:=nd.args;have h2:=nd.fn1;have h3:=nd.fn0;obtain⟨df,hdf⟩:∃df,p[x.fn.toNat]?=some df:=⟨_,List.getElem?_eq_getElem (by omega)⟩
 rw[zha hdf] at h1;have:=zj5 hp hdf
 omega
end
end Am.F
