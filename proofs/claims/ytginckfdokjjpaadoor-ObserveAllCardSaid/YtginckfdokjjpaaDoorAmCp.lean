/- Walks: programs copied. -/
import Derived.Test.YtginckfdokjjpaaDoorAmTr2
import Derived.Test.YtginckfdokjjpaaDoorAmGPW
set_option linter.unusedSimpArgs false
set_option linter.unusedVariables false
namespace Am.F
open Go Am
def zjK(a b:Nat)(h:H)(P:H->Prop):Prop:=∀hh,b<=hh.n->(∀i,a<=i->i<b->hh.get i=h.get i)->P hh
theorem zjK.move{a b:Nat}{h h':H}{P:H->Prop}(hl:zjK a b h P)(hg:∀i,a<=i->i<b->h'.get i=h.get i):zjK a b h' P:=λhh h1 h2=>hl hh h1 λi p q=>by rw[h2 i p q,hg i p q]
section
variable {β:Type} {t:ETree}
end
end Am.F
