/- Walks: programs copied. -/
import Derived.Test.YtlidemdbimpkaaaDoorAmTr2
import Derived.Test.YtlidemdbimpkaaaDoorAmGPW
set_option linter.unusedSimpArgs false
set_option linter.unusedVariables false
namespace Am.F
open Go Am
def zk8(a b:Nat)(h:H)(P:H->Prop):Prop:=∀hh,b<=hh.n->(∀i,a<=i->i<b->hh.get i=h.get i)->P hh
theorem zk8.move{a b:Nat}{h h':H}{P:H->Prop}(hl:zk8 a b h P)(hg:∀i,a<=i->i<b->h'.get i=h.get i):zk8 a b h' P:=λhh h1 h2=>hl hh h1 λi p q=>by rw[h2 i p q,hg i p q]
section
variable {β:Type} {t:ETree}
theorem exRow(u v w z:AV)(hh:H)(kk:K β):zP 0 [.int .i64 0,.int .i64 0,.int .i64 0,.nils] 1 [(0,4)] [.agg [u,v,w,z]] hh (.mk kk)=kk (.sl hh.n 0 1 1 none) (hh.push (.own 0 [u,v,w,z])):=fBslice_n (λ_=>rfl) hh kk
theorem dfRow(u v:AV)(hh:H)(kk:K β):zP 0 [.int .i64 0,.nils] 1 [(0,2)] [.agg [u,v]] hh (.mk kk)=kk (.sl hh.n 0 1 1 none) (hh.push (.own 0 [u,v])):=fBslice_n (λ_=>rfl) hh kk
theorem emptyB(hh:H)(kk:K β):zP 0 [] 0 [] [] hh (.mk kk)=kk (.sl hh.n 0 0 0 none) (hh.push (.own 0 [])):=fBslice_n (λ_=>rfl) hh kk
end
end Am.F
