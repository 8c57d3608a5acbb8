/- A row that says 'true,whatever it reads': from a run over what its arguments read as. -/
import Derived.Test.YtanhngcjijbodaaDoorAmJd
import Derived.Carry
namespace Am
open Go Go.RowKit Go.ChangeShapes Go.WideShapes
def zfJ(S:St)(t:Ty)(a:AV)(d:Dat):Prop:=match t with
 | .st fs=>∃us,a = .agg us/\Rep S (.st fs) us d
 | t=>Rep S t [a] d
def zdA(S:St):List Ty->List AV->List Dat->Prop
 | [],us,ds=>us=[]/\ds=[]
 | t::ts,us,ds=>∃a us' d ds',us=a::us'/\ds=d::ds'/\zfJ S t a d/\zdA S ts us' ds'
theorem zfJ.mono{S T:St}{t:Ty}{a:AV}{d:Dat}(h:zfJ S t a d):zfJ (S++T) t a d:=by
 cases t with
 | st fs=>obtain⟨us,h1,h2⟩:=h;exact⟨us,h1,h2.mono⟩
 | int k=>show Rep (S++T) (.int k) [a] d;exact Rep.mono (t:=.int k) h
 | str=>show Rep (S++T) .str [a] d;exact Rep.mono (t:=.str) h
 | bool=>show Rep (S++T) .bool [a] d;exact Rep.mono (t:=.bool) h
 | sl e=>show Rep (S++T) (.sl e) [a] d;exact Rep.mono (t:=.sl e) h
theorem zdA.mono{S T:St}:∀{ts:List Ty} {us:List AV} {ds:List Dat},zdA S ts us ds->zdA (S++T) ts us ds
 | [],_,_,h=>h
 | _::_,_,_,⟨a,us',d,ds',h1,h2,h3,h4⟩=>⟨a,us',d,ds',h1,h2,h3.mono,h4.mono⟩
section
variable {kf kt:Nat->Nat} {P:Program} {W:World} {H:Type} {enc:TypeId × Value->H} {held:Bool}
theorem Turned.below{W':World}(ht:Turned (zaD W) W W'):Below W.heap.size W W':=⟨ht.os,ht.tape,ht.output,ht.size,λk hk=>ht.block k hk⟩
theorem Rep.texts{S:St}{h:F.H}{a:AV}{x:Dat}(ha:F.Abs h S)(hr:Rep S (.sl .str) [a] x):∃no kids sp,F.SlAt h a (F.strs kids)/\x = .sl no (kids.map Dat.str) sp/\(no=true->kids=[])/\(∀y ∈ kids,y.length<=maxLen)/\kids.length<=maxLen:=by
 simp only[Rep] at hr;rcases hr with⟨h1,h2⟩|⟨b,cs,es,sp,h1,h2,h3,h4,h5,h6⟩
 ·cases h1;exact⟨true,[],[],.inl ⟨rfl,rfl⟩,h2,λ_=>rfl,by simp,Nat.zero_le _⟩
 ·cases h1;have h4:cs.length=es.length+sp.length:=by rw[h4];simp[Ty.size]
  have key:∀(i:Nat) (x:Dat),es[i]?=some x->∃s:List UInt8,x=Dat.str s/\cs[i]?=some (AV.str s)/\s.length<=maxLen:=by
   intro i x hx;obtain⟨s,h7,h8,h9⟩:=h6 i x (by rw[List.getElem?_append_left (List.getElem?_eq_some_iff.1 hx).1];exact hx);refine⟨s,h8,?_,h9⟩;have:=congrArg (λl:List AV=>l[0]?) h7
   simp only[Ty.size,Nat.mul_one,List.getElem?_take,List.getElem?_drop] at this;simpa using this
  have hes:es=(es.map λx:Dat=>match x with|.str s=>s|_=>[]).map Dat.str:=by
   apply List.ext_getElem?;intro i;rw[List.getElem?_map,List.getElem?_map];cases hx:es[i]? with
   | none=>rfl
   | some x=>obtain⟨s,rfl,_⟩:=key i x hx;rfl
  refine⟨false,es.map λx:Dat=>match x with|.str s=>s|_=>[],sp,?_,by rw[<- hes];exact h2,(λh=>nomatch h),?_,by rw[List.length_map];omega⟩
  ·have hb:b<h.n:=by rw[<- ha.len];exact (List.getElem?_eq_some_iff.1 h3).1
   have hg:h.get b = .ro cs:=by rw[<- ha.get b,List.getD_eq_getElem?_getD,h3];rfl
   refine .inr ⟨b,0,es.length+sp.length,none,cs,by simp[F.strs],hb,by rw[hg];rfl,?_,by simp[F.strs];omega⟩;apply List.ext_getElem?;intro i;simp only[List.drop_zero,List.getElem?_take,F.strs,List.length_map,List.getElem?_map];cases hx:es[i]? with
   | none=>rw[if_neg (by have:=List.getElem?_eq_none_iff.1 hx;omega)];rfl
   | some x=>
    obtain⟨s,rfl,h7,_⟩:=key i x hx;rw[if_pos (List.getElem?_eq_some_iff.1 hx).1,h7];rfl
  ·intro y hy;rw[List.mem_map] at hy;obtain⟨x,hx,rfl⟩:=hy;obtain⟨i,hi⟩:=List.mem_iff_getElem?.1 hx;obtain⟨s,rfl,_,h9⟩:=key i x hi;exact h9
end
end Am
