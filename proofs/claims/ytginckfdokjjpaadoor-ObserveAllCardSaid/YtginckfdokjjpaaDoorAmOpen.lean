/- A row that says 'true,whatever it reads': from a run over what its arguments read as. -/
import Derived.Test.YtginckfdokjjpaaDoorAmJd
import Derived.Carry
namespace Am
open Go Go.RowKit Go.ChangeShapes Go.WideShapes
def zdG(S:St)(t:Ty)(a:AV)(d:Dat):Prop:=match t with
 | .st fs=>∃us,a = .agg us/\Rep S (.st fs) us d
 | t=>Rep S t [a] d
def zbO(S:St):List Ty->List AV->List Dat->Prop
 | [],us,ds=>us=[]/\ds=[]
 | t::ts,us,ds=>∃a us' d ds',us=a::us'/\ds=d::ds'/\zdG S t a d/\zbO S ts us' ds'
def FitsL(P:Program):List Ty->List TypeId->Prop
 | [],ts=>ts=[]
 | f::fs,ts=>∃t ts',ts=t::ts'/\Fits P f t/\FitsL P fs ts'
theorem zdG.mono{S T:St}{t:Ty}{a:AV}{d:Dat}(h:zdG S t a d):zdG (S++T) t a d:=by
 cases t with
 | st fs=>obtain⟨us,h1,h2⟩:=h;exact⟨us,h1,h2.mono⟩
 | int k=>show Rep (S++T) (.int k) [a] d;exact Rep.mono (t:=.int k) h
 | str=>show Rep (S++T) .str [a] d;exact Rep.mono (t:=.str) h
 | bool=>show Rep (S++T) .bool [a] d;exact Rep.mono (t:=.bool) h
 | sl e=>show Rep (S++T) (.sl e) [a] d;exact Rep.mono (t:=.sl e) h
theorem zbO.mono{S T:St}:∀{ts:List Ty} {us:List AV} {ds:List Dat},zbO S ts us ds->zbO (S++T) ts us ds
 | [],_,_,h=>h
 | _::_,_,_,⟨a,us',d,ds',h1,h2,h3,h4⟩=>⟨a,us',d,ds',h1,h2,h3.mono,h4.mono⟩
section
variable {kf kt:Nat->Nat} {P:Program} {W:World} {H:Type} {enc:TypeId × Value->H} {held:Bool}
theorem readArg(hw:0<W.heap.size){ty:Ty}{t:TypeId}{v:Value}{d:DataW H}{p:List MemPlace}{base:Nat}{r:Reach}{fm:FM}{S:St}(hf:Fits P ty t)(hv:Value.okWide P W r base t v)
  (h:DataW.Trod enc P W 0 (λ_=>true) held t v d p) (hR:R kf kt (zab W) fm S W) :
  ∃T ext a x,R kf kt (zab W) (fm++ext) (S++T) W/\VR kf (fm++ext) a v/\zdG (S++T) ty a x/\d=toW ty x:=by
 obtain⟨fuel,hx⟩:=h;have one:∀(_:v.cells=#[v]) (_:ty.size=1) (_:∀{S:St} {a:AV} {x:Dat},Rep S ty [a] x->zdG S ty a x),∃T ext a x,R kf kt (zab W) (fm++ext) (S++T) W/\VR kf (fm++ext) a v/\zdG (S++T) ty a x/\d=toW ty x:=by
  intro hc hs ha;rw[hc] at hx;obtain⟨T,ext,us,x,h1,h2,_,h4,h5,h6⟩:=(read hw fuel ty t [v] (d,p) fm S hx hf hR).ex;rw[hs] at h4;obtain⟨a,rfl⟩:∃a,us=[a]:=by
   match us,h4 with
   | [a],_=>exact⟨a,rfl⟩
  obtain⟨u,h7,h8⟩:=h2.one;cases h7;exact⟨T,ext,a,x,h1,h8,ha h5,h6⟩
 cases ty with
 | int k=>
  simp only[Fits] at hf;obtain⟨n,rfl⟩:=okWide_int hf hv;exact one rfl rfl λh=>h
 | str=>
  simp only[Fits] at hf;obtain⟨s,rfl⟩:=okWide_string hf hv;exact one rfl rfl λh=>h
 | bool=>
  simp only[Fits] at hf;obtain⟨b,rfl⟩:=okWide_bool hf hv;exact one rfl rfl λh=>h
 | sl e=>
  have hf':=hf;simp only[Fits] at hf';obtain⟨te,hf',_⟩:=hf';obtain⟨a,len,cap,rfl⟩:=okWide_slice hf' hv;exact one rfl rfl λh=>h
 | st fs=>
  have hf':=hf;simp only[Fits] at hf';obtain⟨fds,hf',_⟩:=hf';obtain⟨cs,rfl,_⟩:=okWide_struct hf' hv;obtain⟨T,ext,us,x,h1,h2,h3,h4,h5,h6⟩:=(read hw fuel (.st fs) t _ (d,p) fm S hx hf hR).ex;exact⟨T,ext,.agg us,x,h1,by simp only[VR];exact⟨cs,rfl,h3,h2⟩,⟨us,rfl,h5⟩,h6⟩
theorem ziw(hw:0<W.heap.size){base:Nat}{r:Reach}:∀(tys:List Ty) (ts:List TypeId) (vs:List Value) (ds:List (DataW H)) (p:List MemPlace) (fm:FM) (S:St),FitsL P tys ts ->
  (∀(j:Nat) t v,ts[j]?=some t->vs[j]?=some v->Value.okWide P W r base t v)->DataW.TrodAll enc P W 0 (λ_=>true) held ts vs ds p->R kf kt (zab W) fm S W ->
  ∃T ext us xs,R kf kt (zab W) (fm++ext) (S++T) W/\VRs kf (fm++ext) us vs/\zbO (S++T) tys us xs/\ds=toWz tys xs
 | [],ts,vs,ds,p,fm,S,hf,hv,h,hR=>by
  cases hf;cases vs with
  | nil=>cases ds with
   | nil=>exact⟨[],[],[],[],by simpa using hR,by simp[VRs],⟨rfl,rfl⟩,by simp[toWz]⟩
   | cons=>exact absurd h (by simp[DataW.TrodAll])
  | cons=>exact absurd h (by simp[DataW.TrodAll])
 | ty::tys,ts,vs,ds,p,fm,S,hf,hv,h,hR=>by
  obtain⟨t,ts',rfl,h1,h2⟩:=hf;cases vs with
  | nil=>exact absurd h (by simp[DataW.TrodAll])
  | cons v vs=>cases ds with
   | nil=>exact absurd h (by simp[DataW.TrodAll])
   | cons d ds=>
    obtain⟨p',q',h3,h4,rfl⟩:=h;obtain⟨T,ext,a,x,h5,h6,h7,h8⟩:=readArg hw h1 (hv 0 t v rfl rfl) h3 hR;obtain⟨T',ext',us,xs,h9,h10,h11,h12⟩:=ziw hw tys ts' vs ds q' _ _ h2 (λj t v ht hv'=>hv (j+1) t v (by simpa using ht) (by simpa using hv')) h4 h5;refine⟨T++T',ext++ext',a::us,x::xs,by rw[<- List.append_assoc,<- List.append_assoc];exact h9,?_,?_,by simp[toWz,h8,h12]⟩
    ·simp only[VRs];exact⟨v,vs,rfl,by rw[<- List.append_assoc];exact h6.mono,by rw[<- List.append_assoc];exact h10⟩
    ·exact⟨a,us,x,xs,rfl,rfl,by rw[<- List.append_assoc];exact h7.mono,by rw[<- List.append_assoc];exact h11⟩
theorem zcd{W':World}(hlay:laidOutB P=true)(hb:Below W.heap.size W W'):∀(ts:List TypeId) (vs:List Value) (ds:List (DataW H)) (p:List MemPlace),(∀t ∈ ts,P.readableRec t=true/\t<P.types.size) ->
  DataW.TrodAll enc P W 0 (λ_=>true) true ts vs ds p->(∀x ∈ p,x.block<W.heap.size)->DataW.TrodAll enc P W' 0 (λb=>decide (b<W.heap.size)) true ts vs ds p
 | [],[],[],p,_,h,_=>h
 | t::ts,v::vs,d::ds,p,hr,⟨p',q',h1,h2,h3⟩,hl=>by
  subst h3;refine⟨p',q',Below.trod hlay (hr t (by simp)).1 (hr t (by simp)).2 h1 hb (λx hx=>hl x (by simp[hx])),?_,rfl⟩;exact zcd hlay hb ts vs ds q' (λt ht=>hr t (by simp[ht])) h2 (λx hx=>hl x (by simp[hx]))
 | [],_::_,_,_,_,h,_=>by simp[DataW.TrodAll] at h
 | [],[],_::_,_,_,h,_=>by simp[DataW.TrodAll] at h
 | _::_,[],_,_,_,h,_=>by simp[DataW.TrodAll] at h
 | _::_,_::_,[],_,_,h,_=>by simp[DataW.TrodAll] at h
theorem Turned.below{W':World}(ht:Turned (zab W) W W'):Below W.heap.size W W':=⟨ht.os,ht.tape,ht.output,ht.size,λk hk=>ht.block k hk⟩
theorem zeO{G:Base->Prop}(hGm:zca G){t:F.ETree}{I:F.FI}(hL:Link P kf kt G λk=>(t.T k).map SFn.fl)(hok:∀k f,t.T k=some f->f.ok=true)(hI:F.IOk t.T I)
  {f:FuncId} {fn:Func} {s:ChangeSpec} {tys:List Ty} {rt:TypeId} (hrt:fn.resultTypes=#[rt]) (hb:P.underlying rt=some .bool) (hfit:FitsL P tys fn.params.toList) (hlay:laidOutB P=true)
  (hread:∀t ∈ fn.params.toList,P.readableRec t=true/\t<P.types.size) (hvars:s.vars=[])
  (hspec:∀ds:List (DataW H),ds.length=tys.length->s.fn H ds={ results:=[.lit (.bool true)],args:=ds }) {cond:List Dat->Prop}
  (hrun:∀S h args xs,F.Abs h S->zbO S tys args xs->cond xs->∃n,F.za t I n (.fn (kf f) []) args h (λv _=>some v)=some (.bool true))
  {base:Nat} {args:Array Value} {ds gs:List (DataW H)} {before:List MemPlace}
  (hval:∀(j:Nat) t v,fn.params[j]?=some t->args[j]?=some v->Value.okWide P W .any base t v)
  (hW:DataW.Whole enc P fn.params.toList s.vars false W args.toList ds gs before) (hG:G (zab W)) (hw:0<W.heap.size) (hc:∀xs,ds=toWz tys xs->cond xs) :
  Calls P f args W λe W'=>∃v,e = .returned v/\s.post enc P fn false true false false W args v W':=by
 have hW':=hW;obtain⟨p,q,hA0,hV,hbe,hfz,hnd⟩:=hW;have hA:DataW.TrodAll enc P W 0 (λ_=>true) true fn.params.toList args.toList ds p:=hA0;have hgs:gs=[]/\q=[]:=by
  rw[hvars] at hV;cases gs with
  | nil=>exact⟨rfl,hV⟩
  | cons=>exact absurd hV (by simp[DataW.TrodVars])
 obtain⟨rfl,rfl⟩:=hgs;obtain⟨T,ext,us,xs,h1,h2,h3,h4⟩:=ziw (kf:=kf) (kt:=kt) hw (base:=base) (r:=.any) tys fn.params.toList args.toList ds p [] [] hfit (λj t v ht hv=>hval j t v (by simpa using ht) (by simpa using hv)) hA (R.start W);obtain⟨h,ha⟩:=F.Abs.ex ([]++T);obtain⟨n,hr⟩:=hrun _ h us xs ha h3 (hc xs h4);obtain⟨_,v',S',h',_,h5,h6⟩:=zhA hGm hL hok hI hr ha hG h1 h2;cases h5;have h7:=callsIn_wide.1 h6;rw[show args.toList.toArray=args from by simp] at h7;have hlen:ds.length=tys.length:=by
  have aux:∀(tys:List Ty) (us:List AV) (xs:List Dat) (S:St),zbO S tys us xs->(toWz (H:=H) tys xs).length=tys.length:=by
   intro tys
   induction tys with
   | nil=>intro us xs S h;simp[toWz]
   | cons ty tys ih=>
    intro us xs S h;obtain⟨a,us',d,ds',rfl,rfl,_,h8⟩:=h;simp[toWz,ih us' ds' S h8]
  rw[h4];exact aux tys us xs _ h3
 refine h7.mono ?_
 rintro e W' ⟨ext',u,rfl,h8,h9⟩
 simp only[VR] at h9;subst h9;refine⟨_,rfl,ds,[],before,[],p,[],hW',?_,?_,?_,zcA h8.below _,λh=>by cases h⟩
 ·rw[List.append_nil,hspec ds hlen,hrt];exact trodAll_cons_mk (shut_bool hb _) trodAll_mk0
 ·rw[List.append_nil,hspec ds hlen];exact zcd hlay h8.below.below _ _ _ _ hread hA λx hx=>by simpa using hW'.lt x (by rw[hbe];simp[hx])
 ·rw[List.append_nil,hspec ds hlen,hvars];rfl
theorem Rep.texts{S:St}{h:F.H}{a:AV}{x:Dat}(ha:F.Abs h S)(hr:Rep S (.sl .str) [a] x):∃no kids sp,F.SlAt h a (F.strs kids)/\x = .sl no (kids.map Dat.str) sp/\(no=true->kids=[])/\(∀y ∈ kids,y.length<=maxLen)/\kids.length<=maxLen:=by
 simp only[Rep] at hr;rcases hr with⟨h1,h2⟩|⟨b,cs,es,sp,h1,h2,h3,h4,h5,h6⟩
 ·cases h1;exact⟨true,[],[],.inl ⟨rfl,rfl⟩,h2,λ_=>rfl,by simp,Nat.zero_le _⟩
 ·cases h1;have h4:cs.length=es.length+sp.length:=by rw[h4];simp[Ty.size]
  have key:∀(i:Nat) (x:Dat),es[i]?=some x->∃s:List UInt8,x=Dat.str s/\cs[i]?=some (AV.str s)/\s.length<=maxLen:=by
   intro i x hx;obtain⟨s,h7,h8,h9⟩:=h6 i x (by rw[List.getElem?_append_left (List.getElem?_eq_some_iff.1 hx).1];exact hx);refine⟨s,h8,?_,h9⟩;have:=congrArg (λl:List AV=>l[0]?) h7
   simp only[Ty.size,Nat.mul_one,List.getElem?_take,List.getElem?_drop] at this;simpa using this
  have hes:es=(es.map λx:Dat=>match x with|.str s=>s|_=>[]).map Dat.str:=by
   apply List.ext_getElem?;intro i;rw[List.getElem?_map,List.getElem?_map];cases hx:es[i]? with
   | none=>rfl
   | some x=>obtain⟨s,rfl,_⟩:=key i x hx;rfl
  refine⟨false,es.map λx:Dat=>match x with|.str s=>s|_=>[],sp,?_,by rw[<- hes];exact h2,(λh=>nomatch h),?_,by rw[List.length_map];omega⟩
  ·have hb:b<h.n:=by rw[<- ha.len];exact (List.getElem?_eq_some_iff.1 h3).1
   have hg:h.get b = .ro cs:=by rw[<- ha.get b,List.getD_eq_getElem?_getD,h3];rfl
   refine .inr ⟨b,0,es.length+sp.length,none,cs,by simp[F.strs],hb,by rw[hg];rfl,?_,by simp[F.strs];omega⟩;apply List.ext_getElem?;intro i;simp only[List.drop_zero,List.getElem?_take,F.strs,List.length_map,List.getElem?_map];cases hx:es[i]? with
   | none=>rw[if_neg (by have:=List.getElem?_eq_none_iff.1 hx;omega)];rfl
   | some x=>
    obtain⟨s,rfl,h7,_⟩:=key i x hx;rw[if_pos (List.getElem?_eq_some_iff.1 hx).1,h7];rfl
  ·intro y hy;rw[List.mem_map] at hy;obtain⟨x,hx,rfl⟩:=hy;obtain⟨i,hi⟩:=List.mem_iff_getElem?.1 hx;obtain⟨s,rfl,_,h9⟩:=key i x hi;exact h9
end
end Am
