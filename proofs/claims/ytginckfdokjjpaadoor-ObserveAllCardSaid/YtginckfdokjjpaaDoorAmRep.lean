/- Programs,nodes,rows of them that a row's arguments read as. -/
import Derived.Test.YtginckfdokjjpaaDoorAmJh
import Derived.Test.YtginckfdokjjpaaDoorAmJi
set_option linter.unusedVariables false
namespace Am
open Go Go.RowKit F
theorem Rep.rows{α:Type}[Inhabited α]{S:St}{h:F.H}{e:Ty}{a:AV}{x:Dat}{C:F.H->List AV->α->Prop}{Q:α->Dat->Prop}(ha:F.Abs h S)(hr:Rep S (.sl e) [a] x)(hC:∀us d,Rep S e us d->∃y,C h us y/\Q y d) :
  ∃(ys:List α) (no:Bool) (ds sp:List Dat),LAt e.size C h a ys/\x = .sl no ds sp/\(no=true->ds=[])/\ys.length=ds.length/\(∀(i:Nat) (y:α),ys[i]?=some y->∃d,ds[i]?=some d/\Q y d)/\ys.length<=maxLen/\SlG a ys.length:=by
 simp only[Rep] at hr;rcases hr with⟨h1,h2⟩|⟨b,cs,es,sp,h1,h2,h3,h4,h5,h6⟩
 ·cases h1;exact⟨[],true,[],[],.inl ⟨rfl,rfl⟩,h2,λ_=>rfl,rfl,λi y hy=>(by simp at hy),Nat.zero_le _,.inl rfl⟩
 ·cases h1;have key:∀i,∃y:α,∀d,es[i]?=some d->C h ((cs.drop (i*e.size)).take e.size) y/\Q y d:=by
   intro i;cases hd:es[i]? with
   | none=>exact⟨default,λd hd=>(by cases hd)⟩
   | some d=>
    obtain⟨y,h7,h8⟩:=hC _ d (h6 i d (by rw[List.getElem?_append_left (List.getElem?_eq_some_iff.1 hd).1];exact hd));exact⟨y,λd' hd'=>by cases hd';exact⟨h7,h8⟩⟩
  let f:Nat->α:=λi=>Classical.choose (key i)
  have hf:∀i d,es[i]?=some d->C h ((cs.drop (i*e.size)).take e.size) (f i)/\Q (f i) d:=λi=>Classical.choose_spec (key i)
  have hget:∀i y,((List.range es.length).map f)[i]?=some y->∃d,es[i]?=some d/\y=f i:=by
   intro i y hy;rw[List.getElem?_map] at hy;have hi:i<es.length:=by
    rcases Nat.lt_or_ge i es.length with hi|hi
    ·exact hi
    ·rw[List.getElem?_eq_none (by rw[List.length_range];exact hi)] at hy;cases hy
   rw[List.getElem?_range hi] at hy;cases hy;exact⟨es[i],List.getElem?_eq_getElem hi,rfl⟩
  refine⟨(List.range es.length).map f,false,es,sp,?_,h2,(λhh=>nomatch hh),by simp,λi y hy=>?_,by simp;omega,.inr ⟨b,0,es.length+sp.length,by simp,by simp⟩⟩
  ·have hb:b<h.n:=by rw[<- ha.len];exact (List.getElem?_eq_some_iff.1 h3).1
   have hg:h.get b = .ro cs:=by rw[<- ha.get b,List.getD_eq_getElem?_getD,h3];rfl
   refine .inr ⟨b,0,es.length+sp.length,none,cs,by simp,hb,by rw[hg];rfl,?_,λi y hy=>?_⟩
   ·rw[h4,Nat.zero_add,List.length_map,List.length_range,Nat.add_mul];omega
   ·obtain⟨d,hd,rfl⟩:=hget i y hy;rw[Nat.zero_add];exact (hf i d hd).1
  ·obtain⟨d,hd,rfl⟩:=hget i y hy;exact⟨d,hd,(hf i d hd).2⟩
structure Bulk {H:Type} (B:DataW H->Nat) (BA:List (DataW H)->Nat):Prop where
 str:∀s,B (.lit (.string s))=s.length+1
 int:∀k n,B (.lit (.int k n))=1
 sl:∀e s,B (.slice e s)=BA e+BA s+1
 agg:∀p,B (.agg p)=BA p+1
 nil:BA []=0
 cons:∀d r,BA (d::r)=B d+BA r
section
variable {H:Type} {B:DataW H->Nat} {BA:List (DataW H)->Nat}
theorem Bulk.mem(hB:Bulk B BA):∀{ds:List (DataW H)} {d:DataW H},d ∈ ds->B d<=BA ds
 | x::ds,d,hd=>by
  rw[hB.cons];rcases List.mem_cons.1 hd with rfl|hd
  ·omega
  ·have:=hB.mem hd;omega
theorem Bulk.len(hB:Bulk B BA):∀(ds:List (DataW H)),(∀d ∈ ds,1<=B d)->ds.length<=BA ds
 | [],_=>Nat.zero_le _
 | x::ds,h=>by
  rw[hB.cons,List.length_cons];have:=hB.len ds λd hd=>h d (List.mem_cons_of_mem _ hd)
  have:=h x List.mem_cons_self
  omega
theorem Bulk.slice(hB:Bulk B BA){e:Ty}{no:Bool}{ds sp:List Dat}(hno:no=true->ds=[])(h1:∀d ∈ ds,1<=B (toW e d)):ds.length<=B (toW (.sl e) (.sl no ds sp))/\∀d ∈ ds,B (toW e d)<=B (toW (.sl e) (.sl no ds sp)):=by
 cases no with
 | true=>rw[hno rfl];exact⟨Nat.zero_le _,λd hd=>(by simp at hd)⟩
 | false=>
  simp only[toW,Bool.false_eq_true,if_false,zgR];rw[hB.sl];constructor
  ·have:=hB.len (ds.map (toW e)) λd hd=>by
    obtain⟨x,hx,rfl⟩:=List.mem_map.1 hd;exact h1 x hx
   rw[List.length_map] at this;omega
  ·intro d hd;have:=hB.mem (List.mem_map.2 ⟨d,hd,rfl⟩:toW e d ∈ ds.map (toW e))
   omega
end
def NdD(y:Nd)(d:Dat):Prop:=∃no sp,d = .st [.int y.fn,.int y.parent,.sl no (y.args.map Dat.str) sp,.str y.res]/\(no=true->y.args=[])
instance :Inhabited Nd:=⟨⟨0,0,[],[]⟩⟩
def NdSm(y:Nd):Prop:=(∀z ∈ y.args,z.length<=maxLen)/\y.res.length<=maxLen/\y.args.length<=maxLen
theorem Rep.node2{S:St}{h:F.H}{us:List AV}{d:Dat}(ha:F.Abs h S)(hr:Rep S za9 us d):∃y:Nd,NdC h us y/\NdD y d/\NdSm y:=by
 obtain⟨y,no,sp,⟨v,h1,h2⟩,h3,h4,h5,h6,h7⟩:=Rep.node ha hr;cases h1;exact⟨y,⟨v,rfl,h2⟩,⟨no,sp,h3,h4⟩,h5,h6,h7⟩
theorem NdSm.fit{y:Nd}(h:NdSm y):zgP y:=by
 have hm:maxLen=9223372036854775807:=rfl;exact⟨λz hz=>Nat.le_trans (h.1 z hz) (by omega),Nat.le_trans h.2.1 (by omega),Nat.le_trans h.2.2 (by omega)⟩
theorem Rep.nodes{S:St}{h:F.H}{a:AV}{x:Dat}(ha:F.Abs h S)(hr:Rep S (.sl za9) [a] x) :
  ∃(ys:List Nd) (no:Bool) (ds sp:List Dat),LAt 4 NdC h a ys/\x = .sl no ds sp/\(no=true->ds=[])/\ys.length=ds.length/\(∀(i:Nat) (y:Nd),ys[i]?=some y->∃d,ds[i]?=some d/\NdD y d/\NdSm y)/\ys.length<=maxLen/\SlG a ys.length:=by
 obtain⟨ys,no,ds,sp,h1,h2⟩:=Rep.rows (C:=NdC) (Q:=λy d=>NdD y d/\NdSm y) ha hr λus d hu=>Rep.node2 ha hu
 exact⟨ys,no,ds,sp,h1,h2⟩
theorem zg8{ys:List Nd}{ds:List Dat}(h:∀(i:Nat) (y:Nd),ys[i]?=some y->∃d,ds[i]?=some d/\NdD y d/\NdSm y):∀y ∈ ys,NdSm y:=λy hy=>by
 obtain⟨i,hi⟩:=List.mem_iff_getElem?.1 hy;obtain⟨d,_,_,h3⟩:=h i y hi;exact h3
def zbW:Ty:=.st [.int .i64,.int .i64,.int .i64,.sl (.int .i64)]
def zc3:Ty:=.st [.int .i64,.sl zbW]
def zeY:Ty:=.st [.sl zc3]
instance :Inhabited F.Ex:=⟨⟨0,0,0,[]⟩⟩
instance :Inhabited F.Df:=⟨⟨0,[]⟩⟩
theorem zhb{h:F.H}{v:AV}{xs:List Int}(hs:LAt 1 (λ_ us (n:Int)=>us=[.int .i64 n]) h v xs):SlAt h v (ints xs):=by
 rcases hs with⟨rfl,rfl⟩|⟨b,o,m,g,us,rfl,h2,h3,h4,h5⟩
 ·exact .inl ⟨rfl,rfl⟩
 ·refine .inr ⟨b,o,m,g,us,by rw[zcs],h2,h3,?_,by rw[zcs];omega⟩;rw[zcs];refine List.ext_getElem? λj=>?_
  rw[List.getElem?_take,List.getElem?_drop]
  by_cases hj:j<xs.length
  ·rw[if_pos hj,ints_get hj];have h6:=h5 j xs[j] (List.getElem?_eq_getElem hj);have h7:=congrArg (λl:List AV=>l[0]?) h6;simp only[List.getElem?_take,List.getElem?_drop,Nat.mul_one] at h7;rw[List.getD_eq_getElem?_getD,List.getElem?_eq_getElem hj];simpa using h7
  ·rw[if_neg hj,List.getElem?_eq_none (by rw[zcs];omega)]
theorem Rep.ints{S:St}{h:F.H}{a:AV}{x:Dat}(ha:F.Abs h S)(hr:Rep S (.sl (.int .i64)) [a] x):∃ks:List Int,SlAt h a (F.ints ks)/\ks.length<=maxLen:=by
 obtain⟨ks,no,kd,sp,k1,rfl,k2,k3,k4,k5,_⟩:=Rep.rows (α:=Int) (C:=λ_ us n=>us=[.int .i64 n]) (Q:=λ_ _=>True) ha hr λus d hu=>by
  simp only[Rep] at hu;obtain⟨n,h1,_⟩:=hu;exact⟨n,h1,trivial⟩
 exact⟨ks,zhb k1,k5⟩
def ExD(y:F.Ex)(d:Dat):Prop:=∃no ks sp,d = .st [.int y.kind,.int y.num,.int y.bind,.sl no ks sp]/\(no=true->ks=[])/\ks.length=y.kids.length/\∀x ∈ ks,∃n,x=Dat.int n
theorem Rep.expr{S:St}{h:F.H}{us:List AV}{d:Dat}(ha:F.Abs h S)(hr:Rep S zbW us d):∃y:F.Ex,ExC h us y/\ExD y d/\y.kids.length<=maxLen:=by
 unfold zbW at hr;simp only[Rep,Reps,Ty.size] at hr;obtain⟨ds,rfl,d0,r0,rfl,⟨f,e0,rfl,_⟩,d1,r1,rfl,⟨p,e1,rfl,_⟩,d2,r2,rfl,⟨q,e2,rfl,_⟩,d3,r3,rfl,h3,e4,rfl⟩:=hr;have u0:=zal e0;have u1:=zal e1;have u2:=zal e2;have hsl:Rep S (.sl (.int .i64)) ((((us.drop 1).drop 1).drop 1).take 1) d3:=by simp only[Rep,Ty.size];exact h3
 have hone:∃a,((((us.drop 1).drop 1).drop 1)).take 1=[a]:=by
  rcases h3 with⟨h,_⟩|⟨_,_,_,_,h,_⟩
  ·exact⟨_,h⟩
  ·exact⟨_,h⟩
 obtain⟨a,e3⟩:=hone;have u3:=zal e3;rw[e3] at hsl;obtain⟨ks,no,kd,sp,k1,rfl,k2,k3,k4,k5,_⟩:=Rep.rows (α:=Int) (C:=λ_ us n=>us=[.int .i64 n]) (Q:=λn d=>d = .int n) ha hsl λus d hu=>by
  simp only[Rep] at hu;obtain⟨n,h1,h2,_⟩:=hu;exact⟨n,h1,h2⟩
 refine⟨⟨f,p,q,ks⟩,⟨a,?_,zhb k1⟩,⟨no,kd,sp,rfl,k2,k3.symm,λx hx=>?_⟩,k5⟩
 ·rw[u0,u1,u2,u3,e4];rfl
 ·obtain⟨i,hi⟩:=List.mem_iff_getElem?.1 hx;have hil:=(List.getElem?_eq_some_iff.1 hi).1;obtain⟨d',h1,h2⟩:=k4 i ks[i] (List.getElem?_eq_getElem (by omega));rw[hi] at h1;cases h1;exact⟨_,h2⟩
def DfD(y:F.Df)(d:Dat):Prop:=∃no bs sp,d = .st [.int y.params,.sl no bs sp]/\(no=true->bs=[])/\y.body.length=bs.length/\∀(i:Nat) (e:F.Ex),y.body[i]?=some e->∃b,bs[i]?=some b/\ExD e b/\e.kids.length<=maxLen
theorem Rep.defn{S:St}{h:F.H}{us:List AV}{d:Dat}(ha:F.Abs h S)(hr:Rep S zc3 us d):∃y:F.Df,DfC h us y/\DfD y d/\y.body.length<=maxLen:=by
 unfold zc3 at hr;simp only[Rep,Reps,Ty.size] at hr;obtain⟨ds,rfl,d0,r0,rfl,⟨f,e0,rfl,_⟩,d3,r3,rfl,h3,e4,rfl⟩:=hr;have u0:=zal e0;have hsl:Rep S (.sl zbW) ((us.drop 1).take 1) d3:=by simp only[Rep];exact h3
 have hone:∃a,(us.drop 1).take 1=[a]:=by
  rcases h3 with⟨h,_⟩|⟨_,_,_,_,h,_⟩
  ·exact⟨_,h⟩
  ·exact⟨_,h⟩
 obtain⟨a,e3⟩:=hone;have u3:=zal e3;rw[e3] at hsl;obtain⟨ks,no,kd,sp,k1,rfl,k2,k3,k4,k5,_⟩:=Rep.rows (C:=ExC) (Q:=λy d=>ExD y d/\y.kids.length<=maxLen) ha hsl λus d hu=>Rep.expr ha hu
 refine⟨⟨f,ks⟩,⟨a,?_,k1⟩,⟨no,kd,sp,rfl,k2,k3,k4⟩,k5⟩;rw[u0,u3,e4]
def PgD(p:List F.Df)(d:Dat):Prop:=∃no ds sp,d = .st [.sl no ds sp]/\(no=true->ds=[])/\p.length=ds.length/\∀(i:Nat) (y:F.Df),p[i]?=some y->∃b,ds[i]?=some b/\DfD y b/\y.body.length<=maxLen
theorem Rep.prog{S:St}{h:F.H}{us:List AV}{d:Dat}(ha:F.Abs h S)(hr:Rep S zeY us d):∃p:List F.Df,PgAt h (.agg us) p/\PgD p d/\p.length<=maxLen:=by
 unfold zeY at hr;simp only[Rep,Reps,Ty.size] at hr;obtain⟨ds,rfl,d3,r3,rfl,h3,e4,rfl⟩:=hr;have hsl:Rep S (.sl zc3) (us.take 1) d3:=by simp only[Rep];exact h3
 have hone:∃a,us.take 1=[a]:=by
  rcases h3 with⟨h,_⟩|⟨_,_,_,_,h,_⟩
  ·exact⟨_,h⟩
  ·exact⟨_,h⟩
 obtain⟨a,e3⟩:=hone;have u3:=zal e3;rw[e3] at hsl;obtain⟨ks,no,kd,sp,k1,rfl,k2,k3,k4,k5,_⟩:=Rep.rows (C:=DfC) (Q:=λy d=>DfD y d/\y.body.length<=maxLen) ha hsl λus d hu=>Rep.defn ha hu
 refine⟨ks,⟨a,?_,k1⟩,⟨no,kd,sp,rfl,k2,k3,k4⟩,k5⟩;rw[u3,e4]
end Am
namespace Am
open Go Go.RowKit F
section
variable {H:Type} {B:DataW H->Nat} {BA:List (DataW H)->Nat}
theorem Bulk.pos(hB:Bulk B BA):∀{e:Ty} {S:St} {us:List AV} {d:Dat},(e = .int .i64\/e = .str\/∃fs,e = .st fs)->Rep S e us d->1<=B (toW e d)
 | _,S,us,d,.inl rfl,hr=>by simp only[Rep] at hr;obtain⟨n,_,rfl,_⟩:=hr;simp only[toW,hB.int];omega
 | _,S,us,d,.inr (.inl rfl),hr=>by simp only[Rep] at hr;obtain⟨n,_,rfl,_⟩:=hr;simp only[toW,hB.str];omega
 | _,S,us,d,.inr (.inr ⟨fs,rfl⟩),hr=>by simp only[Rep] at hr;obtain⟨n,rfl,_⟩:=hr;simp only[toW,hB.agg];omega
theorem Bulk.args(hB:Bulk B BA)(ds:List (DataW H)){d:DataW H}(hd:d ∈ ds):B d<=BA ds:=hB.mem hd
theorem Bulk.node(hB:Bulk B BA){y:Nd}{d:Dat}(hd:NdD y d):y.args.length<=B (toW za9 d)/\(∀z ∈ y.args,z.length<=B (toW za9 d))/\y.res.length<=B (toW za9 d)/\1<=B (toW za9 d):=by
 obtain⟨no,sp,rfl,hno⟩:=hd;have h1:=hB.slice (e:=.str) (no:=no) (ds:=y.args.map Dat.str) (sp:=sp) (λh=>by rw[hno h];rfl) λd hd=>by
  obtain⟨z,hz,rfl⟩:=List.mem_map.1 hd;simp only[toW,hB.str];omega
 have e:B (toW (H:=H) za9 (.st [.int y.fn,.int y.parent,.sl no (y.args.map Dat.str) sp,.str y.res]))=1+(1+(B (toW (H:=H) (.sl .str) (.sl no (y.args.map Dat.str) sp))+(y.res.length+1+0)))+1:=by
  simp only[za9,toW,toWz,hB.agg,hB.cons,hB.nil,hB.int,hB.str]
 rw[e];rw[List.length_map] at h1;refine⟨by omega,λz hz=>?_,by omega,by omega⟩;have h2:=h1.2 (.str z) (List.mem_map.2 ⟨z,hz,rfl⟩);rw[toW,hB.str] at h2;omega
theorem Bulk.nodes(hB:Bulk B BA){ys:List Nd}{no:Bool}{ds sp:List Dat}(hno:no=true->ds=[])(hl:ys.length=ds.length)(hd:∀(i:Nat) (y:Nd),ys[i]?=some y->∃d,ds[i]?=some d/\NdD y d/\NdSm y){N:Nat}(hN:B (toW (.sl za9) (.sl no ds sp))<=N) :
  ys.length<=N/\∀y ∈ ys,y.args.length<=N/\(∀z ∈ y.args,z.length<=N)/\y.res.length<=N:=by
 have key:∀d ∈ ds,∃y:Nd,NdD y d:=λd h=>by
  obtain⟨i,hi⟩:=List.mem_iff_getElem?.1 h;have hil:=(List.getElem?_eq_some_iff.1 hi).1;obtain⟨d',h1,h2,_⟩:=hd i ys[i] (List.getElem?_eq_getElem (by omega));rw[hi] at h1;cases h1;exact⟨_,h2⟩
 have h1:=hB.slice (e:=za9) (no:=no) (ds:=ds) (sp:=sp) hno λd h=>by
  obtain⟨y,hy⟩:=key d h;exact (hB.node hy).2.2.2
 refine⟨by omega,λy hy=>?_⟩;obtain⟨i,hi⟩:=List.mem_iff_getElem?.1 hy;obtain⟨d,h2,h3,_⟩:=hd i y hi;have h4:=h1.2 d (List.mem_of_getElem? h2);obtain⟨h5,h6,h7,_⟩:=hB.node h3;exact⟨by omega,λz hz=>by have:=h6 z hz;omega,by omega⟩
theorem Bulk.expr(hB:Bulk B BA){y:F.Ex}{d:Dat}(hd:ExD y d):y.kids.length<=B (toW zbW d)/\1<=B (toW zbW d):=by
 obtain⟨no,ks,sp,rfl,hno,hl,hi⟩:=hd;have h1:=hB.slice (e:=.int .i64) (no:=no) (ds:=ks) (sp:=sp) hno λd hd=>by
  obtain⟨n,rfl⟩:=hi d hd;simp only[toW,hB.int];omega
 have e:B (toW (H:=H) zbW (.st [.int y.kind,.int y.num,.int y.bind,.sl no ks sp]))=1+(1+(1+(B (toW (H:=H) (.sl (.int .i64)) (.sl no ks sp))+0)))+1:=by
  simp only[zbW,toW,toWz,hB.agg,hB.cons,hB.nil,hB.int]
 rw[e];omega
theorem Bulk.defn(hB:Bulk B BA){y:F.Df}{d:Dat}(hd:DfD y d):y.body.length<=B (toW zc3 d)/\(∀e ∈ y.body,e.kids.length<=B (toW zc3 d))/\1<=B (toW zc3 d):=by
 obtain⟨no,bs,sp,rfl,hno,hl,hx⟩:=hd;have key:∀d ∈ bs,∃y:F.Ex,ExD y d:=λd h=>by
  obtain⟨i,hi⟩:=List.mem_iff_getElem?.1 h;have hil:=(List.getElem?_eq_some_iff.1 hi).1;obtain⟨d',h1,h2,_⟩:=hx i y.body[i] (List.getElem?_eq_getElem (by omega));rw[hi] at h1;cases h1;exact⟨_,h2⟩
 have h1:=hB.slice (e:=zbW) (no:=no) (ds:=bs) (sp:=sp) hno λd hd=>by
  obtain⟨y,hy⟩:=key d hd;exact (hB.expr hy).2
 have e:B (toW (H:=H) zc3 (.st [.int y.params,.sl no bs sp]))=1+(B (toW (H:=H) (.sl zbW) (.sl no bs sp))+0)+1:=by
  simp only[zc3,toW,toWz,hB.agg,hB.cons,hB.nil,hB.int]
 rw[e];refine⟨by omega,λx hm=>?_,by omega⟩;obtain⟨i,hi⟩:=List.mem_iff_getElem?.1 hm;obtain⟨d,h2,h3,_⟩:=hx i x hi;have h4:=h1.2 d (List.mem_of_getElem? h2);have h5:=(hB.expr h3).1;omega
theorem Bulk.prog(hB:Bulk B BA){p:List F.Df}{d:Dat}(hd:PgD p d){N:Nat}(hN:B (toW zeY d)<=N):p.length<=N/\∀y ∈ p,DfFit N y:=by
 obtain⟨no,ds,sp,rfl,hno,hl,hx⟩:=hd;have key:∀d ∈ ds,∃y:F.Df,DfD y d:=λd h=>by
  obtain⟨i,hi⟩:=List.mem_iff_getElem?.1 h;have hil:=(List.getElem?_eq_some_iff.1 hi).1;obtain⟨d',h1,h2,_⟩:=hx i p[i] (List.getElem?_eq_getElem (by omega));rw[hi] at h1;cases h1;exact⟨_,h2⟩
 have h1:=hB.slice (e:=zc3) (no:=no) (ds:=ds) (sp:=sp) hno λd hd=>by
  obtain⟨y,hy⟩:=key d hd;exact (hB.defn hy).2.2
 have e:B (toW (H:=H) zeY (.st [.sl no ds sp]))=(B (toW (H:=H) (.sl zc3) (.sl no ds sp))+0)+1:=by
  simp only[zeY,toW,toWz,hB.agg,hB.cons,hB.nil]
 rw[e] at hN;refine⟨by omega,λy hy=>?_⟩;obtain⟨i,hi⟩:=List.mem_iff_getElem?.1 hy;obtain⟨d,h2,h3,_⟩:=hx i y hi;have h4:=h1.2 d (List.mem_of_getElem? h2);obtain⟨h5,h6,_⟩:=hB.defn h3;exact⟨by omega,λe he=>by have:=h6 e he;omega⟩
theorem PgD.fit{p:List F.Df}{d:Dat}(hd:PgD p d):∀y ∈ p,DfFit maxLen y:=by
 obtain⟨no,ds,sp,rfl,hno,hl,hx⟩:=hd;intro y hy;obtain⟨i,hi⟩:=List.mem_iff_getElem?.1 hy;obtain⟨d,h2,h3,h4⟩:=hx i y hi;refine⟨h4,λe he=>?_⟩;obtain⟨_,bs,_,rfl,_,_,h5⟩:=h3;obtain⟨j,hj⟩:=List.mem_iff_getElem?.1 he;obtain⟨b,_,_,h6⟩:=h5 j e hj;exact h6
end
end Am
