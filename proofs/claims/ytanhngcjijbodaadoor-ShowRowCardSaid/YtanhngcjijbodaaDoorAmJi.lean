/- Texts that belong together: no condition. -/
import Derived.Test.YtanhngcjijbodaaDoorAmJc
import Derived.Test.YtanhngcjijbodaaDoorAmJh
import Derived.Test.YtanhngcjijbodaaDoorAmJg
import Derived.Test.YtanhngcjijbodaaDoorAmJf
set_option maxRecDepth 100000
set_option linter.unusedVariables false
set_option linter.unusedSimpArgs false
set_option linter.defProp false
section
namespace Am.T
open Go
end Am.T
end
section
namespace Am.F
open Go Am
section
variable {β:Type} {t:ETree} {I:FI} (n:Nat) (a:List AV) (h:H) (k:K β)
end
end Am.F
end
section
namespace Am.F
open Go Am
def NdC(h:H)(cs:List AV)(x:Nd):Prop:=∃w,cs=zgW x w/\SlAt h w (strs x.args)
theorem NdC.stays:zgg NdC:=λ_ _ _ _ ⟨w,h1,h2⟩ e=>⟨w,h1,h2.ext e⟩
def NextP(x:Nd)(i:Nat):Prop:=i<512/\eqMay x=true/\(0<=x.parent/\x.parent<(i:Int)\/i=0/\x.parent = -1)
def zht(ns:List Nd):Prop:=ns≠[]/\∀(q:Nat) (x:Nd),ns[q]?=some x->NextP x q
theorem zht.take{ns:List Nd}(h:zht ns){k:Nat}(hk:0<k)(hk2:k<=ns.length):zht (ns.take k):=by
 refine⟨λhn=>?_,λq x hq=>h.2 q x ?_⟩
 ·have:=congrArg List.length hn
  rw[List.length_take,List.length_nil] at this;omega
 ·rw[List.getElem?_take] at hq;split at hq
  ·exact hq
  ·cases hq
section
variable {β:Type} {t:ETree}
end
end Am.F
end
section
namespace Am.F
open Go Am
structure Levels (d:Df) (lv:List Int):Prop where
 len:lv.length=d.body.length
 last:lv.getD (d.body.length-1) 0=d.params
 part:∀(i:Nat) (e:Ex),d.body[i]?=some e->(0<=lv.getD i 0/\lv.getD i 0<=8)/\zbg e (lv.getD i 0)/\∀(k:Nat) (kid:Int),e.kids[k]?=some kid->(0<=kid/\kid<(i:Int))/\lv.getD kid.toNat 0=lv.getD i 0+more e k
theorem zcD(i:Nat)(e:Ex):∀(ks:List Int) (k:Nat) (lv lv':List Int),zbQ i e k ks lv=some lv'->i<lv.length->¬ lv.getD i 0 = -1->(∀q,0<=lv.getD i 0+more e q) ->
  lv'.length=lv.length/\(∀j,¬ lv.getD j 0 = -1->lv'.getD j 0=lv.getD j 0)/\∀(q:Nat) (kid:Int),ks[q]?=some kid->(0<=kid/\kid<(i:Int))/\lv'.getD kid.toNat 0=lv.getD i 0+more e (k+q:Nat)
 | [],k,lv,lv',h,_,_,_=>by
  cases h;exact⟨rfl,λ_ _=>rfl,λq kid hq=>by simp at hq⟩
 | kid::ks,k,lv,lv',h,hi,hn,hp=>by
  have h':(if 0<=kid/\kid<(i:Int)/\lv.getD kid.toNat 0 = -1 then zbQ i e (k+1) ks (lv.set kid.toNat (lv.getD i 0+more e k)) else none)=some lv':=h
  by_cases hc:0<=kid/\kid<(i:Int)/\lv.getD kid.toNat 0 = -1
  ·rw[if_pos hc] at h';obtain⟨c1,c2,c3⟩:=hc;have hne:kid.toNat≠i:=by omega
   have hgi:(lv.set kid.toNat (lv.getD i 0+more e k)).getD i 0=lv.getD i 0:=getD_set_ne _ _ hne;obtain⟨s1,s2,s3⟩:=zcD i e ks (k+1) _ lv' h' (by rw[List.length_set];exact hi) (by rw[hgi];exact hn) (by rw[hgi];exact hp);rw[hgi] at s3;have hkl:kid.toNat<lv.length:=by omega
   have hself:(lv.set kid.toNat (lv.getD i 0+more e k)).getD kid.toNat 0=lv.getD i 0+more e k:=getD_set_eq _ _ hkl;refine⟨by rw[s1,List.length_set],λj hj=>?_,λq x hq=>?_⟩
   ·have hjk:kid.toNat≠j:=λhh=>by rw[<- hh] at hj;exact hj c3
    have:=s2 j (by rw[getD_set_ne _ _ hjk];exact hj)
    rw[this,getD_set_ne _ _ hjk]
   ·cases q with
    | zero=>
     cases hq;refine⟨⟨c1,c2⟩,?_⟩;have:=s2 kid.toNat (by rw[hself];have:=hp k;omega)
     rw[this,hself];rfl
    | succ q=>
     obtain⟨t1,t2⟩:=s3 q x hq;refine⟨t1,?_⟩;rw[t2];congr 3;omega
  ·rw[if_neg hc] at h';cases h'
theorem zcP(body:List Ex):∀(i:Nat) (lv:List Int),zc8 body i lv=true->i<=lv.length->lv.length=body.length->(∀q,-1<=lv.getD q 0) ->
  ∃fin:List Int,fin.length=lv.length/\(∀j,¬ lv.getD j 0 = -1->fin.getD j 0=lv.getD j 0) /\
   ∀(j:Nat) (e:Ex),j<i->body[j]?=some e->(0<=fin.getD j 0/\fin.getD j 0<=8)/\zbg e (fin.getD j 0)/\∀(k:Nat) (kid:Int),e.kids[k]?=some kid->(0<=kid/\kid<(j:Int))/\fin.getD kid.toNat 0=fin.getD j 0+more e k
 | 0,lv,_,_,_,_=>⟨lv,rfl,λ_ _=>rfl,λj e hj=>absurd hj (by omega)⟩
 | i+1,lv,h,hi,hl,hb=>by
  obtain⟨e,he⟩:∃e,body[i]?=some e:=⟨_,List.getElem?_eq_getElem (by omega)⟩
  by_cases c1:lv.getD i 0 = -1
  ·rw[zdv body i lv he (.inl c1)] at h;cases h
  by_cases c2:8<lv.getD i 0
  ·rw[zdv body i lv he (.inr (.inl c2))] at h;cases h
  by_cases c3:zbg e (lv.getD i 0)
  case neg=>rw[zdv body i lv he (.inr (.inr c3))] at h;cases h
  rw[bodyGo_s body i lv he c1 c2 c3] at h;cases hk:zbQ i e 0 e.kids lv with
  | none=>rw[hk] at h;cases h
  | some lv'=>
   rw[hk] at h;have hbi:=hb i;have hm:=λq:Int=>more_le c3.bind q
   obtain⟨s1,s2,s3⟩:=zcD i e e.kids 0 lv lv' hk (by omega) c1 (λq=>by have:=hm q;omega);have hb':∀q,-1<=lv'.getD q 0:=by
    intro q
    by_cases hq:lv.getD q 0 = -1
    ·-- it may have been a kid's place,or stays
     exact kids_lb i e e.kids 0 lv lv' hk hb (λq=>by have:=hm q;omega) q
    ·rw[s2 q hq];exact hb q
   obtain⟨fin,f1,f2,f3⟩:=zcP body i lv' h (by omega) (by omega) hb';have hfi:fin.getD i 0=lv.getD i 0:=by rw[f2 i (by rw[s2 i c1];exact c1),s2 i c1]
   refine⟨fin,by omega,λj hj=>by rw[f2 j (by rw[s2 j hj];exact hj),s2 j hj],λj x hj hx=>?_⟩;rcases Nat.lt_or_ge j i with hji|hji
   ·exact f3 j x hji hx
   ·have:j=i:=by omega
    subst this;rw[he] at hx;cases hx;rw[hfi];refine⟨⟨by omega,by omega⟩,c3,λk kid hkid=>?_⟩;obtain⟨t1,t2⟩:=s3 k kid hkid;refine⟨t1,?_⟩;rw[Nat.zero_add] at t2;have hmk:=hm k;rw[f2 kid.toNat (by rw[t2];omega),t2]
where
 kids_lb (i:Nat) (e:Ex):∀(ks:List Int) (k:Nat) (lv lv':List Int),zbQ i e k ks lv=some lv'->(∀q,-1<=lv.getD q 0)->(∀q:Int,0<=lv.getD i 0+more e q)->∀q,-1<=lv'.getD q 0
  | [],k,lv,lv',h,hb,_,q=>by cases h;exact hb q
  | kid::ks,k,lv,lv',h,hb,hp,q=>by
   have h':(if 0<=kid/\kid<(i:Int)/\lv.getD kid.toNat 0 = -1 then zbQ i e (k+1) ks (lv.set kid.toNat (lv.getD i 0+more e k)) else none)=some lv':=h
   by_cases hc:0<=kid/\kid<(i:Int)/\lv.getD kid.toNat 0 = -1
   ·rw[if_pos hc] at h';have hgi:(lv.set kid.toNat (lv.getD i 0+more e k)).getD i 0=lv.getD i 0:=getD_set_ne _ _ (by omega);refine kids_lb i e ks (k+1) _ lv' h' (λq=>?_) (by rw[hgi];exact hp) q
    by_cases hq:kid.toNat=q
    ·subst hq
     by_cases hl:kid.toNat<lv.length
     ·rw[getD_set_eq _ _ hl];have:=hp k;omega
     ·rw[List.set_eq_of_length_le (by omega)];exact hb _
    ·rw[getD_set_ne _ _ hq];exact hb q
   ·rw[if_neg hc] at h';cases h'
theorem zdr{d:Df}(h:zcM d=true):∃lv,Levels d lv:=by
 have hl:=zc6 h;unfold zcM at h;rw[Bool.and_eq_true] at h;obtain⟨h1,h2⟩:=h;have h1:=of_decide_eq_true h1;have hfl:(zbA d).length=d.body.length:=by unfold zbA;rw[List.length_append,List.length_replicate];simp;omega
 have hlast:(zbA d).getD (d.body.length-1) 0=d.params:=by
  unfold zbA;rw[List.getD_eq_getElem?_getD,List.getElem?_append_right (by rw[List.length_replicate];omega),List.length_replicate,Nat.sub_self];rfl
 obtain⟨fin,f1,f2,f3⟩:=zcP d.body d.body.length (zbA d) h2 (by omega) hfl (λq=>by
  by_cases hq:q=d.body.length-1
  ·rw[hq,hlast];omega
  ·unfold zbA;rw[List.getD_eq_getElem?_getD];rcases Nat.lt_or_ge q (d.body.length-1) with hq2|hq2
   ·rw[List.getElem?_append_left (by rw[List.length_replicate];exact hq2),List.getElem?_replicate,if_pos hq2];simp
   ·rw[List.getElem?_eq_none (by rw[List.length_append,List.length_replicate];simp;omega)];simp)
 refine⟨fin,by omega,?_,λi e he=>f3 i e (List.getElem?_eq_some_iff.1 he).1 he⟩;rw[f2 _ (by rw[hlast];omega),hlast]
end Am.F
end
section
namespace Am.T
open Go
end Am.T
end
section
namespace Am.F
open Go Am
variable {β:Type}
noncomputable def zfZ(v w:AV){k:VK β}(_:Wr k):Option β:=fChk v w (k v)
end Am.F
end
section
namespace Am.F
open Go Am
section
variable {β:Type} {t:ETree} {I:FI} (n:Nat) (a:List AV) (h:H) (k:K β)
end
end Am.F
end
section
namespace Am.F
open Go Am
structure Un (g h:H):Prop where
 n:g.n<=h.n
 get:∀i,i<g.n->(g.get i).cells≠none->h.get i=g.get i
theorem Un.refl(h:H):Un h h:=⟨Nat.le_refl _,λ_ _ _=>rfl⟩
theorem Un.ext{g h h':H}(u:Un g h)(e:Ext h h'):Un g h':=⟨by have:=u.n;have:=e.n;omega,λi p q=>by have:=u.n;rw[e.get i (by omega)];exact u.get i p q⟩
theorem Un.of{g h:H}(e:Ext g h):Un g h:=(Un.refl g).ext e
def zej{α:Type}(C:H->List AV->α->Prop):Prop:=∀(g h:H) (cs:List AV) (x:α),C g cs x->Un g h->C h cs x
theorem LAt.un{α:Type}{es:Nat}{C:H->List AV->α->Prop}(hC:zej C){g h:H}{v:AV}{xs:List α}(hs:LAt es C g v xs)(u:Un g h):LAt es C h v xs:=by
 rcases hs with hs|⟨b,o,m,gg,us,h1,h2,h3,h4,h5⟩
 ·exact .inl hs
 ·exact .inr ⟨b,o,m,gg,us,h1,Nat.lt_of_lt_of_le h2 u.n,by rw[u.get b h2 (by rw[h3];simp)];exact h3,h4,λj x hx=>hC _ _ _ _ (h5 j x hx) u⟩
theorem SlAt.un{g h:H}{v:AV}{cs:List AV}(hs:SlAt g v cs)(u:Un g h):SlAt h v cs:=by
 rcases hs with hs|⟨b,o,m,gg,us,h1,h2,h3,h4⟩
 ·exact .inl hs
 ·exact .inr ⟨b,o,m,gg,us,h1,Nat.lt_of_lt_of_le h2 u.n,by rw[u.get b h2 (by rw[h3];simp)];exact h3,h4⟩
theorem ExC.staysU:zej ExC:=λ_ _ _ _ ⟨w,h1,h2⟩ u=>⟨w,h1,h2.un u⟩
theorem DfC.staysU:zej DfC:=λ_ _ _ _ ⟨w,h1,h2⟩ u=>⟨w,h1,h2.un ExC.staysU u⟩
def RowC(_:H)(cs x:List AV):Prop:=cs=x/\x.length=4
theorem RowC.stays:zgg RowC:=λ_ _ _ _ h _=>h
theorem RowC.staysU:zej RowC:=λ_ _ _ _ h _=>h
theorem LAt.rows{α:Type}{C:H->List AV->α->Prop}{h:H}{v:AV}{xs:List α}(hs:LAt 4 C h v xs):∃rows:List (List AV),LAt 4 RowC h v rows/\rows.length=xs.length/\∀(j:Nat) (r:List AV) (x:α),rows[j]?=some r->xs[j]?=some x->C h r x:=by
 rcases hs with⟨rfl,rfl⟩|⟨b,o,m,g,us,rfl,h2,h3,h4,h5⟩
 ·exact⟨[],.inl ⟨rfl,rfl⟩,rfl,λj r x hr=>by simp at hr⟩
 ·have hget:∀(j:Nat) (r:List AV),((List.range xs.length).map λj=>(us.drop (o+j*4)).take 4)[j]?=some r->j<xs.length/\r=(us.drop (o+j*4)).take 4:=by
   intro j r hr;rw[List.getElem?_map] at hr;rcases Nat.lt_or_ge j xs.length with hj|hj
   ·rw[List.getElem?_range hj] at hr;cases hr;exact⟨hj,rfl⟩
   ·rw[List.getElem?_eq_none (by rw[List.length_range];exact hj)] at hr;cases hr
  refine⟨(List.range xs.length).map λj=>(us.drop (o+j*4)).take 4,.inr ⟨b,o,m,g,us,by simp,h2,h3,by simpa using h4,λj r hr=>?_⟩,by simp,λj r x hr hx=>?_⟩
  ·obtain⟨hj,rfl⟩:=hget j r hr;refine⟨rfl,?_⟩;rw[List.length_take,List.length_drop];omega
  ·obtain⟨hj,rfl⟩:=hget j r hr;exact h5 j x hx
theorem zd4:∀(rows:List (List AV)) (W:List AV),W.length=rows.length*4->(∀(j:Nat) (r:List AV),rows[j]?=some r->(W.drop (j*4)).take 4=r)->W=rows.flatten
 | [],W,hl,_=>by
  have:W=[]:=List.eq_nil_of_length_eq_zero (by simpa using hl)
  rw[this];rfl
 | r::rows,W,hl,hr=>by
  have h0:=hr 0 r rfl;rw[Nat.zero_mul,List.drop_zero] at h0;have ih:=zd4 rows (W.drop 4) (by rw[List.length_drop,hl,List.length_cons];omega) λj x hx=>by
   have:=hr (j+1) x hx
   rw[List.drop_drop];rw[show 4+j*4=(j+1)*4 by omega];exact this
  rw[List.flatten_cons,<- ih,<- h0,List.take_append_drop]
theorem LAt.src{β:Type}{h:H}{v:AV}{rows:List (List AV)}(hs:LAt 4 RowC h v rows)(c:Nat->List AV->Option β):fSrc 4 v h c=c rows.length rows.flatten:=by
 rcases hs with⟨rfl,rfl⟩|⟨b,o,m,g,us,rfl,h2,h3,h4,h5⟩
 ·rfl
 ·show (cells h b λcs=>cond (Nat.ble (Nat.add o (Nat.mul rows.length 4)) (lenF cs)) (c rows.length (zbi (Nat.mul rows.length 4) (zbU o cs))) none)=_;rw[zbV,h3,zbz,zg,zA,zL,ble_eq,decide_eq_true (by exact h4)];have:(us.drop o).take (rows.length*4)=rows.flatten:=by
   refine zd4 _ _ (by rw[List.length_take,List.length_drop];omega) λj r hr=>?_
   have hj:=(List.getElem?_eq_some_iff.1 hr).1;have:=(h5 j r hr).1
   rw[<- this,List.drop_take,List.drop_drop,List.take_take,Nat.min_eq_left (by omega)]
  show c rows.length ((us.drop o).take (rows.length*4))=_;rw[this]
theorem zfo:∀(rows:List (List AV)),(∀r ∈ rows,r.length=4)->rows.flatten.length=rows.length*4
 | [],_=>rfl
 | r::rows,h=>by
  rw[List.flatten_cons,List.length_append,h r List.mem_cons_self,zfo rows λx hx=>h x (List.mem_cons_of_mem _ hx),List.length_cons];omega
theorem LAt.row4{h:H}{v:AV}{rows:List (List AV)}(hs:LAt 4 RowC h v rows):∀r ∈ rows,r.length=4:=by
 intro r hr;obtain⟨j,hj⟩:=List.mem_iff_getElem?.1 hr;rcases hs with⟨rfl,rfl⟩|⟨b,o,m,g,us,rfl,h2,h3,h4,h5⟩
 ·simp at hj
 ·exact (h5 j r hj).2
def ze5(h h':H)(w:AV)(rows:List (List AV)):Prop:=(w = .nils/\rows=[])\/∃b N g,w = .sl b 0 rows.length N g/\h.n<=b/\b<h'.n/\h'.get b = .own 0 rows.flatten
theorem ze5.sc{h h':H}{w:AV}{rows:List (List AV)}(hn:ze5 h h' w rows):w.sc=true:=by
 rcases hn with⟨rfl,_⟩|⟨b,N,g,rfl,_⟩<;>rfl
end Am.F
end
section
namespace Am.F
open Go Am
def Fill(h h':H)(v:AV)(N:Nat)(rows:List (List AV)):Prop:=(v = .nils/\rows=[]/\N=0)\/∃cs,v = .sl h.n 0 rows.length N (some 4)/\rows.length<=N/\0<N/\h.n<h'.n/\h'.get h.n = .own 0 cs/\cs.length=N*4/\cs.take (rows.length*4)=rows.flatten
theorem zc1:∀(cs new:List AV) (o:Nat),o+new.length<=cs.length->(zaI cs o new).take (o+new.length)=cs.take o++new/\(zaI cs o new).length=cs.length
 | cs,[],o,h=>by simp[zaI]
 | cs,x::new,o,h=>by
  rw[List.length_cons] at h;have h1:o<cs.length:=by omega
  obtain⟨a,b⟩:=zc1 (cs.set o x) new (o+1) (by rw[List.length_set];omega);rw[List.length_set] at b;rw[zf0];refine⟨?_,b⟩;rw[List.length_cons,show o+(new.length+1)=o+1+new.length by omega,a];have:(cs.set o x).take (o+1)=cs.take o++[x]:=by
   rw[List.take_add_one,List.getElem?_set_self h1,List.take_set_of_le (Nat.le_refl o)];rfl
  rw[this];simp
theorem Fill.app{β:Type}{h h1:H}{v x:AV}{N:Nat}{r1 r2:List (List AV)}{k:K β}{R:Option β}(hf:Fill h h1 v N r1)(hx:LAt 4 RowC h1 x r2)(hN:r1.length+r2.length<=N)(h4:∀r ∈ r1,r.length=4)
  (H1:∀v' h2,Fill h h2 v' N (r1++r2)->h2.n=h1.n->(∀i,i<h1.n->i≠h.n->h2.get i=h1.get i)->k v' h2=R):qApp 0 4 72 v x h1 (.mk k)=R:=by
 show fApp 0 4 72 v x h1 k=R;unfold fApp;rw[hx.src];have h4':=hx.row4;rcases hf with⟨rfl,rfl,rfl⟩|⟨cs,rfl,f1,f0,f2,f3,f4,f5⟩
 ·have hr2:r2=[]:=List.eq_nil_of_length_eq_zero (by simpa using hN);subst hr2;exact H1 .nils h1 (.inl ⟨rfl,rfl,rfl⟩) rfl λ_ _ _=>rfl
 ·by_cases h0:r2.length=0
  ·have hr2:r2=[]:=List.eq_nil_of_length_eq_zero h0;subst hr2;simp (disch:=omega) only [zge,aSl,zH,ble_eq,beq_eq,zfB,zfC,Nat.add_eq,List.length_nil,Nat.add_zero];exact H1 _ h1 (.inr ⟨cs,by rw[List.append_nil],by rw[List.append_nil];exact f1,f0,f2,f3,f4,by rw[List.append_nil];exact f5⟩) rfl λ_ _ _=>rfl
  ·have hfl:=zfo r2 h4';obtain⟨p1,p2⟩:=zc1 cs r2.flatten (r1.length*4) (by omega);simp (disch:=omega) only [zge,aSl,zH,ble_eq,beq_eq,zfB,zfC,Nat.add_eq,Nat.mul_eq,Nat.zero_add,zeI,f3,zgJ,zbz,zg,zam];refine H1 _ _ (.inr ⟨zaI cs (r1.length*4) r2.flatten,by rw[List.length_append],by rw[List.length_append];exact hN,f0,by rw[H.n_set];exact f2,zc4 rfl,by rw[p2,f4],?_⟩) (by rw[H.n_set]) λi _ hi=>zae (by omega)
   rw[List.length_append,Nat.add_mul,<- hfl,p1,f5,List.flatten_append]
theorem Fill.new{h h':H}{v:AV}{rows:List (List AV)}(hf:Fill h h' v rows.length rows):ze5 h h' v rows:=by
 rcases hf with⟨rfl,h1,_⟩|⟨cs,rfl,f1,f0,f2,f3,f4,f5⟩
 ·exact .inl ⟨rfl,h1⟩
 ·refine .inr ⟨h.n,rows.length,some 4,rfl,Nat.le_refl _,f2,?_⟩;rw[f3,<- f5,<- f4,List.take_length]
section
variable {β:Type} {t:ETree}
end
end Am.F
end
section
namespace Am.F
open Go Am
inductive Thg where
 | term (s:List UInt8)
 | part (d a:Nat) (env:List Thg)
inductive TPC (p:List Df) (h:H):List AV->Thg->Prop
 | term (s:List UInt8):TPC p h [.str s,.nils,.int .i64 0,.nils] (.term s)
 | part {d a:Nat} {df:Df} {bv tv:AV} {env:List Thg} (hd:p[d]?=some df) (hb:LAt 4 ExC h bv df.body) (hnb:bv ≠ .nils) (rows:List (List AV)) (hr:LAt 4 RowC h tv rows) (hl:rows.length=env.length)
   (he:∀(j:Nat) (r:List AV) (x:Thg),rows[j]?=some r->env[j]?=some x->TPC p h r x):TPC p h [.str [],bv,.int .i64 (a:Int),tv] (.part d a env)
theorem TPC.un{p:List Df}{g h:H}(u:Un g h){cs:List AV}{x:Thg}(ht:TPC p g cs x):TPC p h cs x:=by
 induction ht with
 | term s=>exact .term s
 | part hd hb hnb rows hr hl he ih=>exact .part hd (hb.un ExC.staysU u) hnb rows (hr.un RowC.staysU u) hl ih
theorem TPC.staysU(p:List Df):zej (TPC p):=λ_ _ _ _ h u=>h.un u
theorem TPC.stays(p:List Df):zgg (TPC p):=λ_ _ _ _ h e=>h.un (Un.of e)
theorem TPC.len{p:List Df}{h:H}{cs:List AV}{x:Thg}(ht:TPC p h cs x):cs.length=4:=by cases ht<;>rfl
theorem LAt.chk{β α:Type}{es:Nat}{C:H->List AV->α->Prop}{h:H}{v:AV}{xs:List α}(hs:LAt es C h v xs)(k:VK β):zfZ v v (.mk k)=k v:=by
 show cond (AV.beq v v) (k v) none=_;rcases hs with⟨rfl,_⟩|⟨b,o,m,g,us,rfl,_⟩
 ·rfl
 ·have:AV.beq (.sl b o xs.length m g) (.sl b o xs.length m g)=true:=by simp[AV.beq]
  rw[this];rfl
theorem SlAt.chk{β:Type}{h:H}{v:AV}{cs:List AV}(hs:SlAt h v cs)(k:VK β):zfZ v v (.mk k)=k v:=by
 show cond (AV.beq v v) (k v) none=_;rcases hs with⟨rfl,_⟩|⟨b,o,m,g,us,rfl,_⟩
 ·rfl
 ·have:AV.beq (.sl b o cs.length m g) (.sl b o cs.length m g)=true:=by simp[AV.beq]
  rw[this];rfl
theorem SlAt.ptr{β:Type}{h:H}{v:AV}{cs:List AV}(hs:SlAt h v cs){j:Nat}{x:AV}(hx:cs[j]?=some x):∃b o us,(∀k:VK β,zN 1 v (.int .i64 (j:Int)) (.mk k)=k (.ptr b o))/\b<h.n/\(h.get b).cells=some us/\us[o]?=some x:=by
 have hj:=(List.getElem?_eq_some_iff.1 hx).1;rcases hs with⟨_,rfl⟩|⟨b,o,m,g,us,rfl,h2,h3,h4,h5⟩
 ·simp at hx
 ·refine⟨b,o+j,us,λk=>by rw[zcx (by omega) (by omega),Int.toNat_natCast,Nat.mul_one],h2,h3,?_⟩;rw[<- h4,List.getElem?_take,if_pos hj,List.getElem?_drop] at hx;exact hx
section
variable {β:Type} {t:ETree}
end
end Am.F
end
section
namespace Am.F
open Go Am
section
variable {β:Type} {t:ETree}
def zgZ(d:Nat)(env:List Thg)(ks:List Int):List Thg:=ks.map λk=>.part d k.toNat env
end
end Am.F
end
section
namespace Am.F
open Go Am
section
variable {β:Type} {t:ETree}
theorem zbr.chk{h:H}{lo hi es:Nat}{v:AV}{cs:List AV}(ho:zbr h lo hi es v cs)(k:VK β):zfZ v v (.mk k)=k v:=by
 show cond (AV.beq v v) (k v) none=_;rcases ho with⟨rfl,_⟩|⟨b,l,rfl,_⟩
 ·rfl
 ·have:AV.beq (.sl b 0 l l (some es)) (.sl b 0 l l (some es))=true:=by simp[AV.beq]
  rw[this];rfl
end
end Am.F
end
section
namespace Am.F
open Go Am
structure Fnd where
 kind:Int
 num:Int
 parts:List Thg
inductive Rs where
 | ok (f:Fnd)
 | bad (c:Int)
def zeh(p:List Df)(d:Nat):List Ex:=((p[d]?).map Df.body).getD []
instance :Inhabited Thg:=⟨.term []⟩
inductive WF (p:List Df):Thg->Prop
 | term {s:List UInt8} (h:mayP s=true):WF p (.term s)
 | part {d a:Nat} {env:List Thg} {df:Df} {lv:List Int} (hd:p[d]?=some df) (hlv:Levels df lv) (ha:a<df.body.length) (hl:(env.length:Int)=lv.getD a 0) (he:∀x ∈ env,WF p x):WF p (.part d a env)
structure Stand (p:List Df) (d a:Nat) (env:List Thg) (df:Df) (lv:List Int) (e:Ex):Prop where
 hd:p[d]?=some df
 hlv:Levels df lv
 he:df.body[a]?=some e
 hl:(env.length:Int)=lv.getD a 0
 wf:∀x ∈ env,WF p x
theorem WF.stand{p:List Df}{d a:Nat}{env:List Thg}(h:WF p (.part d a env)):∃df lv e,Stand p d a env df lv e:=by
 cases h with
 | part hd hlv ha hl he=>exact⟨_,_,_,hd,hlv,List.getElem?_eq_getElem ha,hl,he⟩
section
variable {p:List Df} {d a:Nat} {env:List Thg} {df:Df} {lv:List Int} {e:Ex}
theorem Stand.body(s:Stand p d a env df lv e):zeh p d=df.body:=by unfold zeh;rw[s.hd];rfl
theorem Stand.get(s:Stand p d a env df lv e):(zeh p d)[a]?=some e:=by rw[s.body];exact s.he
theorem Stand.part(s:Stand p d a env df lv e):zbg e (lv.getD a 0):=(s.hlv.part a e s.he).2.1
theorem Stand.kid(s:Stand p d a env df lv e){k:Nat}{kid:Int}(hk:e.kids[k]?=some kid){more':List Thg}(hm:(more'.length:Int)=more e k)(hw:∀x ∈ more',WF p x):0<=kid/\WF p (.part d kid.toNat (env++more')):=by
 obtain⟨h1,h2⟩:=(s.hlv.part a e s.he).2.2 k kid hk;have ha:=(List.getElem?_eq_some_iff.1 s.he).1;refine⟨h1.1,.part s.hd s.hlv (by omega) ?_ λx hx=>?_⟩
 ·rw[h2,List.length_append,<- hm,<- s.hl];omega
 ·rcases List.mem_append.1 hx with hx|hx
  ·exact s.wf x hx
  ·exact hw x hx
theorem Stand.kid0(s:Stand p d a env df lv e){k:Nat}{kid:Int}(hk:e.kids[k]?=some kid)(hm:more e k=0):0<=kid/\WF p (.part d kid.toNat env):=by
 have:=s.kid hk (more':=[]) (by rw[hm];rfl) (λx hx=>by simp at hx)
 rw[List.append_nil] at this;exact this
end
end Am.F
end
section
namespace Am.F
open Go Am
theorem Stand.call{p:List Df}(hp:zeE p=true){d a:Nat}{env:List Thg}{df:Df}{lv:List Int}{e:Ex}(s:Stand p d a env df lv e)(h2:e.kind=2) :
  ∃df',p[e.num.toNat]?=some df'/\0<=e.num/\1<=df'.body.length/\df'.body.length<=24/\WF p (.part e.num.toNat (df'.body.length-1) (zgZ d env e.kids))/\zeh p e.num.toNat=df'.body:=by
 obtain⟨h1,h0,hall⟩:=zgA hp;have hc:=s.part.call h2;obtain⟨m1,m2⟩:=hall df (List.mem_of_getElem? s.hd);unfold oddIn at m2;rw[List.any_eq_false] at m2;have hno:¬ Odd p e:=λho=>m2 e (List.mem_of_getElem? s.he) (decide_eq_true ho)
 unfold Odd at hno;have hlt:¬ (p.length:Int)<=e.num:=λhh=>hno ⟨h2,.inl hh⟩
 have hpar:(e.kids.length:Int)=zbK p e.num:=Classical.byContradiction λhh=>hno ⟨h2,.inr hh⟩
 obtain⟨df',hd'⟩:∃df',p[e.num.toNat]?=some df':=⟨_,List.getElem?_eq_getElem (by omega)⟩
 have hm':=(hall df' (List.mem_of_getElem? hd')).1;obtain⟨lv',hlv'⟩:=zdr hm';have hl':=zc6 hm';refine⟨df',hd',hc.1,hl'.2,hl'.1,.part hd' hlv' (by omega) ?_ λx hx=>?_,by unfold zeh;rw[hd'];rfl⟩
 ·rw[hlv'.last];unfold zbK at hpar;rw[hd'] at hpar;unfold zgZ;rw[List.length_map,hpar];rfl
 ·unfold zgZ at hx;obtain⟨kid,hk,rfl⟩:=List.mem_map.1 hx;obtain⟨k,hk⟩:=List.mem_iff_getElem?.1 hk;exact (s.kid0 hk (by unfold more;rw[h2];simp)).2
theorem getD_some{xs:List Int}{k:Nat}(h:k<xs.length):xs[k]?=some (xs.getD k 0):=by rw[List.getD_eq_getElem?_getD,List.getElem?_eq_getElem h];rfl
end Am.F
end
section
namespace Am.F
open Go Am
structure Gh (g g':H):Prop where
 un:Un g g'
 hid:∀i,i<g.n->(g.get i).cells=none->(g'.get i).cells=none
theorem Gh.refl(g:H):Gh g g:=⟨Un.refl g,λ_ _ h=>h⟩
theorem Un.trans{a b c:H}(h1:Un a b)(h2:Un b c):Un a c:=⟨by have:=h1.n;have:=h2.n;omega,λi p q=>by
 have e:=h1.get i p q;rw[h2.get i (by have:=h1.n;omega) (by rw[e];exact q),e]⟩
theorem Gh.trans{a b c:H}(h1:Gh a b)(h2:Gh b c):Gh a c:=⟨h1.un.trans h2.un,λi p q=>h2.hid i (by have:=h1.un.n;omega) (h1.hid i p q)⟩
theorem zd2:∀(k:Nat) (g h:H),g.n+k=h.n->∃g':H,g'.n=h.n/\(∀i,i<g.n->g'.get i=g.get i)/\∀i,g.n<=i->i<h.n->g'.get i=h.get i
 | 0,g,h,hk=>⟨g,by omega,λ_ _=>rfl,λi p q=>by omega⟩
 | k+1,g,h,hk=>by
  obtain⟨g',a,b,c⟩:=zd2 k (g.push (h.get g.n)) h (by rw[H.n_push];omega);rw[H.n_push] at b c;refine⟨g',a,λi hi=>by rw[b i (by omega),zDq9 (by omega)],λi p q=>?_⟩
  by_cases hi:i=g.n
  ·subst hi;rw[b _ (by omega),zay rfl]
  ·exact c i (by omega) q
theorem Un.grow{g h h':H}(u:Un g h)(hn:g.n=h.n)(e:Ext h h'):∃g',Gh g g'/\Un g' h'/\g'.n=h'.n/\∀i,h.n<=i->i<h'.n->g'.get i=h'.get i:=by
 obtain⟨g',a,b,c⟩:=zd2 (h'.n-g.n) g h' (by have:=e.n;omega);have en:=e.n;refine⟨g',⟨⟨by omega,λi p q=>b i p⟩,λi p q=>by rw[b i p];exact q⟩,⟨by omega,λi p q=>?_⟩,a,λi p q=>c i (by omega) q⟩
 by_cases hi:i<g.n
 ·rw[b i hi] at q ⊢;rw[e.get i (by omega)];exact u.get i hi q
 ·exact (c i (by omega) (by omega)).symm
theorem Un.set{g h:H}(u:Un g h){i:Nat}(hi:(g.get i).cells=none)(b:Blk):Un g (h.set i b):=⟨by rw[H.n_set];exact u.n,λj p q=>by
 by_cases hj:i=j
 ·subst hj;exact absurd hi q
 ·rw[zae hj];exact u.get j p q⟩
theorem Un.hide{g h:H}(u:Un g h)(hn:g.n=h.n)(b:Blk):Gh g (g.push .dead)/\Un (g.push .dead) (h.push b)/\(g.push .dead).n=(h.push b).n/\((g.push .dead).get h.n).cells=none:=by
 refine⟨⟨⟨by rw[H.n_push];omega,λi p q=>by rw[zDq9 (by omega)]⟩,λi p q=>by rw[zDq9 (by omega)];exact q⟩,⟨by rw[H.n_push,H.n_push];omega,λi p q=>?_⟩,by rw[H.n_push,H.n_push,hn],by rw[zay hn];rfl⟩;rw[H.n_push] at p
 by_cases hi:i<g.n
 ·rw[zDq9 (by omega)] at q ⊢;rw[zDq9 (by omega)];exact u.get i hi q
 ·have:i=g.n:=by omega
  subst this;rw[zay rfl] at q;exact absurd rfl q
section
variable {β:Type} {t:ETree}
end
end Am.F
end
section
namespace Am.F
open Go Am
theorem Un.box{g h:H}(u:Un g h)(hn:g.n=h.n)(b b':Blk):Gh g (g.push .dead)/\Un (g.push .dead) ((h.push b).set h.n b')/\(g.push .dead).n=((h.push b).set h.n b').n/\∀i,i<h.n->((h.push b).set h.n b').get i=h.get i:=by
 obtain⟨a,c,d,e⟩:=u.hide hn b;exact⟨a,c.set e b',by rw[H.n_set];exact d,λi hi=>by rw[zae (by omega),zDq9 (by omega)]⟩
section
variable {β:Type} {t:ETree}
end
end Am.F
end
