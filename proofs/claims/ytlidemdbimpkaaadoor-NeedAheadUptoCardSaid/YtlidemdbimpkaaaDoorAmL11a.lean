/- Walks: NeedAhead. -/
import Derived.Test.YtlidemdbimpkaaaDoorAmL11a0
import Derived.Test.YtlidemdbimpkaaaDoorAmL11m
import Derived.Test.YtlidemdbimpkaaaDoorAmNl3
import Derived.Test.YtlidemdbimpkaaaDoorAmJh
open Nat (reduceAdd reduceMul)
open Int (reduceToNat)
set_option linter.unusedSimpArgs false
set_option linter.unusedVariables false
namespace Am.F
open Go Am
section
variable {β:Type} {t:ETree} {p:List Df}
theorem LAt.src2{α:Type}{C:H->List AV->α->Prop}{h h':H}{v:AV}{xs:List α}(hs:LAt 2 C h v xs)(e:Ext h h'):∃new:List AV,(∀c:Nat->List AV->Option β,fSrc 2 v h' c=c xs.length new)/\new.length=xs.length*2/\∀(q:Nat) (x:α),xs[q]?=some x->C h ((new.drop (q*2)).take 2) x:=by
 rcases hs with⟨rfl,rfl⟩|⟨b,o,m,g,us,rfl,h2,h3,h4,h5⟩
 ·exact⟨[],λc=>rfl,rfl,λq x hx=>by simp at hx⟩
 ·refine⟨(us.drop o).take (xs.length*2),λc=>?_,by rw[List.length_take,List.length_drop];omega,λq x hx=>?_⟩
  ·have h3':(h'.get b).cells=some us:=by rw[e.get b h2];exact h3
   show (cells h' b λcs=>cond (Nat.ble (Nat.add o (Nat.mul xs.length 2)) (lenF cs)) (c xs.length (zbq (Nat.mul xs.length 2) (zbZ o cs))) none)=_;rw[zax,h3',zbj,zA,zX,zab,ble_eq,decide_eq_true (by exact h4)];rfl
  ·have hj:=(List.getElem?_eq_some_iff.1 hx).1;have:=h5 q x hx
   rw[List.drop_take,List.drop_drop,List.take_take,Nat.min_eq_left (by omega)];exact this
theorem zis{h:H}{b es bytes n:Nat}{x:AV}{new:List AV}{k:K β}{R:Option β}(hb:h.get b = .own 0 [])(hs:∀c:Nat->List AV->Option β,fSrc es x h c=c n new)(hr:n<room)(hbt:bytes<=1024)(hn:n≠0)
  (H1:k (.sl h.n 0 n n (some es)) (h.push (.own 0 new))=R):fApp 0 es bytes (.sl b 0 0 0 none) x h k=R:=by
 unfold fApp;rw[hs];simp (disch:=omega) only [zdl,aSl,zW,ble_eq,beq_eq,za9,zbm,Nat.add_eq,Nat.mul_eq,Nat.zero_add,Nat.succ_eq_add_one,zax,zd1,hb,zeo,zcY,zbj,zA,zeO,Nat.zero_mul,List.length_nil];exact H1
theorem zkF{h:H}{b es bytes:Nat}{x:AV}{new:List AV}{k:K β}(hs:∀c:Nat->List AV->Option β,fSrc es x h c=c 0 new):fApp 0 es bytes (.sl b 0 0 0 none) x h k=k (.sl b 0 0 0 none) h:=by
 unfold fApp;rw[hs];simp (disch:=omega) only [zdl,aSl,zW,ble_eq,beq_eq,za9,Nat.add_eq,Nat.add_zero];rfl
def App1(lo hi:Nat)(h:H)(v:AV)(n:Nat)(cs:List AV):Prop:=(n=0/\cs=[]/\∃b,v = .sl b 0 0 0 none/\h.get b = .own 0 []/\lo<=b/\b<hi)\/(n≠0/\zbA h lo hi 2 v cs/\cs.length=n*2)
theorem App1.sc{lo hi:Nat}{h:H}{v:AV}{n:Nat}{cs:List AV}(s:App1 lo hi h v n cs):v.sc=true:=by
 rcases s with⟨_,_,b,rfl,_⟩|⟨_,ho,_⟩
 ·rfl
 ·exact ho.sc
theorem App1.mono{lo hi:Nat}{h h':H}{v:AV}{n:Nat}{cs:List AV}(s:App1 lo hi h v n cs)(e:∀i,lo<=i->i<hi->h'.get i=h.get i):App1 lo hi h' v n cs:=by
 rcases s with⟨h1,h2,b,h3,h4,h5,h6⟩|⟨h1,ho,h2⟩
 ·exact .inl ⟨h1,h2,b,h3,by rw[e _ h5 h6];exact h4,h5,h6⟩
 ·exact .inr ⟨h1,ho.mono (Nat.le_refl _) (Nat.le_refl _) e,h2⟩
theorem app_one{lo hi:Nat}{h:H}{v x:AV}{n:Nat}{cs row:List AV}{k:K β}{R:Option β}(s:App1 lo hi h v n cs)(hh:hi<=h.n)(hs:∀c:Nat->List AV->Option β,fSrc 2 x h c=c 1 row)(hl:row.length=2)(hr:n*2+1<room)
  (H1:∀h',h'.n=h.n+1->h'.get h.n = .own 0 (cs++row)->(cs++row).length=(n+1)*2->(∀i,i<h.n->(i<lo\/hi<=i)->h'.get i=h.get i)->k (.sl h.n 0 (n+1) (n+1) (some 2)) h'=R):fApp 0 2 32 v x h k=R:=by
 rcases s with⟨rfl,rfl,b,rfl,h4,h5,h6⟩|⟨h1,ho,h2⟩
 ·exact zis h4 hs (by omega) (by omega) (by omega) (H1 _ (by rw[H.n_push]) (by rw[zf rfl];rfl) (by rw[List.nil_append,hl]) λi hi _=>zc (by omega))
 ·refine zeh (lo:=lo) (hi:=hi) ho hh hs (by rw[hl]) (by omega) (by omega) (by omega) (by omega) ?_;intro l h' z1 z2 z3 z4;have hl':l=n+1:=by rw[List.length_append,h2,hl] at z3;omega
  subst hl';exact H1 h' z2 z1 z3 z4
theorem zk2{lo:Nat}{h:H}{b n:Nat}{x:AV}{new:List AV}{k:K β}{R:Option β}(hb:h.get b = .own 0 [])(hs:∀c:Nat->List AV->Option β,fSrc 2 x h c=c n new)(hl:new.length=n*2)(hr:n<room)(ha:lo<=b)(hbn:b<h.n)
  (H1:∀v' h',App1 lo h'.n h' v' n new->Ext h h'->k v' h'=R):fApp 0 2 32 (.sl b 0 0 0 none) x h k=R:=by
 by_cases hn:n=0
 ·subst hn;rw[zkF hs];exact H1 _ _ (.inl ⟨rfl,List.eq_nil_of_length_eq_zero (by rw[hl,Nat.zero_mul]),b,rfl,hb,ha,hbn⟩) (Ext.refl h)
 ·refine zis hb hs hr (by omega) hn (H1 _ _ (.inr ⟨hn,.inr ⟨h.n,n,rfl,by omega,by rw[H.n_push];omega,zf rfl,hl,by omega⟩,hl⟩) ((Ext.refl h).push _))
theorem un_of{g h h':H}(e:Ext h g)(u:Un g h'):Un h h':=⟨Nat.le_trans e.n u.n,λi p q=>by
 rw[u.get i (Nat.lt_of_lt_of_le p e.n) (by rw[e.get i p];exact q),e.get i p]⟩
theorem GN11.w136n(TN:GN11 t)(TM:GNM t)(TC:GC t)(T:GA t)(L:GI t){h:H}{pv:AV}{fuel:Int}(hp:LAt 2 DfC h pv p)(hl:p.length<=9223372036854775807)(hl2:∀d ∈ p,d.body.length<=9223372036854775807)(n:Nat)(hn:5001<=n) :
  Sp (β:=β) (ze t stdI n (.fn 136 []) [.agg [pv],.int .i64 fuel] h) λu h'=>∃v er ns,u = .tup [v,.int .i64 er]/\LAt 4 NdC h' v ns/\Un h h'/\(zcH p fuel->(er,ns)=runQ p fuel.toNat)/\(¬ zcH p fuel->er=1100/\ns=[]):=by
 intro k R hk;refine TN.w136 TM TC T L ⟨pv,rfl,hp⟩ hl hl2 n hn _ _ ?_;intro u h' ⟨g,e,un,p1,p2⟩
 by_cases may:zcH p fuel
 ·obtain⟨v,h2,h3⟩:=p1 may;exact hk _ _ ⟨v,_,_,h2,h3.un NdC.staysU un,un_of e un,λ_=>rfl,λh=>absurd may h⟩
 ·exact hk _ _ ⟨.nils,1100,[],p2 may,.inl ⟨rfl,rfl⟩,un_of e un,λh=>absurd h may,λ_=>⟨rfl,rfl⟩⟩
set_option maxHeartbeats 1000000 in
theorem GL11.w129(TL:GL11 t)(TS:GS11 t)(TN:GN11 t)(TM:GNM t)(TP:GP t)(TB:GB t)(TC:GC t)(T:GA t)(L:GI t)(hA:t.get 141=some (eAw 141)){h:H}{pv:AV}{p:List Df}(hp:LAt 2 DfC h pv p)(hl:p.length<=1048576)(hl2:∀d ∈ p,d.body.length<=9223372036854775807)(n:Nat)(hn:6000<=n)(fuel:Int) :
  Sp (β:=β) (ze t stdI n (.fn 129 []) [.agg [pv],.int .i64 fuel] h) λu h'=>u = .bool true:=by
 intro k R hk;have hroom:room=68719476736:=rfl;obtain⟨m,rfl⟩:∃m,n=m+3:=⟨n-3,by omega⟩
 have haw:=λ(hh:H) (kk:K β)=>awk_q (β:=β) (k:=141) rfl hA (m+1) hh kk
 have hbx:∀(hh:H) (kk:K β),qBox 0 (.agg [pv]) hh (.mk kk)=kk (.ptr hh.n 0) (hh.push (.own 0 [pv])):=λhh kk=>zr 0 _ hh kk
 obtain⟨h0,hh0⟩:∃h0,h0=h.push (.own 0 [pv]):=⟨_,rfl⟩
 have e0:Ext h h0:=by rw[hh0];exact (Ext.refl h).push _
 have hb0:h.push (.own 0 [pv])=h0:=hh0.symm;have n0:h.n<h0.n:=by rw[hh0,H.n_push];omega
 have g0:(h0.get h.n) = .own 0 [pv]:=by rw[hh0];exact zf rfl
 have c0:(h0.get h.n).cells=some [pv]:=by rw[g0];rfl
 have psc:=hp.sc;have W1:=TN.w136n (β:=β) TM TC T L (fuel:=fuel) (hp.ext DfC.stays e0) (by omega) hl2 (m+2) (by omega);rw[TL.c129];unfold f129;simp (disch:=first|omega|simp only[zD]<;>omega|assumption) only[↓zR,↓zRM,zR,zRM,reduceAdd,reduceMul,reduceToNat,↓f129_J1,↓hbx,hb0,haw,c0];refine W1 _ _ ?_;intro u1 h1 ⟨v1,er1,ns1,eu1,lv1,un1,m1,m2⟩;subst eu1;have hp1:=(hp.ext DfC.stays e0).un DfC.staysU un1;have cl1:h1.get h.n = .own 0 [pv]:=by rw[un1.get h.n n0 (by rw[g0];intro hh;cases hh),g0]
 have c1:(h1.get h.n).cells=some [pv]:=by rw[cl1];rfl
 have hn1:h.n<h1.n:=Nat.lt_of_lt_of_le n0 un1.n;simp (disch:=first|omega|simp only[zD]<;>omega|assumption) only[↓zR,↓zRM,zR,zRM,reduceAdd,reduceMul,reduceToNat,c1,↓emptyB];have eM:Ext h1 (((h1.push (.own 0 [.nils])).set h1.n (.own 0 [pv])).push (.own 0 [])):=(((Ext.refl h1).push _).set (Nat.le_refl _) _).push _;refine Exists.elim (LAt.src2 (β:=β) hp1 eM) λnew s=>?_
 refine zk2 (lo:=h1.n+1) (zf (by rw[H.n_set,H.n_push])) s.1 s.2.1 (by omega) (Nat.le_refl _) (by rw[H.n_push,H.n_set,H.n_push];omega) ?_;intro v2 h3 a1 e3;have en3:=e3.n;rw[H.n_push,H.n_set,H.n_push] at en3;have c3:zaG (h3.get h1.n)=some (0,[pv]):=by
  rw[e3.get _ (by rw[H.n_push,H.n_set,H.n_push];omega),zc (by rw[H.n_set,H.n_push];omega),zB rfl];rfl
 have low3:∀i,i<h1.n->h3.get i=h1.get i:=λi hi=>by rw[e3.get _ (by rw[H.n_push,H.n_set,H.n_push];omega)];exact eM.get i hi
 have vsc:=a1.sc;simp (disch:=first|omega|simp only[zD]<;>omega|assumption) only[↓zR,↓zRM,zR,zRM,reduceAdd,reduceMul,reduceToNat,c3,↓exRow,↓dfRow];have hsrc:∀c:Nat->List AV->Option β,fSrc 2 (.sl (h3.n+1) 0 1 1 none) (((h3.set h1.n (.own 0 [v2])).push (.own 0 [.int .i64 1,.int .i64 0,.int .i64 0,.nils])).push (.own 0 [.int .i64 1,.sl h3.n 0 1 1 none])) c=c 1 [.int .i64 1,.sl h3.n 0 1 1 none]:=by
  intro c;have:((((h3.set h1.n (.own 0 [v2])).push (.own 0 [.int .i64 1,.int .i64 0,.int .i64 0,.nils])).push (.own 0 [.int .i64 1,.sl h3.n 0 1 1 none])).get (h3.n+1)).cells=some [.int .i64 1,.sl h3.n 0 1 1 none]:=by rw[zf (by rw[H.n_push,H.n_set])];rfl
  show (cells _ (h3.n+1) λcs=>cond (Nat.ble (Nat.add 0 (Nat.mul 1 2)) (lenF cs)) (c 1 (zbq (Nat.mul 1 2) (zbZ 0 cs))) none)=_;rw[zax,this];rfl
 refine app_one (lo:=h1.n+1) (hi:=h3.n) (n:=p.length) (cs:=new) (row:=[.int .i64 1,.sl h3.n 0 1 1 none]) (a1.mono λi p1 p2=>by rw[zc (by rw[H.n_push,H.n_set];omega),zc (by rw[H.n_set];omega),zg (by omega)]) (by rw[H.n_push,H.n_push,H.n_set];omega) hsrc rfl (by omega) ?_;intro h6 z1 z2 z3 z4;rw[H.n_push,H.n_push,H.n_set] at z1 z2 z4;have c6:zaG (h6.get h1.n)=some (0,[v2]):=by
  rw[z4 _ (by omega) (.inl (by omega)),zc (by rw[H.n_push,H.n_set];omega),zc (by rw[H.n_set];omega),zB rfl];rfl
 have low6:∀i,i<h1.n->h6.get i=h1.get i:=λi hi=>by
  rw[z4 _ (by omega) (.inl (by omega)),zc (by rw[H.n_push,H.n_set];omega),zc (by rw[H.n_set];omega),zg (by omega),low3 i hi]
 have bd6:h6.get h3.n = .own 0 [.int .i64 1,.int .i64 0,.int .i64 0,.nils]:=by
  rw[z4 _ (by omega) (.inr (by omega)),zc (by rw[H.n_push,H.n_set];omega),zf (by rw[H.n_set])]
 simp (disch:=first|omega|simp only[zD]<;>omega|assumption) only[↓zR,↓zRM,zR,zRM,reduceAdd,reduceMul,reduceToNat,c6];have low7:∀i,i<h1.n->(h6.set h1.n (.own 0 [.sl (h3.n+1+1) 0 (p.length+1) (p.length+1) (some 2)])).get i=h1.get i:=λi hi=>by rw[zg (by omega)];exact low6 i hi
 have hi7:∀i,h1.n<i->(h6.set h1.n (.own 0 [.sl (h3.n+1+1) 0 (p.length+1) (p.length+1) (some 2)])).get i=h6.get i:=λi hi=>zg (by omega)
 have at7:(h6.set h1.n (.own 0 [.sl (h3.n+1+1) 0 (p.length+1) (p.length+1) (some 2)])).get h1.n = .own 0 [.sl (h3.n+1+1) 0 (p.length+1) (p.length+1) (some 2)]:=zB rfl;have n7:(h6.set h1.n (.own 0 [.sl (h3.n+1+1) 0 (p.length+1) (p.length+1) (some 2)])).n=h3.n+3:=by rw[H.n_set,z1]
 generalize h6.set h1.n (.own 0 [.sl (h3.n+1+1) 0 (p.length+1) (p.length+1) (some 2)])=h7 at low7 hi7 at7 n7 ⊢;have e17:Ext h1 h7:=⟨by omega,low7⟩
 have hq:LAt 2 DfC h7 (.sl (h3.n+1+1) 0 (p.length+1) (p.length+1) (some 2)) (p++[zd3]):=by
  have z2':h6.get (h3.n+1+1) = .own 0 (new++[.int .i64 1,.sl h3.n 0 1 1 none]):=z2;refine .inr ⟨h3.n+1+1,0,p.length+1,some 2,new++[.int .i64 1,.sl h3.n 0 1 1 none],by rw[List.length_append];rfl,by omega,by rw[hi7 _ (by omega),z2'];rfl,by rw[z3,List.length_append];simp,λq x hx=>?_⟩;have hnl:=s.2.1
  by_cases hq:q<p.length
  ·rw[List.getElem?_append_left hq] at hx;have:=DfC.stays _ _ _ _ (s.2.2 q x hx) e17
   rw[Nat.zero_add,List.drop_append_of_le_length (by omega),List.take_append_of_le_length (by rw[List.length_drop];omega)];exact this
  ·rw[List.getElem?_append_right (by omega)] at hx;have hq':q=p.length:=by
    have:=(List.getElem?_eq_some_iff.1 hx).1
    simp at this;omega
   subst hq';rw[Nat.sub_self] at hx;cases hx;rw[Nat.zero_add,List.drop_append_of_le_length (by omega),List.drop_of_length_le (by omega)];refine⟨.sl h3.n 0 1 1 none,rfl,.inr ⟨h3.n,0,1,none,[.int .i64 1,.int .i64 0,.int .i64 0,.nils],rfl,by omega,by rw[hi7 _ (by omega),bd6];rfl,by decide,λj y hy=>?_⟩⟩;have hj:j=0:=by
    have:=(List.getElem?_eq_some_iff.1 hy).1
    simp[zd3] at this;omega
   subst hj;cases hy;exact⟨.nils,rfl,.inl ⟨rfl,rfl⟩⟩
 have hql:(p++[zd3]).length<=9223372036854775807:=by rw[List.length_append];simp;omega
 have hql2:∀d ∈ p++[zd3],d.body.length<=9223372036854775807:=λd hd=>by
  rcases List.mem_append.1 hd with hd|hd
  ·exact hl2 d hd
  ·rw[List.mem_singleton.1 hd];decide
 have W149:=TC.w149 (β:=β) T (m+2) (by omega) ⟨_,rfl,hq⟩ hql hql2;refine W149 _ _ ?_;intro u8 h8 ⟨e8,eu8⟩;subst eu8;have c8:(h8.get h.n).cells=some [pv]:=by rw[e8.get _ (by omega),low7 _ hn1,cl1];rfl
 have c8q:(h8.get h1.n).cells=some [.sl (h3.n+1+1) 0 (p.length+1) (p.length+1) (some 2)]:=by rw[e8.get _ (by omega),at7];rfl
 have lp:=hp.len (β:=β);cases hq8:zo (p++[zd3]) with
 | false=>
  by_cases h11:er1=1100
  ·simp (disch:=first|omega|simp only[zD]<;>omega|assumption) only[↓zR,↓zRM,zR,zRM,reduceAdd,reduceMul,reduceToNat,T.w16,eq_true h11];exact hk _ _ rfl
  ·have may:zcH p fuel:=Classical.byContradiction λhh=>h11 (m2 hh).1
   have p8:p.length=8:=by
    have h8:p.length<=8:=(zaC may.1).1.2;refine Classical.byContradiction λhh=>?_
    rw[zg8 may.1 (by omega)] at hq8;cases hq8
   have p8':(p.length:Int)=8:=by omega
   simp (disch:=first|omega|simp only[zD]<;>omega|assumption) only[↓zR,↓zRM,zR,zRM,reduceAdd,reduceMul,reduceToNat,T.w16,eq_false h11,c8,lp,p8'];exact hk _ _ rfl
 | true=>
  have W2:=TN.w136n (β:=β) TM TC T L (fuel:=fuel) (hq.ext DfC.stays e8) hql hql2 (m+2) (by omega);simp (disch:=first|omega|simp only[zD]<;>omega|assumption) only[↓zR,↓zRM,zR,zRM,reduceAdd,reduceMul,reduceToNat,↓f129_J21,c8q];refine W2 _ _ ?_;intro u9 h9 ⟨v9,er9,ns9,eu9,lv9,un9,q1,q2⟩;subst eu9;have S:=λ(hh:H)=>TS.w143 (β:=β) m hh
  by_cases h11:er1=1100
  ·simp (disch:=first|omega|simp only[zD]<;>omega|assumption) only[↓zR,↓zRM,zR,zRM,reduceAdd,reduceMul,reduceToNat,T.w16,eq_true h11];refine S _ _ _ ?_;intro u10 h10 ⟨e10,b10,eu10⟩;subst eu10;simp (disch:=first|omega|simp only[zD]<;>omega|assumption) only[↓zR,↓zRM,zR,zRM,reduceAdd,reduceMul,reduceToNat];exact hk _ _ rfl
  ·have may:zcH p fuel:=Classical.byContradiction λhh=>h11 (m2 hh).1
   have may2:zcH (p++[zd3]) fuel:=⟨hq8,may.2⟩
   have er:=(q1 may2).trans ((runQ_app may.1 zd3 fuel.toNat).trans (m1 may).symm);have args:=zjL may.1 (fuel:=fuel.toNat) (by have:=may.2;omega);rw[<- m1 may] at args;have args1:ns1.length<=401:=args.1;have args2:∀x ∈ ns1,x.args.length<=8:=args.2;cases er;have S2:=TP.w138 (β:=β) TB T (m+2) (((lv1.ext NdC.stays e17).ext NdC.stays e8).un NdC.staysU un9) lv9 8 args2 (by omega) (by omega) (by omega);simp (disch:=first|omega|simp only[zD]<;>omega|assumption) only[↓zR,↓zRM,zR,zRM,reduceAdd,reduceMul,reduceToNat,T.w16,eq_false h11];refine S2 _ _ ?_;intro u11 h11' ⟨e11,eu11⟩;subst eu11;simp (disch:=first|omega|simp only[zD]<;>omega|assumption) only[↓zR,↓zRM,zR,zRM,reduceAdd,reduceMul,reduceToNat];refine S _ _ _ ?_;intro u10 h10 ⟨e10,b10,eu10⟩;subst eu10;simp (disch:=first|omega|simp only[zD]<;>omega|assumption) only[↓zR,↓zRM,zR,zRM,reduceAdd,reduceMul,reduceToNat];exact hk _ _ rfl
end
end Am.F
