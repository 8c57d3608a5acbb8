/- Walks: holds.met,holds.Is. -/
import Derived.Test.YtddiafpckjhadaaGreatDoorAmHoV
import Derived.Test.YtddiafpckjhadaaGreatDoorAmJj
import Derived.Test.YtddiafpckjhadaaGreatDoorAmGS10W
open Nat (reduceAdd reduceMul)
open Int (reduceToNat)
set_option linter.unusedSimpArgs false
set_option linter.unusedVariables false
namespace Am.F
open Go Am
def MPost(r:Mt)(g h:H)(lb:Nat)(pv:AV)(u:AV)(h':H):Prop :=
 ∃g',Gh g g'/\Un g' h'/\g'.n=h'.n/\h.n<=h'.n/\(∀i,i<h.n->i≠lb->h'.get i=h.get i)/\h'.get lb = .own 0 [pv,.int .i64 (r.left:Int)]/\u = .tup [.bool r.is,.int .i64 r.code]
def MetOk(t:ETree)(p:List Df)(N d n:Nat):Prop:=∀{β:Type} {g h:H} {lb:Nat} {pv:AV} {left:Nat} {cs:List AV} {th:Thg} {s:List UInt8},Un g h->g.n=h.n->lb<h.n->(g.get lb).cells=none->h.get lb = .own 0 [pv,.int .i64 (left:Int)]->LAt 2 DfC g pv p->TPC p g cs th->WF p th->left<N->left<=1000->mayP s=true->s.length<d ->
 Sp (β:=β) (zc t stdI n (.fn 182 []) [.ptr lb 0,.str s,.agg cs] h) λu h'=>MPost (metN p N d left s th) g h lb pv u h'
section
variable {t:ETree}
set_option maxHeartbeats 2000000 in
theorem GS10.met(TS:GS10 t)(TN:GNM t)(T:GA t)(L:GI t){p:List Df}(hpm:zP p=true){N:Nat}(d:Nat):∀n:Nat,1300+2*N+d<=n->MetOk t p N d n:=by
 induction d with
 | zero=>intro n _ β g h lb pv left cs th s _ _ _ _ _ _ _ _ _ _ _ hd;exact absurd hd (by omega)
 | succ d ihd=>
  intro n hn β g h lb pv left cs th s ug gn hlb dl ll lat tpc wf hN h1000 hms hsd k R hk;obtain⟨m,rfl⟩:∃m,n=m+1:=⟨n-1,by omega⟩
  have ih:MetOk t p N d m:=ihd m (by omega);have h4:=tpc.len;obtain⟨c0,c1,c2,c3,rfl⟩:∃c0 c1 c2 c3,cs=[c0,c1,c2,c3]:=by
   match cs,h4 with
   | [a0,a1,a2,a3],_=>exact⟨_,_,_,_,rfl⟩
  obtain⟨u,hu⟩:=(zdd s).1 hms;have hst:zeE s=some u:=by rw[zct];exact hu
  have hku:=zcX hu;obtain⟨gA,uA,nA,dA⟩:=ug.hide gn (.own 0 [c0,c1,c2,c3]);obtain⟨hA,ehA⟩:∃hA,hA=h.push (.own 0 [c0,c1,c2,c3]):=⟨_,rfl⟩
  have tA:h.push (.own 0 [c0,c1,c2,c3])=hA:=ehA.symm;have nhA:hA.n=h.n+1:=by rw[ehA,H.n_push]
  have eA:Ext h hA:=by rw[ehA];exact (Ext.refl h).push _
  rw[tA] at uA nA;have cA:hA.get h.n = .own 0 [c0,c1,c2,c3]:=by rw[ehA];exact zd rfl
  have bxA:∀(hh:H) (kk:K β),qBox 0 (.agg [c0,c1,c2,c3]) hh (.mk kk)=kk (.ptr hh.n 0) (hh.push (.own 0 [c0,c1,c2,c3])):=λhh kk=>zm 0 _ hh kk
  have W:=T.w11 (β:=β) L m (by omega) s hA;have LK:zeA t p N m:=zh8.look TN (TN.loop T L hpm N) (by omega);have ok:=zb2 hpm N left th wf;have hle:=zaL p N left th;obtain⟨rs,l1,hr⟩:∃rs l1,zp p N left th=(rs,l1):=⟨_,_,rfl⟩
  rw[hr] at ok hle;have hle:l1<=left:=hle;have hmet:metN p N (d+1) left s th=if u.kind=0 then ⟨true,0,left⟩ else
   match (rs,l1) with
   | (.bad c,l1)=>⟨false,if c=901 then 1001 else 0,l1⟩
   | (.ok f,l1)=>if f.kind=u.kind/\f.num=u.num/\f.parts.length=u.kids.length then metL (metN p N d) l1 u.kids f.parts else ⟨false,0,l1⟩:=by
   conv=>lhs;unfold metN
   rw[hu,hr];rfl
  have back:∀h1,Ext hA h1->∃g1,Gh g g1/\Un g1 h1/\g1.n=h1.n:=λh1 e1=>by
   obtain⟨g1,q1,q2,q3,_⟩:=uA.grow nA e1;exact⟨g1,gA.trans q1,q2,q3⟩
  by_cases hk0:u.kind=0
  ·rw[if_pos hk0] at hmet;rw[hmet] at hk;rw[TS.c182];unfold f182;simp (disch:=first|omega|simp only[zD]<;>omega|assumption) only[↓zR,↓zRM,zR,zRM,reduceAdd,reduceMul,reduceToNat,↓bxA,tA];refine W _ _ ?_;intro v h1 ⟨e1,e2⟩;rw[hst] at e2;obtain⟨c,e3,e4⟩:=e2;subst e3;simp (disch:=first|omega|simp only[zD]<;>omega|assumption) only[↓zR,↓zRM,zR,zRM,reduceAdd,reduceMul,reduceToNat,eq_true hk0];obtain⟨g1,q1,q2,q3⟩:=back h1 e1;have eh1:=eA.trans e1;exact hk _ _ ⟨g1,q1,q2,q3,eh1.n,λi hi _=>eh1.get i hi,by rw[eh1.get _ hlb];exact ll,rfl⟩
  rw[if_neg hk0] at hmet;have ask:∀(h1:H) (K1:K β),Ext hA h1->(∀u1 h2 g2,Gh g g2->Un g2 h2->g2.n=h2.n->h1.n<=h2.n->(∀i,i<h1.n->i≠lb->h2.get i=h1.get i)->h2.get lb = .own 0 [pv,.int .i64 (l1:Int)]->(match rs with
    | .bad c=>u1 = .tup [zdP,.int .i64 c]/\(c=901\/c=902)
    | .ok q=>∃w,u1 = .tup [.agg [.int .i64 q.kind,.int .i64 q.num,w],.int .i64 0]/\w.sc=true/\LAt 4 (TPC p) g2 w q.parts)->K1 u1 h2=R) ->
    qCall (zc t stdI m) (.fn 184 []) [.ptr lb 0,.agg [c0,c1,c2,c3]] h1 (.mk K1)=R:=by
   intro h1 K1 e1 hK;obtain⟨g1,q1,q2,q3⟩:=back h1 e1;have eh1:=eA.trans e1;have n1:=eh1.n;refine LK q2 q3 (by omega) (q1.hid lb (by omega) dl) (by rw[eh1.get _ hlb];exact ll) (lat.un DfC.staysU q1.un) (tpc.un q1.un) wf hN h1000 _ _ ?_;intro u1 h2 ⟨g2,a1,a2,a3,a4,a5,a6,a7⟩;rw[hr] at a6 a7;exact hK u1 h2 g2 (q1.trans a1) a2 a3 a4 a5 a6 a7
  cases rs with
  | bad c=>
   simp only at hmet;rw[hmet] at hk;rw[TS.c182];unfold f182;simp (disch:=first|omega|simp only[zD]<;>omega|assumption) only[↓zR,↓zRM,zR,zRM,reduceAdd,reduceMul,reduceToNat,↓bxA,tA];refine W _ _ ?_;intro v h1 ⟨e1,e2⟩;rw[hst] at e2;obtain⟨cc,e3,e4⟩:=e2;subst e3;have n1:=e1.n;have cA1:(h1.get h.n).cells=some [c0,c1,c2,c3]:=by rw[e1.get _ (by omega),cA];rfl
   simp (disch:=first|omega|simp only[zD]<;>omega|assumption) only[↓zR,↓zRM,zR,zRM,reduceAdd,reduceMul,reduceToNat,↓f182_J6,eq_false hk0,cA1];refine ask h1 _ e1 ?_;intro u1 h2 g2 G2 U2 N2 le2 same2 lb2 ⟨eu,hc⟩;subst eu;obtain⟨BX1,BX2,BX3,BX4⟩:=U2.box N2 (.own 0 [.int .i64 0,.int .i64 0,.nils]) (.own 0 [.int .i64 0,.int .i64 0,.nils]);have pz:zah [.int .i64 0,.int .i64 0,.nils] 0 [.int .i64 0,.int .i64 0,.nils]=[.int .i64 0,.int .i64 0,.nils]:=rfl;have fin:k (.tup [.bool false,.int .i64 (if c=901 then 1001 else 0)]) ((h2.push (.own 0 [.int .i64 0,.int .i64 0,.nils])).set h2.n (.own 0 [.int .i64 0,.int .i64 0,.nils]))=R:=by
    refine hk _ _ ⟨_,G2.trans BX1,BX2,BX3,by rw[H.n_set,H.n_push];omega,λi hi hne=>?_,by rw[BX4 _ (by omega)];exact lb2,rfl⟩;rw[BX4 i (by omega),same2 i (by omega) hne,e1.get i (by omega),eA.get i hi]
   unfold zdP
   by_cases h901:c=901
   ·rw[if_pos h901] at fin;simp (disch:=first|omega|simp only[zD]<;>omega|assumption) only[↓zR,↓zRM,zR,zRM,reduceAdd,reduceMul,reduceToNat,pz,eq_true h901];exact fin
   ·rw[if_neg h901] at fin;have c0':¬ c=0:=by omega
    simp (disch:=first|omega|simp only[zD]<;>omega|assumption) only[↓zR,↓zRM,zR,zRM,reduceAdd,reduceMul,reduceToNat,pz,eq_false h901,eq_false c0'];exact fin
  | ok f=>
   obtain⟨fw,_,fl,_⟩:=ok;have fl:f.parts.length<=3:=fl;simp only at hmet;rw[hmet] at hk;have fin0:∀(h2 g2:H) (w:AV),Gh g g2->Un g2 h2->g2.n=h2.n->hA.n<=h2.n->(∀i,i<hA.n->i≠lb->h2.get i=hA.get i)->h2.get lb = .own 0 [pv,.int .i64 (l1:Int)] ->
     ¬ (f.kind=u.kind/\f.num=u.num/\f.parts.length=u.kids.length)->k (.tup [.bool false,.int .i64 0]) ((h2.push (.own 0 [.int .i64 0,.int .i64 0,.nils])).set h2.n (.own 0 [.int .i64 f.kind,.int .i64 f.num,w]))=R:=by
    intro h2 g2 w G2 U2 N2 le2 same2 lb2 hno;obtain⟨BX1,BX2,BX3,BX4⟩:=U2.box N2 (.own 0 [.int .i64 0,.int .i64 0,.nils]) (.own 0 [.int .i64 f.kind,.int .i64 f.num,w]);rw[if_neg hno] at hk;refine hk _ _ ⟨_,G2.trans BX1,BX2,BX3,by rw[H.n_set,H.n_push];omega,λi hi hne=>?_,by rw[BX4 _ (by omega)];exact lb2,rfl⟩;rw[BX4 i (by omega),same2 i (by omega) hne,eA.get i hi]
   have pz:∀x y z:AV,zah [.int .i64 0,.int .i64 0,.nils] 0 [x,y,z]=[x,y,z]:=λx y z=>rfl
   rw[TS.c182];unfold f182;simp (disch:=first|omega|simp only[zD]<;>omega|assumption) only[↓zR,↓zRM,zR,zRM,reduceAdd,reduceMul,reduceToNat,↓bxA,tA];refine W _ _ ?_;intro v h1 ⟨e1,e2⟩;rw[hst] at e2;obtain⟨cc,e3,e4⟩:=e2;subst e3;have n1:=e1.n;have hc:SlAt h1 cc (strs u.kids):=e4.sl (Nat.le_refl _);have lc:∀kc:VK β,qLenL cc (.mk kc)=kc (.int .i64 (u.kids.length:Int)):=λkc=>by rw[hc.len,zag]
   have cA1:(h1.get h.n).cells=some [c0,c1,c2,c3]:=by rw[e1.get _ (by omega),cA];rfl
   simp (disch:=first|omega|simp only[zD]<;>omega|assumption) only[↓zR,↓zRM,zR,zRM,reduceAdd,reduceMul,reduceToNat,↓f182_J6,eq_false hk0,cA1];refine ask h1 _ e1 ?_;intro u1 h2 g2 G2 U2 N2 le2 same2 lb2 ⟨w,eu,wsc,lat2⟩;subst eu;have lw:=lat2.len (β:=β);have same2':∀i,i<hA.n->i≠lb->h2.get i=hA.get i:=λi hi hne=>by rw[same2 i (by omega) hne,e1.get i hi]
   have fin1:=fin0 h2 g2 w G2 U2 N2 (by omega) same2' lb2
   by_cases y1:f.kind=u.kind
   case neg=>
    simp (disch:=first|omega|simp only[zD]<;>omega|assumption) only[↓zR,↓zRM,zR,zRM,reduceAdd,reduceMul,reduceToNat,pz,eq_false y1];exact fin1 (λhh=>y1 hh.1)
   by_cases y2:f.num=u.num
   case neg=>
    simp (disch:=first|omega|simp only[zD]<;>omega|assumption) only[↓zR,↓zRM,zR,zRM,reduceAdd,reduceMul,reduceToNat,pz,eq_true y1,eq_false y2];exact fin1 (λhh=>y2 hh.2.1)
   by_cases y3:f.parts.length=u.kids.length
   case neg=>
    have y3':¬ (f.parts.length:Int)=(u.kids.length:Int):=by omega
    simp (disch:=first|omega|simp only[zD]<;>omega|assumption) only[↓zR,↓zRM,zR,zRM,reduceAdd,reduceMul,reduceToNat,pz,eq_true y1,eq_true y2,lw,lc,eq_false y3'];exact fin1 (λhh=>y3 hh.2.2)
   have y3':(f.parts.length:Int)=(u.kids.length:Int):=by omega
   rw[if_pos ⟨y1,y2,y3⟩] at hk;obtain⟨BX1,BX2,BX3,BX4⟩:=U2.box N2 (.own 0 [.int .i64 0,.int .i64 0,.nils]) (.own 0 [.int .i64 f.kind,.int .i64 f.num,w]);have hkl:=hku.2.1;have hmk:∀y ∈ u.kids,mayP y=true/\y.length<s.length:=ziO hu;simp (disch:=first|omega|simp only[zD]<;>omega|assumption) only[↓zR,↓zRM,zR,zRM,reduceAdd,reduceMul,reduceToNat,↓f182_J12,pz,eq_true y1,eq_true y2,lw,lc,eq_true y3'];refine zH 33 m _ _ (λi x0 x1 x2 x3 x4 x5 x6 x7 x8 x9 x10 x11 x12 x13 x14 x15 x16 x17 x18 x19 x20 x21 x22 x23 x24 x25 x26 x27 x28 x29 x30 x31 x32 h'=>x0 = .ptr lb 0/\x9 = .ptr h2.n 0/\x23=cc/\x24 = .int .i64 (u.kids.length:Int)/\∃(j l':Nat) (g':H),x25 = .int .i64 (j:Int)/\j+i=u.kids.length/\Gh (g2.push .dead) g'/\Un g' h'/\g'.n=h'.n/\h2.n<h'.n /\
    (∀i,i<h2.n+1->i≠lb->h'.get i=((h2.push (.own 0 [.int .i64 0,.int .i64 0,.nils])).set h2.n (.own 0 [.int .i64 f.kind,.int .i64 f.num,w])).get i)/\h'.get lb = .own 0 [pv,.int .i64 (l':Int)]/\l'<=l1/\metL (metN p N d) l1 u.kids f.parts=metL (metN p N d) l' (u.kids.drop j) (f.parts.drop j)) u.kids.length (by omega) ?_ _ _ _ _ _ _ _ _ _ _ _ _ _ _ _ _ _ _ _ _ _ _ _ _ _ _ _ _ _ _ _ _ _ _
    ⟨rfl,rfl,rfl,rfl,0,l1,_,rfl,by omega,Gh.refl _,BX2,BX3,by rw[H.n_set,H.n_push];omega,λi hi hne=>rfl,by rw[BX4 _ (by omega)];exact lb2,Nat.le_refl _,rfl⟩
   intro lp i ihl x0 x1 x2 x3 x4 x5 x6 x7 x8 x9 x10 x11 x12 x13 x14 x15 x16 x17 x18 x19 x20 x21 x22 x23 x24 x25 x26 x27 x28 x29 x30 x31 x32 h' ⟨p0,p9,p23,p24,j,l',g',p25,f1,f2,f3,f4,f5,f6,f7,f8,f9⟩;subst p0 p9 p23 p24 p25;have back':∀i,i<h.n->i≠lb->h'.get i=h.get i:=λi hi hne=>by rw[f6 i (by omega) hne,BX4 i (by omega),same2' i (by omega) hne,eA.get i hi]
   cases i with
   | zero=>
    have hj:j=u.kids.length:=by omega
    have cj:¬ (j:Int)<(u.kids.length:Int):=by omega
    simp (disch:=first|omega|simp only[zD]<;>omega|assumption) only[↓zR,↓zRM,zR,zRM,reduceAdd,reduceMul,reduceToNat,↓f182_J13,↓f182_J18,↓f182_J17,↓f182_L15,↓f182_J12,↓f182_J6,eq_false cj];have hend:metL (metN p N d) l1 u.kids f.parts=⟨true,0,l'⟩:=by
     rw[f9,List.drop_eq_nil_of_le (by omega)];unfold metL;rfl
    rw[hend] at hk;exact hk _ _ ⟨g',(G2.trans BX1).trans f2,f3,f4,by omega,back',f7,rfl⟩
   | succ i=>
    have hj:j<u.kids.length:=by omega
    have cj:(j:Int)<(u.kids.length:Int):=by omega
    obtain⟨y,hy⟩:∃y,u.kids[j]?=some y:=⟨_,List.getElem?_eq_getElem hj⟩
    obtain⟨x,hx⟩:∃x,f.parts[j]?=some x:=⟨_,List.getElem?_eq_getElem (by omega)⟩
    have hdk:u.kids.drop j=y::u.kids.drop (j+1):=by rw[List.drop_eq_getElem_cons hj];congr 1;exact (List.getElem?_eq_some_iff.1 hy).2
    have hdp:f.parts.drop j=x::f.parts.drop (j+1):=by rw[List.drop_eq_getElem_cons (by omega)];congr 1;exact (List.getElem?_eq_some_iff.1 hx).2
    rw[hdk,hdp] at f9;have hcx:SlAt h' x23 (strs u.kids):=by
     rcases e4 with⟨q1,q2⟩|⟨b,o,q1,q2,q3,q4,q5,q6⟩
     ·exact .inl ⟨q1,q2⟩
     ·rw[Nat.mul_one] at q5;refine .inr ⟨b,0,o,_,strs u.kids,by rw[q1,q5],by omega,?_,by simp,by omega⟩;rw[f6 b (by omega) (by omega),BX4 b (by omega),same2 b (by omega) (by omega),q4];rfl
    have hld:=λkc:VK β=>hcx.loadS (i:=(j:Int)) (kd:=.i64) (by omega) (by omega) kc
    rw[Int.toNat_natCast,show u.kids.getD j []=y by rw[List.getD_eq_getElem?_getD,hy];rfl] at hld;obtain⟨b,o,ts,t1,t2,t3⟩:=lat2.at (β:=β) hx;have G2':=(G2.trans BX1).trans f2;have hb2:=t2.1;obtain⟨us,s1,s2,s3,_⟩:=t2.get;have tb:(h'.get b).cells=some us:=by
     have:=(BX1.trans f2).un.get b hb2 (by rw[s1];simp)
     rw[f3.get b (by have:=(BX1.trans f2).un.n;omega) (by rw[this,s1];simp),this];exact s1
    have t5:=t3.len;obtain⟨d0,d1,d2,d3,rfl⟩:∃d0 d1 d2 d3,ts=[d0,d1,d2,d3]:=by
     match ts,t5 with
     | [a0,a1,a2,a3],_=>exact⟨_,_,_,_,rfl⟩
    have cb:(h'.get h2.n).cells=some [.int .i64 f.kind,.int .i64 f.num,w]:=by rw[f6 _ (by omega) (by omega),zk rfl];rfl
    simp (disch:=first|omega|simp only[zD]<;>omega|assumption) only[↓zR,↓zRM,zR,zRM,reduceAdd,reduceMul,reduceToNat,↓f182_J13,↓f182_J18,↓f182_J17,↓f182_L15,↓f182_J12,↓f182_J6,eq_true cj,hld,cb,t1,tb,s3];refine ih f3 f4 (by omega) (G2'.hid lb (by omega) dl) f7 (lat.un DfC.staysU G2'.un) (t3.un (BX1.trans f2).un) (fw x (List.mem_of_getElem? hx)) (by omega) (by omega) (hmk y (List.mem_of_getElem? hy)).1 (by have:=(hmk y (List.mem_of_getElem? hy)).2;omega) _ _ ?_;intro u5 h5 ⟨g5,a1,a2,a3,a4,a5,a6,a7⟩;subst a7;have hmle:=zg2 p N d l' y x;rw[zdc] at f9;cases hmi:(metN p N d l' y x).is with
    | false=>
     rw[hmi,if_neg (by decide)] at f9;simp (disch:=first|omega|simp only[zD]<;>omega|assumption) only[↓zR,↓zRM,zR,zRM,reduceAdd,reduceMul,reduceToNat,↓f182_J13,↓f182_J18,↓f182_J17,↓f182_L15,↓f182_J12,↓f182_J6,hmi];rw[f9] at hk;refine hk _ _ ⟨g5,G2'.trans a1,a2,a3,by omega,λi hi hne=>by rw[a5 i (by omega) hne];exact back' i hi hne,a6,rfl⟩
    | true=>
     rw[hmi,if_pos rfl] at f9;simp (disch:=first|omega|simp only[zD]<;>omega|assumption) only[↓zR,↓zRM,zR,zRM,reduceAdd,reduceMul,reduceToNat,↓f182_J13,↓f182_J18,↓f182_J17,↓f182_L15,↓f182_J12,↓f182_J6,hmi];refine ihl i (by omega) _ _ _ _ _ _ _ _ _ _ _ _ _ _ _ _ _ _ _ _ _ _ _ _ _ _ _ _ _ _ _ _ _ _ ⟨rfl,rfl,rfl,rfl,j+1,(metN p N d l' y x).left,g5,zaB j,by omega,f2.trans a1,a2,a3,by omega,λi hi hne=>by rw[a5 i (by omega) hne];exact f6 i hi hne,a6,by omega,f9⟩
variable {β:Type}
theorem GS10.w152(TS:GS10 t)(TN:GNM t)(TC:GC t)(T:GA t)(L:GI t)(n:Nat){h:H}{pv:AV}{p:List Df}(hp:LAt 2 DfC h pv p)(hl:p.length<=9223372036854775807)(hl2:∀d ∈ p,d.body.length<=9223372036854775807){f pa:Int}{av:AV}{res:List UInt8}{args:List (List UInt8)}(ha:SlAt h av (strs args))(hn:args.length+4300<=n)(fuel:Int) :
  Sp (β:=β) (zc t stdI n (.fn 152 []) [.agg [pv],.agg [.int .i64 f,.int .i64 pa,av,.str res],.int .i64 fuel] h) λu h'=>Ext h h'/\u = .tup [.bool (zcB p f args res fuel).1,.int .i64 (zcB p f args res fuel).2]:=by
 intro k R hk;obtain⟨m,rfl⟩:∃m,n=m+1:=⟨n-1,by omega⟩
 have hbx:∀(hh:H) (kk:K β),qBox 0 (.agg [pv]) hh (.mk kk)=kk (.ptr hh.n 0) (hh.push (.own 0 [pv])):=λhh kk=>zm 0 _ hh kk
 have hbn:∀(hh:H) (kk:K β),qBox 0 (.agg [.int .i64 f,.int .i64 pa,av,.str res]) hh (.mk kk)=kk (.ptr hh.n 0) (hh.push (.own 0 [.int .i64 f,.int .i64 pa,av,.str res])):=λhh kk=>zm 0 _ hh kk
 obtain⟨hA,ehA⟩:∃hA,hA=(h.push (.own 0 [pv])).push (.own 0 [.int .i64 f,.int .i64 pa,av,.str res]):=⟨_,rfl⟩
 have tA:(h.push (.own 0 [pv])).push (.own 0 [.int .i64 f,.int .i64 pa,av,.str res])=hA:=ehA.symm;have nA:hA.n=h.n+2:=by rw[ehA];simp only[H.n_push]
 have eA:Ext h hA:=by rw[ehA];exact ((Ext.refl h).push _).push _
 have cA:(hA.get h.n).cells=some [pv]:=by rw[ehA,zb (by rw[H.n_push];omega),zd rfl];rfl
 have xA:(hA.get (h.n+1)).cells=some [.int .i64 f,.int .i64 pa,av,.str res]:=by rw[ehA,zd (by rw[H.n_push])];rfl
 have W:=TN.w181 (β:=β) TC T L m (h:=hA) (hp.ext DfC.stays eA) hl hl2 (ha.ext eA) (by omega) f fuel;have pz:∀a b c d:AV,zah [.str [],.nils,.int .i64 0,.nils] 0 [a,b,c,d]=[a,b,c,d]:=λa b c d=>rfl
 by_cases hm:zat p f args fuel
 case neg=>
  have hN:zcB p f args res fuel=(false,1000):=by unfold zcB;rw[if_neg (λhh=>hm hh.1)]
  rw[hN] at hk;rw[TS.c152];unfold f152;simp (disch:=first|omega|simp only[zD]<;>omega|assumption) only[↓zR,↓zRM,zR,zRM,reduceAdd,reduceMul,reduceToNat,↓hbx,↓hbn,tA,cA,xA];refine W _ _ ?_;intro u h1 ⟨e1,eu⟩;rw[if_neg hm] at eu;subst eu;have n1:=e1.n;simp (disch:=first|omega|simp only[zD]<;>omega|assumption) only[↓zR,↓zRM,zR,zRM,reduceAdd,reduceMul,reduceToNat,pz];exact hk _ _ ⟨((eA.trans e1).push _).set (by omega) _,rfl⟩
 obtain⟨df,hd,hb,hb1,hb24,ha8,wf,_⟩:=zdo hm;obtain⟨hpm,hf0,hf1,_,hall,hfu0,hfu1⟩:=id hm;have hfu:fuel=((fuel.toNat:Nat):Int):=by omega
 have WM:=λhh=>T.w17 (β:=β) L m (by omega) res hh
 have after:∀(h1:H) (lb:Nat) (x0 x1 x2 x3:AV),Ext hA h1->hA.n<=lb->lb<h1.n->h1.get lb = .own 0 [pv,.int .i64 fuel]->TPC p (h1.set lb .dead) [x0,x1,x2,x3] (zcD p f.toNat args)->∀h3,Ext ((h1.push (.own 0 [.str [],.nils,.int .i64 0,.nils])).set h1.n (.own 0 [x0,x1,x2,x3])) h3->mayP res=true ->
   (∀u h4,Ext h h4->u = .tup [.bool (metN p (fuel.toNat+1) (res.length+1) fuel.toNat res (zcD p f.toNat args)).is,.int .i64 (metN p (fuel.toNat+1) (res.length+1) fuel.toNat res (zcD p f.toNat args)).code]->k u h4=R) ->
   ∀K1:K β,(∀a b h4,k (.tup [.bool a,.int .i64 b]) h4=R->K1 (.tup [.bool a,.int .i64 b]) h4=R)->qCall (zc t stdI m) (.fn 182 []) [.ptr lb 0,.str res,.agg [x0,x1,x2,x3]] h3 (.mk K1)=R:=by
  intro h1 lb x0 x1 x2 x3 e1 hlb hlb1 gl tc h3 e3 hres hkk K1 hK1;have eh:=eA.trans e1;have n1:=eh.n;have e3n:=e3.n;rw[H.n_set,H.n_push] at e3n;have e13:∀i,i<h1.n->h3.get i=h1.get i:=λi hi=>by rw[e3.get i (by rw[H.n_set,H.n_push];omega),ze (by omega),zb (by omega)]
  have tc3:TPC p (h3.set lb .dead) [x0,x1,x2,x3] (zcD p f.toNat args):=by
   refine tc.un ⟨by simp only[H.n_set];omega,λi hi _=>?_⟩;rw[H.n_set] at hi
   by_cases hi2:lb=i
   ·subst hi2;rw[zk rfl,zk rfl]
   ·rw[ze hi2,ze hi2,e13 i hi]
  have u3:Un (h3.set lb .dead) h3:=⟨by rw[H.n_set];exact Nat.le_refl _,λi hi hc=>by
   by_cases hi1:lb=i
   ·subst hi1;rw[zk rfl] at hc;exact absurd rfl hc
   ·rw[ze hi1]⟩
  have uh:Un h (h3.set lb .dead):=⟨by rw[H.n_set];omega,λi hi hc=>by rw[ze (by omega),e13 i (by omega),eh.get i hi]⟩
  have MO:MetOk t p (fuel.toNat+1) (res.length+1) m:=TS.met TN T L hpm (res.length+1) m (by
   have:res.length<=1024:=by obtain⟨u,hu⟩:=(zdd res).1 hres;exact (zdl hu).1
   omega)
  refine MO u3 (by rw[H.n_set]) (by omega) (by rw[zk rfl];rfl) (by rw[<- hfu,e13 _ hlb1];exact gl) (hp.un DfC.staysU uh) tc3 wf (by omega) (by omega) hres (Nat.lt_succ_self _) _ _ ?_;intro u h4 ⟨g4,a1,a2,a3,a4,a5,a6,a7⟩;subst a7;refine hK1 _ _ h4 (hkk _ h4 ⟨by omega,λi hi=>?_⟩ rfl);rw[a5 i (by omega) (by omega),e13 i (by omega),eh.get i hi]
 cases hres:mayP res with
 | false=>
  have hN:zcB p f args res fuel=(false,1000):=by unfold zcB;rw[if_neg (λhh=>by rw[hh.2] at hres;cases hres)]
  rw[hN] at hk;rw[TS.c152];unfold f152;simp (disch:=first|omega|simp only[zD]<;>omega|assumption) only[↓zR,↓zRM,zR,zRM,reduceAdd,reduceMul,reduceToNat,↓hbx,↓hbn,tA,cA,xA];refine W _ _ ?_;intro u h1 ⟨e1,eu⟩;rw[if_pos hm] at eu;obtain⟨lb,cs,eu,hlb,hlb1,gl,tc⟩:=eu;have h4l:=tc.len;obtain⟨x0,x1,x2,x3,rfl⟩:∃x0 x1 x2 x3,cs=[x0,x1,x2,x3]:=by
   match cs,h4l with
   | [a0,a1,a2,a3],_=>exact⟨_,_,_,_,rfl⟩
  subst eu;have n1:=e1.n;have xA1:(h1.get (h.n+1)).cells=some [.int .i64 f,.int .i64 pa,av,.str res]:=by rw[e1.get _ (by omega)];exact xA
  simp (disch:=first|omega|simp only[zD]<;>omega|assumption) only[↓zR,↓zRM,zR,zRM,reduceAdd,reduceMul,reduceToNat,pz,xA1];refine WM _ _ _ ?_;intro u h3 ⟨e3,eu⟩;subst eu;simp (disch:=first|omega|simp only[zD]<;>omega|assumption) only[↓zR,↓zRM,zR,zRM,reduceAdd,reduceMul,reduceToNat,hres];exact hk _ _ ⟨((((eA.trans e1).push _).set (by omega) _).trans e3),rfl⟩
 | true=>
  have hN:zcB p f args res fuel=((metN p (fuel.toNat+1) (res.length+1) fuel.toNat res (zcD p f.toNat args)).is,(metN p (fuel.toNat+1) (res.length+1) fuel.toNat res (zcD p f.toNat args)).code):=by unfold zcB;rw[if_pos ⟨hm,hres⟩]
  rw[hN] at hk;rw[TS.c152];unfold f152;simp (disch:=first|omega|simp only[zD]<;>omega|assumption) only[↓zR,↓zRM,zR,zRM,reduceAdd,reduceMul,reduceToNat,↓hbx,↓hbn,tA,cA,xA];refine W _ _ ?_;intro u h1 ⟨e1,eu⟩;rw[if_pos hm] at eu;obtain⟨lb,cs,eu,hlb,hlb1,gl,tc⟩:=eu;have h4l:=tc.len;obtain⟨x0,x1,x2,x3,rfl⟩:∃x0 x1 x2 x3,cs=[x0,x1,x2,x3]:=by
   match cs,h4l with
   | [a0,a1,a2,a3],_=>exact⟨_,_,_,_,rfl⟩
  subst eu;have n1:=e1.n;have xA1:(h1.get (h.n+1)).cells=some [.int .i64 f,.int .i64 pa,av,.str res]:=by rw[e1.get _ (by omega)];exact xA
  simp (disch:=first|omega|simp only[zD]<;>omega|assumption) only[↓zR,↓zRM,zR,zRM,reduceAdd,reduceMul,reduceToNat,pz,xA1];refine WM _ _ _ ?_;intro u h3 ⟨e3,eu⟩;subst eu;have xA3:(h3.get (h.n+1)).cells=some [.int .i64 f,.int .i64 pa,av,.str res]:=by rw[e3.get _ (by rw[H.n_set,H.n_push];omega),ze (by omega),zb (by omega)];exact xA1
  have tA3:(h3.get h1.n).cells=some [x0,x1,x2,x3]:=by rw[e3.get _ (by rw[H.n_set,H.n_push];omega),zk rfl];rfl
  simp (disch:=first|omega|simp only[zD]<;>omega|assumption) only[↓zR,↓zRM,zR,zRM,reduceAdd,reduceMul,reduceToNat,↓f152_J12,hres,xA3,tA3];refine after h1 lb x0 x1 x2 x3 e1 hlb hlb1 gl tc h3 e3 hres (λu h4 e4 eu=>hk u h4 ⟨e4,eu⟩) _ λa b h4 hh=>?_
  simp (disch:=first|omega|simp only[zD]<;>omega|assumption) only[↓zR,↓zRM,zR,zRM,reduceAdd,reduceMul,reduceToNat];exact hh
end
end Am.F
