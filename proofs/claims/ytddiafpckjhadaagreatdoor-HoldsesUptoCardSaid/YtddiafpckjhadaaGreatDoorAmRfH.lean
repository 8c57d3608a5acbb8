/- Walks: the reference's Holds. -/
import Derived.Test.YtddiafpckjhadaaGreatDoorAmJk
import Derived.Test.YtddiafpckjhadaaGreatDoorAmHoV
import Derived.Test.YtddiafpckjhadaaGreatDoorAmGR10W
open Nat (reduceAdd reduceMul)
open Int (reduceToNat)
set_option linter.unusedSimpArgs false
set_option linter.unusedVariables false
namespace Am.F
open Go Am
def code5(c:Int):Int:=if c=0 then 0 else 901
def MPost5(r:Mt)(g h:H)(lb:Nat)(pv:AV)(u:AV)(h':H):Prop :=
 ∃g',Gh g g'/\Un g' h'/\g'.n=h'.n/\h.n<=h'.n/\(∀i,i<h.n->i≠lb->h'.get i=h.get i)/\h'.get lb = .own 0 [pv,.int .i64 (r.left:Int),.int .i64 (code5 r.code)]/\u = .bool r.is
def MtOk5(t:ETree)(p:List Df)(N d n:Nat):Prop:=∀{β:Type} {g h:H} {lb:Nat} {pv:AV} {left:Nat} {cs:List AV} {th:Thg} {s:List UInt8},Un g h->g.n=h.n->lb<h.n->(g.get lb).cells=none->h.get lb = .own 0 [pv,.int .i64 (left:Int),.int .i64 0]->LAt 2 DfC g pv p->RPC g cs th->WF p th->left<N->left<=1000->mayP s=true->s.length<d ->
 Sp (β:=β) (zc t stdI n (.fn 169 []) [.ptr lb 0,.str s,.agg cs] h) λu h'=>MPost5 (metN p N d left s th) g h lb pv u h'
section
variable {t:ETree}
set_option maxHeartbeats 2000000 in
theorem GR10.meets(TS:GR10 t)(TR:GR9 t)(T:GA t){p:List Df}(hpm:zP p=true){N:Nat}(d:Nat):∀n:Nat,2300+N+d<=n->MtOk5 t p N d n:=by
 induction d with
 | zero=>intro n _ β g h lb pv left cs th s _ _ _ _ _ _ _ _ _ _ _ hd;exact absurd hd (by omega)
 | succ d ihd=>
  intro n hn β g h lb pv left cs th s ug gn hlb dl ll lat tpc wf hN h1000 hms hsd k R hk;obtain⟨m,rfl⟩:∃m,n=m+1:=⟨n-1,by omega⟩
  have ih:MtOk5 t p N d m:=ihd m (by omega);have h4:=tpc.len;obtain⟨c0,c1,c2,c3,c4,rfl⟩:∃c0 c1 c2 c3 c4,cs=[c0,c1,c2,c3,c4]:=by
   match cs,h4 with
   | [a0,a1,a2,a3,a4],_=>exact⟨_,_,_,_,_,rfl⟩
  obtain⟨u,hu⟩:=(zdd s).1 hms;have hrf:refP s=some (toC s u):=by rw[zgN,hu];rfl
  have hlen:=(zdl hu).1;have hku:=zcX hu;obtain⟨gA,uA,nA,dA⟩:=ug.hide gn (.own 0 [c0,c1,c2,c3,c4]);obtain⟨hA,ehA⟩:∃hA,hA=h.push (.own 0 [c0,c1,c2,c3,c4]):=⟨_,rfl⟩
  have tA:h.push (.own 0 [c0,c1,c2,c3,c4])=hA:=ehA.symm;have nhA:hA.n=h.n+1:=by rw[ehA,H.n_push]
  have eA:Ext h hA:=by rw[ehA];exact (Ext.refl h).push _
  rw[tA] at uA nA;have cA:hA.get h.n = .own 0 [c0,c1,c2,c3,c4]:=by rw[ehA];exact zd rfl
  have bxA:∀(hh:H) (kk:K β),qBox 0 (.agg [c0,c1,c2,c3,c4]) hh (.mk kk)=kk (.ptr hh.n 0) (hh.push (.own 0 [c0,c1,c2,c3,c4])):=λhh kk=>zm 0 _ hh kk
  have W:=T.w12 (β:=β) m (by omega) s (by omega) hA;rw[hrf] at W;have LK:EvOk t p N m:=TR.evalOk T hpm N m (by omega);have ok:=zb2 hpm N left th wf;have hle:=zaL p N left th;obtain⟨rs,l1,hr⟩:∃rs l1,zp p N left th=(rs,l1):=⟨_,_,rfl⟩
  rw[hr] at ok hle;have hle:l1<=left:=hle;have hmet:metN p N (d+1) left s th=if u.kind=0 then ⟨true,0,left⟩ else
   match (rs,l1) with
   | (.bad c,l1)=>⟨false,if c=901 then 1001 else 0,l1⟩
   | (.ok f,l1)=>if f.kind=u.kind/\f.num=u.num/\f.parts.length=u.kids.length then metL (metN p N d) l1 u.kids f.parts else ⟨false,0,l1⟩:=by
   conv=>lhs;unfold metN
   rw[hu,hr];rfl
  have back:∀h1,Ext hA h1->∃g1,Gh g g1/\Un g1 h1/\g1.n=h1.n:=λh1 e1=>by
   obtain⟨g1,q1,q2,q3,_⟩:=uA.grow nA e1;exact⟨g1,gA.trans q1,q2,q3⟩
  by_cases hk0:u.kind=0
  ·rw[if_pos hk0] at hmet;rw[hmet] at hk;rw[TS.c169];unfold f169;simp (disch:=first|omega|simp only[zD]<;>omega|assumption) only[↓zR,↓zRM,zR,zRM,reduceAdd,reduceMul,reduceToNat,↓bxA,tA];refine W _ _ ?_;intro v h1 ⟨e1,e2⟩;obtain⟨c,e3,e4⟩:∃c,v = .tup [.int .i64 u.kind,.int .i64 u.num,c,.int .i64 0]/\zN h1 hA.n h1.n 1 c (strs u.kids):=e2;subst e3;simp (disch:=first|omega|simp only[zD]<;>omega|assumption) only[↓zR,↓zRM,zR,zRM,reduceAdd,reduceMul,reduceToNat,eq_true hk0];obtain⟨g1,q1,q2,q3⟩:=back h1 e1;have eh1:=eA.trans e1;exact hk _ _ ⟨g1,q1,q2,q3,eh1.n,λi hi _=>eh1.get i hi,by rw[eh1.get _ hlb];exact ll,rfl⟩
  rw[if_neg hk0] at hmet;have ask:∀(h1:H) (K1:K β),Ext hA h1->(∀u1 h2 g2,Gh g g2->Un g2 h2->g2.n=h2.n->h1.n<=h2.n->(∀i,i<h1.n->i≠lb->h2.get i=h1.get i)->(match rs with
    | .bad c=>u1 = .agg [.int .i64 3,.int .i64 0,.nils]/\(c=901\/c=902)/\h2.get lb = .own 0 [pv,.int .i64 (l1:Int),.int .i64 c]
    | .ok q=>∃w,u1 = .agg [.int .i64 q.kind,.int .i64 q.num,w]/\w.sc=true/\LAt 5 RPC g2 w q.parts/\h2.get lb = .own 0 [pv,.int .i64 (l1:Int),.int .i64 0])->K1 u1 h2=R) ->
    qCall (zc t stdI m) (.fn 172 []) [.ptr lb 0,.agg [c0,c1,c2,c3,c4]] h1 (.mk K1)=R:=by
   intro h1 K1 e1 hK;obtain⟨g1,q1,q2,q3⟩:=back h1 e1;have eh1:=eA.trans e1;have n1:=eh1.n;refine LK q2 q3 (by omega) (q1.hid lb (by omega) dl) (by rw[eh1.get _ hlb];exact ll) (lat.un DfC.staysU q1.un) (tpc.un q1.un) wf hN h1000 _ _ ?_;intro u1 h2 ⟨g2,a1,a2,a3,a4,a5,a6⟩;rw[hr] at a6;exact hK u1 h2 g2 (q1.trans a1) a2 a3 a4 a5 a6
  have pz:∀x y z:AV,zah [.int .i64 0,.int .i64 0,.nils] 0 [x,y,z]=[x,y,z]:=λx y z=>rfl
  cases rs with
  | bad c=>
   simp only at hmet;rw[hmet] at hk;rw[TS.c169];unfold f169;simp (disch:=first|omega|simp only[zD]<;>omega|assumption) only[↓zR,↓zRM,zR,zRM,reduceAdd,reduceMul,reduceToNat,↓bxA,tA];refine W _ _ ?_;intro v h1 ⟨e1,e2⟩;obtain⟨cc,e3,e4⟩:∃c,v = .tup [.int .i64 u.kind,.int .i64 u.num,c,.int .i64 0]/\zN h1 hA.n h1.n 1 c (strs u.kids):=e2;subst e3;have n1:=e1.n;have cA1:(h1.get h.n).cells=some [c0,c1,c2,c3,c4]:=by rw[e1.get _ (by omega),cA];rfl
   simp (disch:=first|omega|simp only[zD]<;>omega|assumption) only[↓zR,↓zRM,zR,zRM,reduceAdd,reduceMul,reduceToNat,↓f169_J6,eq_false hk0,cA1];refine ask h1 _ e1 ?_;intro u1 h2 g2 G2 U2 N2 le2 same2 ⟨eu,hc,lb2⟩;subst eu;obtain⟨BX1,BX2,BX3,BX4⟩:=U2.box N2 (.own 0 [.int .i64 0,.int .i64 0,.nils]) (.own 0 [.int .i64 3,.int .i64 0,.nils]);have lc2:(h2.get lb).cells=some [pv,.int .i64 (l1:Int),.int .i64 c]:=by rw[lb2];rfl
   have lo2:zt (h2.get lb)=some (0,[pv,.int .i64 (l1:Int),.int .i64 c]):=by rw[lb2];rfl
   have old:∀i,i<h.n->i≠lb->((h2.push (.own 0 [.int .i64 0,.int .i64 0,.nils])).set h2.n (.own 0 [.int .i64 3,.int .i64 0,.nils])).get i=h.get i:=λi hi hne=>by
    rw[BX4 i (by omega),same2 i (by omega) hne,e1.get i (by omega),eA.get i hi]
   by_cases h902:c=902
   ·have h901:¬ c=901:=by omega
    rw[if_neg h901] at hk;have hid:=(G2.trans BX1).hid lb (by omega) dl;simp (disch:=first|omega|simp only[zD]<;>omega|assumption) only[↓zR,↓zRM,zR,zRM,reduceAdd,reduceMul,reduceToNat,zaa,pz,lc2,lo2,eq_true h902];refine hk _ _ ⟨_,G2.trans BX1,BX2.set hid (.own 0 [pv,.int .i64 (l1:Int),.int .i64 0]),by rw[BX3];simp only[H.n_set],by simp only[H.n_set,H.n_push];omega,λi hi hne=>by rw[ze (by omega)];exact old i hi hne,by rw[zk rfl];rfl,rfl⟩
   ·have h901:c=901:=by omega
    subst h901;rw[if_pos rfl] at hk;simp (disch:=first|omega|simp only[zD]<;>omega|assumption) only[↓zR,↓zRM,zR,zRM,reduceAdd,reduceMul,reduceToNat,↓f169_J10,zaa,pz,lc2];exact hk _ _ ⟨_,G2.trans BX1,BX2,BX3,by simp only[H.n_set,H.n_push];omega,old,by rw[BX4 _ (by omega)];exact lb2,rfl⟩
  | ok f=>
   obtain⟨fw,_,fl,_⟩:=ok;have fl:f.parts.length<=3:=fl;simp only at hmet;rw[hmet] at hk;have fin0:∀(h2 g2:H) (w:AV),Gh g g2->Un g2 h2->g2.n=h2.n->hA.n<=h2.n->(∀i,i<hA.n->i≠lb->h2.get i=hA.get i)->h2.get lb = .own 0 [pv,.int .i64 (l1:Int),.int .i64 0] ->
     ¬ (f.kind=u.kind/\f.num=u.num/\f.parts.length=u.kids.length)->k (.bool false) ((h2.push (.own 0 [.int .i64 0,.int .i64 0,.nils])).set h2.n (.own 0 [.int .i64 f.kind,.int .i64 f.num,w]))=R:=by
    intro h2 g2 w G2 U2 N2 le2 same2 lb2 hno;obtain⟨BX1,BX2,BX3,BX4⟩:=U2.box N2 (.own 0 [.int .i64 0,.int .i64 0,.nils]) (.own 0 [.int .i64 f.kind,.int .i64 f.num,w]);rw[if_neg hno] at hk;refine hk _ _ ⟨_,G2.trans BX1,BX2,BX3,by rw[H.n_set,H.n_push];omega,λi hi hne=>?_,by rw[BX4 _ (by omega)];exact lb2,rfl⟩;rw[BX4 i (by omega),same2 i (by omega) hne,eA.get i hi]
   rw[TS.c169];unfold f169;simp (disch:=first|omega|simp only[zD]<;>omega|assumption) only[↓zR,↓zRM,zR,zRM,reduceAdd,reduceMul,reduceToNat,↓bxA,tA];refine W _ _ ?_;intro v h1 ⟨e1,e2⟩;obtain⟨cc,e3,e4⟩:∃c,v = .tup [.int .i64 u.kind,.int .i64 u.num,c,.int .i64 0]/\zN h1 hA.n h1.n 1 c (strs u.kids):=e2;subst e3;have n1:=e1.n;have hc:SlAt h1 cc (strs u.kids):=e4.sl (Nat.le_refl _);have lc:∀kc:VK β,qLenL cc (.mk kc)=kc (.int .i64 (u.kids.length:Int)):=λkc=>by rw[hc.len,zag]
   have cA1:(h1.get h.n).cells=some [c0,c1,c2,c3,c4]:=by rw[e1.get _ (by omega),cA];rfl
   simp (disch:=first|omega|simp only[zD]<;>omega|assumption) only[↓zR,↓zRM,zR,zRM,reduceAdd,reduceMul,reduceToNat,↓f169_J6,eq_false hk0,cA1];refine ask h1 _ e1 ?_;intro u1 h2 g2 G2 U2 N2 le2 same2 ⟨w,eu,wsc,lat2,lb2⟩;subst eu;have lw:=lat2.len (β:=β);have lc2:(h2.get lb).cells=some [pv,.int .i64 (l1:Int),.int .i64 0]:=by rw[lb2];rfl
   have same2':∀i,i<hA.n->i≠lb->h2.get i=hA.get i:=λi hi hne=>by rw[same2 i (by omega) hne,e1.get i hi]
   have fin1:=fin0 h2 g2 w G2 U2 N2 (by omega) same2' lb2
   by_cases y1:f.kind=u.kind
   case neg=>
    simp (disch:=first|omega|simp only[zD]<;>omega|assumption) only[↓zR,↓zRM,zR,zRM,reduceAdd,reduceMul,reduceToNat,↓f169_J10,zaa,lc2,pz,eq_false y1];exact fin1 (λhh=>y1 hh.1)
   by_cases y2:f.num=u.num
   case neg=>
    simp (disch:=first|omega|simp only[zD]<;>omega|assumption) only[↓zR,↓zRM,zR,zRM,reduceAdd,reduceMul,reduceToNat,↓f169_J10,zaa,lc2,pz,eq_true y1,eq_false y2];exact fin1 (λhh=>y2 hh.2.1)
   by_cases y3:f.parts.length=u.kids.length
   case neg=>
    have y3':¬ (f.parts.length:Int)=(u.kids.length:Int):=by omega
    simp (disch:=first|omega|simp only[zD]<;>omega|assumption) only[↓zR,↓zRM,zR,zRM,reduceAdd,reduceMul,reduceToNat,↓f169_J10,zaa,lc2,pz,eq_true y1,eq_true y2,lw,lc,eq_false y3'];exact fin1 (λhh=>y3 hh.2.2)
   have y3':(f.parts.length:Int)=(u.kids.length:Int):=by omega
   rw[if_pos ⟨y1,y2,y3⟩] at hk;obtain⟨BX1,BX2,BX3,BX4⟩:=U2.box N2 (.own 0 [.int .i64 0,.int .i64 0,.nils]) (.own 0 [.int .i64 f.kind,.int .i64 f.num,w]);have hkl:=hku.2.1;have hmk:∀y ∈ u.kids,mayP y=true/\y.length<s.length:=ziO hu;simp (disch:=first|omega|simp only[zD]<;>omega|assumption) only[↓zR,↓zRM,zR,zRM,reduceAdd,reduceMul,reduceToNat,↓f169_J10,↓f169_J11,zaa,lc2,pz,eq_true y1,eq_true y2,lw,lc,eq_true y3'];refine zH 17 m _ _ (λi x0 x1 x2 x3 x4 x5 x6 x7 x8 x9 x10 x11 x12 x13 x14 x15 x16 h'=>x0 = .ptr lb 0/\x7=cc/\x8 = .ptr h2.n 0/\∃(j l':Nat) (g':H),x9 = .int .i64 (j:Int)/\j+i=u.kids.length/\Gh (g2.push .dead) g'/\Un g' h'/\g'.n=h'.n/\h2.n<h'.n /\
    (∀i,i<h2.n+1->i≠lb->h'.get i=((h2.push (.own 0 [.int .i64 0,.int .i64 0,.nils])).set h2.n (.own 0 [.int .i64 f.kind,.int .i64 f.num,w])).get i)/\h'.get lb = .own 0 [pv,.int .i64 (l':Int),.int .i64 0]/\l'<=l1/\metL (metN p N d) l1 u.kids f.parts=metL (metN p N d) l' (u.kids.drop j) (f.parts.drop j)) u.kids.length (by omega) ?_ _ _ _ _ _ _ _ _ _ _ _ _ _ _ _ _ _ _
    ⟨rfl,rfl,rfl,0,l1,_,rfl,by omega,Gh.refl _,BX2,BX3,by rw[H.n_set,H.n_push];omega,λi hi hne=>rfl,by rw[BX4 _ (by omega)];exact lb2,Nat.le_refl _,rfl⟩
   intro lp i ihl x0 x1 x2 x3 x4 x5 x6 x7 x8 x9 x10 x11 x12 x13 x14 x15 x16 h' ⟨p0,p7,p8,j,l',g',p9,f1,f2,f3,f4,f5,f6,f7,f8,f9⟩;subst p0 p7 p8 p9;have back':∀i,i<h.n->i≠lb->h'.get i=h.get i:=λi hi hne=>by rw[f6 i (by omega) hne,BX4 i (by omega),same2' i (by omega) hne,eA.get i hi]
   cases i with
   | zero=>
    have hj:j=u.kids.length:=by omega
    have cj:¬ (j:Int)<(u.kids.length:Int):=by omega
    simp (disch:=first|omega|simp only[zD]<;>omega|assumption) only[↓zR,↓zRM,zR,zRM,reduceAdd,reduceMul,reduceToNat,↓f169_J12,↓f169_J15,↓f169_J14,↓f169_L13,↓f169_J11,↓f169_J10,↓f169_J6,lc,eq_false cj];have hend:metL (metN p N d) l1 u.kids f.parts=⟨true,0,l'⟩:=by
     rw[f9,List.drop_eq_nil_of_le (by omega)];unfold metL;rfl
    rw[hend] at hk;exact hk _ _ ⟨g',(G2.trans BX1).trans f2,f3,f4,by omega,back',f7,rfl⟩
   | succ i=>
    have hj:j<u.kids.length:=by omega
    have cj:(j:Int)<(u.kids.length:Int):=by omega
    obtain⟨y,hy⟩:∃y,u.kids[j]?=some y:=⟨_,List.getElem?_eq_getElem hj⟩
    obtain⟨x,hx⟩:∃x,f.parts[j]?=some x:=⟨_,List.getElem?_eq_getElem (by omega)⟩
    have hdk:u.kids.drop j=y::u.kids.drop (j+1):=by rw[List.drop_eq_getElem_cons hj];congr 1;exact (List.getElem?_eq_some_iff.1 hy).2
    have hdp:f.parts.drop j=x::f.parts.drop (j+1):=by rw[List.drop_eq_getElem_cons (by omega)];congr 1;exact (List.getElem?_eq_some_iff.1 hx).2
    rw[hdk,hdp] at f9;have hcx:SlAt h' x7 (strs u.kids):=by
     rcases e4 with⟨q1,q2⟩|⟨b,o,q1,q2,q3,q4,q5,q6⟩
     ·exact .inl ⟨q1,q2⟩
     ·rw[Nat.mul_one] at q5;refine .inr ⟨b,0,o,_,strs u.kids,by rw[q1,q5],by omega,?_,by simp,by omega⟩;rw[f6 b (by omega) (by omega),BX4 b (by omega),same2 b (by omega) (by omega),q4];rfl
    have hld:=λkc:VK β=>hcx.loadS (i:=(j:Int)) (kd:=.i64) (by omega) (by omega) kc
    rw[Int.toNat_natCast,show u.kids.getD j []=y by rw[List.getD_eq_getElem?_getD,hy];rfl] at hld;have G2':=(G2.trans BX1).trans f2;have cb:(h'.get h2.n).cells=some [.int .i64 f.kind,.int .i64 f.num,w]:=by rw[f6 _ (by omega) (by omega),zk rfl];rfl
    simp (disch:=first|omega|simp only[zD]<;>omega|assumption) only[↓zR,↓zRM,zR,zRM,reduceAdd,reduceMul,reduceToNat,↓f169_J12,↓f169_J15,↓f169_J14,↓f169_L13,↓f169_J11,↓f169_J10,↓f169_J6,lc,eq_true cj,hld,cb];refine zcy (lat2.un RPC.staysU (BX1.trans f2).un) f3 hx rfl (λts t3=>?_);refine ih f3 f4 (by omega) (G2'.hid lb (by omega) dl) f7 (lat.un DfC.staysU G2'.un) t3 (fw x (List.mem_of_getElem? hx)) (by omega) (by omega) (hmk y (List.mem_of_getElem? hy)).1 (by have:=(hmk y (List.mem_of_getElem? hy)).2;omega) _ _ ?_;intro u5 h5 ⟨g5,a1,a2,a3,a4,a5,a6,a7⟩;subst a7;have hmle:=zg2 p N d l' y x;rw[zdc] at f9;cases hmi:(metN p N d l' y x).is with
    | false=>
     rw[hmi,if_neg (by decide)] at f9;simp (disch:=first|omega|simp only[zD]<;>omega|assumption) only[↓zR,↓zRM,zR,zRM,reduceAdd,reduceMul,reduceToNat,↓f169_J12,↓f169_J15,↓f169_J14,↓f169_L13,↓f169_J11,↓f169_J10,↓f169_J6,hmi];rw[f9] at hk;refine hk _ _ ⟨g5,G2'.trans a1,a2,a3,by omega,λi hi hne=>by rw[a5 i (by omega) hne];exact back' i hi hne,a6,rfl⟩
    | true=>
     rw[hmi,if_pos rfl] at f9;have hcz:=zd7 _ _ _ _ _ _ hmi;rw[hcz] at a6;simp (disch:=first|omega|simp only[zD]<;>omega|assumption) only[↓zR,↓zRM,zR,zRM,reduceAdd,reduceMul,reduceToNat,↓f169_J12,↓f169_J15,↓f169_J14,↓f169_L13,↓f169_J11,↓f169_J10,↓f169_J6,hmi];refine ihl i (by omega) _ _ _ _ _ _ _ _ _ _ _ _ _ _ _ _ _ _ ⟨rfl,rfl,rfl,j+1,(metN p N d l' y x).left,g5,zaB j,by omega,f2.trans a1,a2,a3,by omega,λi hi hne=>by rw[a5 i (by omega) hne];exact f6 i hi hne,a6,by omega,f9⟩
variable {β:Type}
theorem GR10.w142(TS:GR10 t)(TR:GR9 t)(TC:GC t)(T:GA t)(n:Nat){h:H}{pv:AV}{p:List Df}(hp:LAt 2 DfC h pv p)(hl:p.length<=9223372036854775807)(hl2:∀d ∈ p,d.body.length<=9223372036854775807){f pa:Int}{av:AV}{res:List UInt8}(hrl:res.length<=9223372036854775807){args:List (List UInt8)}(ha:SlAt h av (strs args))(hal:∀x ∈ args,x.length<=9223372036854775807)(hn:args.length+4300<=n)(fuel:Int) :
  Sp (β:=β) (zc t stdI n (.fn 142 []) [.agg [pv],.agg [.int .i64 f,.int .i64 pa,av,.str res],.int .i64 fuel] h) λu h'=>Ext h h'/\u = .tup [.bool (zcB p f args res fuel).1,.int .i64 (zcB p f args res fuel).2]:=by
 intro k R hk;obtain⟨m,rfl⟩:∃m,n=m+1:=⟨n-1,by omega⟩
 have hbx:∀(hh:H) (kk:K β),qBox 0 (.agg [pv]) hh (.mk kk)=kk (.ptr hh.n 0) (hh.push (.own 0 [pv])):=λhh kk=>zm 0 _ hh kk
 have hbn:∀(hh:H) (kk:K β),qBox 0 (.agg [.int .i64 f,.int .i64 pa,av,.str res]) hh (.mk kk)=kk (.ptr hh.n 0) (hh.push (.own 0 [.int .i64 f,.int .i64 pa,av,.str res])):=λhh kk=>zm 0 _ hh kk
 obtain⟨hA,ehA⟩:∃hA,hA=(h.push (.own 0 [pv])).push (.own 0 [.int .i64 f,.int .i64 pa,av,.str res]):=⟨_,rfl⟩
 have tA:(h.push (.own 0 [pv])).push (.own 0 [.int .i64 f,.int .i64 pa,av,.str res])=hA:=ehA.symm;have nA:hA.n=h.n+2:=by rw[ehA];simp only[H.n_push]
 have eA:Ext h hA:=by rw[ehA];exact ((Ext.refl h).push _).push _
 have cA:(hA.get h.n).cells=some [pv]:=by rw[ehA,zb (by rw[H.n_push];omega),zd rfl];rfl
 have xA:(hA.get (h.n+1)).cells=some [.int .i64 f,.int .i64 pa,av,.str res]:=by rw[ehA,zd (by rw[H.n_push])];rfl
 have cell0:∀{h'},Ext hA h'->(h'.get h.n).cells=some [pv]:=λe=>by rw[e.get _ (by omega)];exact cA
 have cell1:∀{h'},Ext hA h'->(h'.get (h.n+1)).cells=some [.int .i64 f,.int .i64 pa,av,.str res]:=λe=>by rw[e.get _ (by omega)];exact xA
 have W:=TR.w168 (β:=β) TC T m (h:=hA) (hp.ext DfC.stays eA) hl hl2 (ha.ext eA) hal (by omega) f fuel;have WM:=λhh=>T.w18 (β:=β) m (by omega) res hrl hh
 by_cases hm:zat p f args fuel
 case neg=>
  have hN:zcB p f args res fuel=(false,1000):=by unfold zcB;rw[if_neg (λhh=>hm hh.1)]
  rw[hN] at hk;rw[TS.c142];unfold f142;simp (disch:=first|omega|simp only[zD]<;>omega|assumption) only[↓zR,↓zRM,zR,zRM,reduceAdd,reduceMul,reduceToNat,↓hbx,↓hbn,tA,cA,xA];refine W _ _ ?_;intro u h1 ⟨e1,eu⟩;subst eu;simp (disch:=first|omega|simp only[zD]<;>omega|assumption) only[↓zR,↓zRM,zR,zRM,reduceAdd,reduceMul,reduceToNat,eq_false hm];exact hk _ _ ⟨eA.trans e1,rfl⟩
 cases hres:mayP res with
 | false=>
  have hN:zcB p f args res fuel=(false,1000):=by unfold zcB;rw[if_neg (λhh=>by rw[hh.2] at hres;cases hres)]
  rw[hN] at hk;rw[TS.c142];unfold f142;simp (disch:=first|omega|simp only[zD]<;>omega|assumption) only[↓zR,↓zRM,zR,zRM,reduceAdd,reduceMul,reduceToNat,↓hbx,↓hbn,tA,cA,xA];refine W _ _ ?_;intro u h1 ⟨e1,eu⟩;subst eu;have c1:=cell1 e1;simp (disch:=first|omega|simp only[zD]<;>omega|assumption) only[↓zR,↓zRM,zR,zRM,reduceAdd,reduceMul,reduceToNat,eq_true hm,c1];refine WM h1 _ _ ?_;intro u h2 ⟨e2,eu⟩;rw[zd8] at eu;subst eu;simp (disch:=first|omega|simp only[zD]<;>omega|assumption) only[↓zR,↓zRM,zR,zRM,reduceAdd,reduceMul,reduceToNat,hres];exact hk _ _ ⟨(eA.trans e1).trans e2,rfl⟩
 | true=>
 have hN:zcB p f args res fuel=((metN p (fuel.toNat+1) (res.length+1) fuel.toNat res (zcD p f.toNat args)).is,(metN p (fuel.toNat+1) (res.length+1) fuel.toNat res (zcD p f.toNat args)).code):=by unfold zcB;rw[if_pos ⟨hm,hres⟩]
 rw[hN] at hk;obtain⟨df,hd,hb,hb1,hb24,ha8,wf,_⟩:=zdo hm;obtain⟨hpm,hf0,hf1,_,hall,hfu0,hfu1⟩:=id hm;have hnum:f=((f.toNat:Nat):Int):=by omega
 have hfu:fuel=((fuel.toNat:Nat):Int):=by omega
 have scp:=hp.sc;have hlres:res.length<=1024:=by obtain⟨u,hu⟩:=(zdd res).1 hres;exact (zdl hu).1
 have MO:MtOk5 t p (fuel.toNat+1) (res.length+1) m:=TS.meets TR T hpm (res.length+1) m (by omega);have hbq:∀(hh:H) (kk:K β),qBox 0 (.agg [pv,.int .i64 fuel,.int .i64 0]) hh (.mk kk)=kk (.ptr hh.n 0) (hh.push (.own 0 [pv,.int .i64 fuel,.int .i64 0])):=λhh kk=>zm 0 _ hh kk
 have bu:∀kc:VK β,zo [.nils,.int .i64 0,.int .i64 0] [(0,1),(1,1)] [pv,.int .i64 fuel] (.mk kc)=kc (.agg [pv,.int .i64 fuel,.int .i64 0]):=λkc=>by
  rw[zU _ _ _ _ scp _ (by simp),zB _ _ _ _ _ _ (by simp),zV];rfl
 have chs:∀kc:VK β,zaH (.str res) (.str res) (.mk kc)=kc (.str res):=λkc=>by
  show cond (AV.beq _ _) (kc _) none=_;have:AV.beq (.str res) (.str res)=true:=by simp[AV.beq]
  rw[this];rfl
 have callW:∀h1,Ext h h1->Sp (β:=β) (zc t stdI m (.fn 170 []) [.agg [pv],.int .i64 f,av] (h1.push (.own 0 [pv,.int .i64 fuel,.int .i64 0]))) λu h'=>Ext (h1.push (.own 0 [pv,.int .i64 fuel,.int .i64 0])) h'/\∃w,u = .agg [.bool false,.str [],.int .i64 f,.int .i64 ((df.body.length-1:Nat):Int),w]/\zaD (h1.push (.own 0 [pv,.int .i64 fuel,.int .i64 0])) h' w (args.map zai):=by
  intro h1 e1;have ee:Ext h (h1.push (.own 0 [pv,.int .i64 fuel,.int .i64 0])):=e1.push _;have:=TR.w170 (β:=β) m (by omega) (h:=h1.push (.own 0 [pv,.int .i64 fuel,.int .i64 0])) (hp.ext DfC.stays ee) (f:=f.toNat) hd hb1 (by omega) (ha.ext ee) (by omega)
  rw[<- hnum] at this;exact this
 generalize hmm:metN p (fuel.toNat+1) (res.length+1) fuel.toNat res (zcD p f.toNat args)=mm at hk;have hcode:mm.code=0\/mm.code=1001:=by rw[<- hmm];exact zeU _ _ _ _ _ _
 have hisc:mm.code=1001->mm.is=false:=λhc=>by
  cases hi:mm.is with
  | false=>rfl
  | true=>rw[<- hmm] at hi hc;rw[zd7 _ _ _ _ _ _ hi] at hc;cases hc
 have ask:∀(h1 h3:H) (w:AV) (K1:K β),Ext h h1->Ext (h1.push (.own 0 [pv,.int .i64 fuel,.int .i64 0])) h3->zaD (h1.push (.own 0 [pv,.int .i64 fuel,.int .i64 0])) h3 w (args.map zai) ->
   (∀h4,Ext h h4->(h4.get h1.n).cells=some [pv,.int .i64 (mm.left:Int),.int .i64 (code5 mm.code)]->K1 (.bool mm.is) h4=R) ->
   qCall (zc t stdI m) (.fn 169 []) [.ptr h1.n 0,.str res,.agg [.bool false,.str [],.int .i64 f,.int .i64 ((df.body.length-1:Nat):Int),w]] h3 (.mk K1)=R:=by
  intro h1 h3 w K1 e1 e3 hn hK;have n1:=e1.n;have n3:=e3.n
  rw[H.n_push] at n3;have gn:h3.get h1.n = .own 0 [pv,.int .i64 fuel,.int .i64 0]:=by rw[e3.get _ (by rw[H.n_push];omega),zd rfl]
  have u3:Un (h3.set h1.n .dead) h3:=⟨by rw[H.n_set];exact Nat.le_refl _,λi hi hc=>by
   by_cases hi1:h1.n=i
   ·subst hi1;rw[zk rfl] at hc;exact absurd rfl hc
   ·rw[ze hi1]⟩
  have uh:Un h (h3.set h1.n .dead):=⟨by rw[H.n_set];omega,λi hi hc=>by rw[ze (by omega),e3.get i (by rw[H.n_push];omega),zb (by omega),e1.get i hi]⟩
  have rp:=RPC.of_rows (g:=h3.set h1.n .dead) (d:=f.toNat) (kid:=((df.body.length-1:Nat):Int)) (env:=args.map .term) hn (zcs _) (by rw[List.length_map,List.length_map]) (by rw[H.n_set];exact Nat.le_refl _) (λi p q=>ze (by rw[H.n_push] at p;omega)) (by omega) zdT;rw[<- hnum,Int.toNat_natCast] at rp;have hcall:zcD p f.toNat args = .part f.toNat (df.body.length-1) (args.map .term):=by unfold zcD;rw[hb]
  rw[<- hcall] at rp;refine MO u3 (by rw[H.n_set]) (by omega) (by rw[zk rfl];rfl) (by rw[<- hfu];exact gn) (hp.un DfC.staysU uh) rp wf (by omega) (by omega) hres (Nat.lt_succ_self _) _ _ ?_;intro u h4 ⟨g4,a1,a2,a3,a4,a5,a6,a7⟩;rw[hmm] at a6 a7;subst a7;refine hK h4 ⟨by omega,λi hi=>?_⟩ (by rw[a6];rfl);rw[a5 i (by omega) (by omega),e3.get i (by rw[H.n_push];omega),zb (by omega),e1.get i hi]
 rw[TS.c142];unfold f142;simp (disch:=first|omega|simp only[zD]<;>omega|assumption) only[↓zR,↓zRM,zR,zRM,reduceAdd,reduceMul,reduceToNat,↓hbx,↓hbn,tA,cA,xA];refine W _ _ ?_;intro u h1 ⟨e1,eu⟩;subst eu;have c1:=cell1 e1;simp (disch:=first|omega|simp only[zD]<;>omega|assumption) only[↓zR,↓zRM,zR,zRM,reduceAdd,reduceMul,reduceToNat,eq_true hm,c1];refine WM h1 _ _ ?_;intro u h2 ⟨e2,eu⟩;rw[zd8] at eu;subst eu;have e12:=e1.trans e2;have n12:=e12.n;have c2:=cell1 e12;have c0:=cell0 e12;simp (disch:=first|omega|simp only[zD]<;>omega|assumption) only[↓zR,↓zRM,zR,zRM,reduceAdd,reduceMul,reduceToNat,↓f142_J2,hres,c0,c2,↓bu,↓hbq,chs];refine callW h2 (eA.trans e12) _ _ ?_;intro u h3 ⟨e3,w,eu,hnr⟩;subst eu;have n3:=e3.n;rw[H.n_push] at n3;have c3:(h3.get (h.n+1)).cells=some [.int .i64 f,.int .i64 pa,av,.str res]:=by rw[e3.get _ (by rw[H.n_push];omega),zb (by omega)];exact c2
 simp (disch:=first|omega|simp only[zD]<;>omega|assumption) only[↓zR,↓zRM,zR,zRM,reduceAdd,reduceMul,reduceToNat,c3,chs];refine ask h2 h3 w _ (eA.trans e12) e3 hnr ?_;intro h4 e4 cl;rcases hcode with hc|hc
 ·rw[hc] at cl hk;have cl:(h4.get h2.n).cells=some [pv,.int .i64 (mm.left:Int),.int .i64 0]:=cl;simp (disch:=first|omega|simp only[zD]<;>omega|assumption) only[↓zR,↓zRM,zR,zRM,reduceAdd,reduceMul,reduceToNat,zaa,cl];exact hk _ _ ⟨e4,rfl⟩
 ·have hi:=hisc hc;rw[hc] at cl hk;rw[hi] at hk;have cl:(h4.get h2.n).cells=some [pv,.int .i64 (mm.left:Int),.int .i64 901]:=cl;simp (disch:=first|omega|simp only[zD]<;>omega|assumption) only[↓zR,↓zRM,zR,zRM,reduceAdd,reduceMul,reduceToNat,zaa,cl];exact hk _ _ ⟨e4,rfl⟩
end
end Am.F
