/- Walks: HoldBelow. -/
import Derived.Test.YtkbjmlcdmbajcaaDoorAmHoM
import Derived.Test.YtkbjmlcdmbajcaaDoorAmFu
import Derived.Test.YtkbjmlcdmbajcaaDoorAmGB10W
set_option linter.unusedSimpArgs false
set_option linter.unusedVariables false
namespace Am.F
open Go Am
theorem zO.put1{β:Type}{h:H}{lo hi:Nat}{c:AV}{xs:List (List UInt8)}(ho:zO h lo hi 1 c (strs xs)){j:Nat}(hj:j<xs.length)(s:List UInt8):∃h',(∀K:H→Option β,(zB 1 c (.int .i64 (j:Int))<|.mk fun v=>zo 1 v (.str s) h<|.mk K)=K h')∧zO h' lo hi 1 c (strs (xs.set j s))∧h'.n=h.n∧∀i,(i<lo∨hi≤i)→h'.get i=h.get i:=by
 rcases ho with⟨_,h2⟩|⟨b,l,rfl,h4,h5,h6,h7,h8⟩
 ·have:=congrArg List.length h2
  rw[zaf] at this
  have h0:xs.length=0:=this
  omega
 ·rw[zaf,Nat.mul_one] at h7
  have hset:(strs xs).set j (.str s)=strs (xs.set j s):=by simp[strs,List.map_set]
  refine⟨h.set b (.own 0 (strs (xs.set j s))),fun K=>?_,.inr ⟨b,l,rfl,h4,h5,zm rfl,by rw[zaf,List.length_set,Nat.mul_one];exact h7,h8⟩,by rw[H.n_set],fun i hi=>zh (by omega)⟩
  have hjl:(j:Int)<(l:Int):=by rw[← h7];omega
  rw[zcQ (by omega) hjl,Int.toNat_natCast,Nat.mul_one,Nat.zero_add,zhC rfl,h6,zch,zjo,zfR (by show j<(strs xs).length;rw[zaf];exact hj)]
  simp only
  rw[hset]
section
variable {β:Type} {t:ETree}
set_option maxHeartbeats 2000000 in
theorem GB10.w131(TL:GB10 t)(TS:GS10 t)(TN:GNM t)(TC:GC t)(T:GA t)(L:GI t)(hA:t.get 150=some (eAw 150))(n:Nat){h:H}{pv:AV}{p:List Df}(hp:LAt 2 DfC h pv p)(hl:p.length≤9223372036854775807)(hl2:∀d ∈ p,d.body.length≤9223372036854775807){f pa:Int}{av:AV}{res:List UInt8}{args:List (List UInt8)}(ha:SlAt h av (strs args))(hn:args.length+4400≤n)(fuel at':Int) :
  Sp (β:=β) (zb t stdI n (.fn 131 []) [.agg [pv],.agg [.int .i64 f,.int .i64 pa,av,.str res],.int .i64 fuel,.int .i64 at'] h) fun u h'=>u = .bool true:=by
 intro k R hk
 obtain⟨m,rfl⟩:∃m,n=m+2:=⟨n-2,by omega⟩
 have haw:=fun (hh:H) (kk:K β)=>awk_q (β:=β) (k:=150) rfl hA m hh kk
 have hbx:∀(hh:H) (kk:K β),qBox 0 (.agg [pv]) hh (.mk kk)=kk (.ptr hh.n 0) (hh.push (.own 0 [pv])):=fun hh kk=>zH 0 _ hh kk
 have hbn:∀(hh:H) (kk:K β),qBox 0 (.agg [.int .i64 f,.int .i64 pa,av,.str res]) hh (.mk kk)=kk (.ptr hh.n 0) (hh.push (.own 0 [.int .i64 f,.int .i64 pa,av,.str res])):=fun hh kk=>zH 0 _ hh kk
 have asc:=ha.sc
 obtain⟨hA0,ehA⟩:∃hA0,hA0=(h.push (.own 0 [pv])).push (.own 0 [.int .i64 f,.int .i64 pa,av,.str res]):=⟨_,rfl⟩
 have tA:(h.push (.own 0 [pv])).push (.own 0 [.int .i64 f,.int .i64 pa,av,.str res])=hA0:=ehA.symm
 have nA:hA0.n=h.n+2:=by rw[ehA];simp only[H.n_push]
 have eA:Ext h hA0:=by rw[ehA];exact ((Ext.refl h).push _).push _
 have g0:(hA0.get h.n).cells=some [pv]:=by rw[ehA,zd (by rw[H.n_push];omega),zf rfl];rfl
 have g1:(hA0.get (h.n+1)).cells=some [.int .i64 f,.int .i64 pa,av,.str res]:=by rw[ehA,zf (by rw[H.n_push])];rfl
 have cell0:∀{h'},Ext hA0 h'→(h'.get h.n).cells=some [pv]:=fun e=>by rw[e.get _ (by omega)];exact g0
 have cell1:∀{h'},Ext hA0 h'→(h'.get (h.n+1)).cells=some [.int .i64 f,.int .i64 pa,av,.str res]:=fun e=>by rw[e.get _ (by omega)];exact g1
 have fa:=zj7 fuel
 have cfa:∀kk:VK β,zav .i64 (.int .u64 ((IntKind.u64.wrap fuel).tmod 401)) (.mk kk)=kk (.int .i64 (zd8 fuel)):=fun kk=>zdX (by show _≤zd8 fuel;omega) (by show zd8 fuel<_;omega) kk
 generalize hx:zd8 fuel=x at fa cfa
 have W:=fun (hh:H) (e:Ext h hh) (y:Int) (s:List UInt8)=>TS.w152 (β:=β) TN TC T L (m+1) (hp.ext DfC.stays e) hl hl2 (f:=f) (pa:=y) (res:=s) (ha.ext e) (by omega) x
 have pz:∀a b c d:AV,zZ [.int .i64 0,.int .i64 0,.nils,.str []] 0 [a,b,c,d]=[a,b,c,d]:=fun a b c d=>rfl
 have W1:=W hA0 eA pa res
 have hcode:(zbb p f args res x).1=true→(zbb p f args res x).2=0:=ziJ
 cases hi:(zbb p f args res x).1 with
 | false=>
  generalize (zbb p f args res x).2=e2 at W1
  rw[hi] at W1
  rw[TL.c131];unfold f131
  simp (disch:=first|omega|simp only[disM]<;>omega|assumption) only[↓run,↓runM,run,runM,Nat.reduceAdd,Nat.reduceMul,Int.reduceToNat,↓f131_J2,↓hbx,↓hbn,tA,haw,u64c,rem401,cfa,g0,g1]
  refine W1 _ _ ?_
  intro u h1 ⟨e1,eu⟩
  subst eu
  by_cases hz:e2=0
  ·simp (disch:=first|omega|simp only[disM]<;>omega|assumption) only[↓run,↓runM,run,runM,Nat.reduceAdd,Nat.reduceMul,Int.reduceToNat,T.w16,eq_true hz]
   exact hk _ _ rfl
  ·simp (disch:=first|omega|simp only[disM]<;>omega|assumption) only[↓run,↓runM,run,runM,Nat.reduceAdd,Nat.reduceMul,Int.reduceToNat,T.w16,eq_false hz]
   exact hk _ _ rfl
 | true=>
  have hz:=hcode hi
  have h1eq:zbb p f args res x=(true,0):=Prod.ext hi hz
  have hole:=ziI h1eq
  obtain⟨hnm,hmr⟩:=zj5 hi
  obtain⟨uu,hu⟩:=(za8 res).1 hmr
  have hrf:refP res=some (toC res uu):=by rw[ze8,hu];rfl
  have hlen:=(zbX hu).1
  have hkr:=zdz hu
  have hbelow:=fun (j:Nat) (hj:j<uu.kids.length)=>zj4 hu hj
  have hb2:=fun (j:Nat) (hj:j<uu.kids.length) (s':List UInt8) (hs:tP s'=some ⟨uu.kind,uu.num,uu.kids.set j [95],[]⟩)=>zg9 h1eq hu hj hs
  have bu:∀(s:List UInt8) (kc:VK β),zr [.int .i64 0,.int .i64 0,.nils,.str []] [(0,1),(2,1),(3,1)] [.int .i64 f,av,.str s] (.mk kc)=kc (.agg [.int .i64 f,.int .i64 0,av,.str s]):=fun s kc=>by
   rw[zai _ _ _ _ _ _ (by simp),zah _ _ _ _ asc _ (by simp),zdm _ _ _ _ _ (by simp),zay];rfl
  rw[h1eq] at W1
  rw[TL.c131];unfold f131
  simp (disch:=first|omega|simp only[disM]<;>omega|assumption) only[↓run,↓runM,run,runM,Nat.reduceAdd,Nat.reduceMul,Int.reduceToNat,↓f131_J2,↓hbx,↓hbn,tA,haw,u64c,rem401,cfa,g0,g1]
  refine W1 _ _ ?_
  intro u h1 ⟨e1,eu⟩
  subst eu
  have c0:=cell0 e1
  have c1:=cell1 e1
  have n1:=e1.n
  have e2:Ext h1 ((h1.push (.own 0 [.int .i64 0,.int .i64 0,.nils,.str []])).set h1.n (.own 0 [.int .i64 f,.int .i64 0,av,.str [95]])):=((Ext.refl h1).push _).set (Nat.le_refl _) _
  have W2:=W _ ((eA.trans e1).trans e2) 0 [95]
  rw[hole] at W2
  simp (disch:=first|omega|simp only[disM]<;>omega|assumption) only[↓run,↓runM,run,runM,Nat.reduceAdd,Nat.reduceMul,Int.reduceToNat,↓f131_J11,T.w16,c0,c1,↓bu,pz]
  refine W2 _ _ ?_
  intro u h3 ⟨e3,eu⟩
  subst eu
  have e13:=e1.trans (e2.trans e3)
  have c1:=cell1 e13
  have W3:=T.w12 (β:=β) (m+1) (by omega) res (by omega) h3
  rw[hrf] at W3
  simp (disch:=first|omega|simp only[disM]<;>omega|assumption) only[↓run,↓runM,run,runM,Nat.reduceAdd,Nat.reduceMul,Int.reduceToNat,c1]
  refine W3 _ _ ?_
  intro v h4 ⟨e4,eu⟩
  obtain⟨c,eu,hc⟩:∃c,v = .tup [.int .i64 uu.kind,.int .i64 uu.num,c,.int .i64 0]∧zO h4 h3.n h4.n 1 c (strs uu.kids):=eu
  subst eu
  have lc:∀kc:VK β,qLenL c (.mk kc)=kc (.int .i64 (uu.kids.length:Int)):=fun kc=>by rw[(hc.sl (Nat.le_refl _)).len,zaf]
  by_cases hk0:uu.kids.length=0
  ·have hk0':(uu.kids.length:Int)=0:=by omega
   simp (disch:=first|omega|simp only[disM]<;>omega|assumption) only[↓run,↓runM,run,runM,Nat.reduceAdd,Nat.reduceMul,Int.reduceToNat,T.w16,lc,eq_true hk0']
   exact hk _ _ rfl
  ·have hk0':¬ (uu.kids.length:Int)=0:=by omega
   have hl3:=hkr.2.1
   have e14:=e13.trans e4
   have hr0:0≤(IntKind.u64.wrap at').tmod (uu.kids.length:Int)∧(IntKind.u64.wrap at').tmod (uu.kids.length:Int)<(uu.kids.length:Int):=ziY _ (by omega) at'
   obtain⟨j,hj⟩:∃j:Nat,(IntKind.u64.wrap at').tmod (uu.kids.length:Int)=(j:Int):=⟨((IntKind.u64.wrap at').tmod (uu.kids.length:Int)).toNat,by omega⟩
   rw[hj] at hr0
   have cul:∀kk:VK β,zav .u64 (.int .i64 (uu.kids.length:Int)) (.mk kk)=kk (.int .u64 (uu.kids.length:Int)):=fun kk=>(u64c _ _).trans (by
    have:IntKind.u64.wrap (uu.kids.length:Int)=(uu.kids.length:Int):=by
     have:uu.kids.length=1∨uu.kids.length=2∨uu.kids.length=3:=by omega
     rcases this with q|q|q<;>rw[q]<;>decide
    rw[this])
   have crem:∀kk:VK β,qBin .rem (.int .u64 (IntKind.u64.wrap at')) (.int .u64 (uu.kids.length:Int)) (.mk kk)=kk (.int .u64 (j:Int)):=fun kk=>by
    have:=zhH (β:=β) .u64 (IntKind.u64.wrap at') (uu.kids.length:Int) (by omega) kk
    rw[hj] at this;exact this
   have cci:∀kk:VK β,zav .i64 (.int .u64 (j:Int)) (.mk kk)=kk (.int .i64 (j:Int)):=fun kk=>zdX (by omega) (by omega) kk
   have hjl:j<uu.kids.length:=by omega
   obtain⟨s',hmk,hts⟩:=hbelow j hjl
   have hfin:=hb2 j hjl s' hts
   obtain⟨h5,q1,q2,q3,q4⟩:=hc.put1 (β:=β) hjl [95]
   have hml:∀y ∈ uu.kids.set j [95],y.length≤281474976710656:=fun y hy=>by
    rcases List.mem_or_eq_of_mem_set hy with hh|hh
    ·have:=(zdO hu y hh).2;omega
    ·rw[hh];simp
   have W4:=T.w14 (β:=β) (m+1) (by omega) uu.kind uu.num (by have:=hkr.2.2.1;omega) (by have:=hkr.2.2.1;omega) (uu.kids.set j [95]) hml (by rw[List.length_set];omega) c h5 (q2.sl (by rw[q3];exact Nat.le_refl _))
   rw[hmk] at W4
   have e5:Ext hA0 h5:=⟨by rw[q3];exact e14.n,fun i hi=>by rw[q4 i (.inl (by have:=e13.n;omega))];exact e14.get i hi⟩
   simp (disch:=first|omega|simp only[disM]<;>omega|assumption) only[↓run,↓runM,run,runM,Nat.reduceAdd,Nat.reduceMul,Int.reduceToNat,↓f131_J30,T.w16,lc,eq_false hk0',u64c,cul,crem,cci]
   rw[q1]
   refine W4 _ _ ?_
   intro v h6 ⟨e6,eu⟩
   have eu:v = .tup [.str s',.int .i64 0]:=eu
   subst eu
   have c0:=cell0 (e5.trans e6)
   have c1:=cell1 (e5.trans e6)
   have W5:=W h6 ((eA.trans e5).trans e6) 0 s'
   rw[hfin] at W5
   simp (disch:=first|omega|simp only[disM]<;>omega|assumption) only[↓run,↓runM,run,runM,Nat.reduceAdd,Nat.reduceMul,Int.reduceToNat,c0,c1,↓bu]
   refine W5 _ _ ?_
   intro u h7 ⟨e7,eu⟩
   subst eu
   simp (disch:=first|omega|simp only[disM]<;>omega|assumption) only[↓run,↓runM,run,runM,Nat.reduceAdd,Nat.reduceMul,Int.reduceToNat,T.w16,eq_self]
   exact hk _ _ (by simp)
end
end Am.F
