/- Walks: Observes,ObserveAll. -/
import Derived.Test.YtginckfdokjjpaaDoorAmOb
import Derived.Test.YtginckfdokjjpaaDoorAmGL23W
import Derived.Test.YtginckfdokjjpaaDoorAmAwk
import Derived.Test.YtginckfdokjjpaaDoorAmSm
import Derived.Test.YtginckfdokjjpaaDoorAmJd
import Derived.Test.YtginckfdokjjpaaDoorAmJg
open Nat (reduceAdd reduceMul)
open Int (reduceToNat)
set_option linter.unusedSimpArgs false
set_option linter.unusedVariables false
namespace Am.F
open Go Am
theorem zb4(f:Int):∀(ns:List Nd) (j d:Nat),j+d=ns.length->obsO f (ns.take j) <+: obsO f ns
 | ns,j,0,h=>by rw[List.take_of_length_le (by omega)];exact List.prefix_refl _
 | ns,j,d+1,h=>by
  have ih:=zb4 f ns (j+1) d (by omega);rw[zbb f (List.getElem?_eq_getElem (show j<ns.length by omega))] at ih;refine List.IsPrefix.trans ?_ ih;unfold zb0 ins;split
  ·split
   ·exact List.prefix_refl _
   ·exact List.prefix_append _ _
  ·exact List.prefix_refl _
theorem zje{acc:List (List UInt8)}(h:acc.Nodup)(s:List UInt8):(ins acc s).Nodup:=by
 unfold ins;split
 ·exact h
 ·rename_i hs;refine List.nodup_append.2 ⟨h,by simp,λa ha b hb=>?_⟩;rw[List.mem_singleton.1 hb];exact λe=>hs (e ▸ ha)
theorem zd0(f:Int):∀(ns:List Nd) (j:Nat),j<=ns.length->(obsO f (ns.take j)).Nodup
 | ns,0,_=>by simp[obsO]
 | ns,j+1,h=>by
  rw[zbb f (List.getElem?_eq_getElem (show j<ns.length by omega))];have ih:=zd0 f ns j (by omega);unfold zb0;split
  ·exact zje ih _
  ·exact ih
theorem obs_big{ns:List Nd}(hT:zcx ns){f:Int}:ns.length<=512/\(obsO f ns).length<=512/\∀y ∈ obsO f ns,y.length<9223372036854775800:=by
 have l512:ns.length<=512:=by
  refine Nat.le_of_not_lt λhlt=>?_
  have:=(hT.2 512 _ (List.getElem?_eq_getElem (by omega))).1
  omega
 have hl:=zew f ns ns.length (Nat.le_refl _);rw[List.take_length] at hl;refine⟨l512,by omega,λy hy=>?_⟩;have hy':y ∈ obsO f (ns.take ns.length):=by rw[List.take_length];exact hy
 obtain⟨x,hx,rfl⟩:=zev f ns ns.length (Nat.le_refl _) hy';obtain⟨q,hq⟩:=List.mem_iff_getElem?.1 hx;obtain⟨h1,h2,h3,h4,h5⟩:=zbT (hT.2 q x hq).2.1;unfold zT;have bound:∀(ws:List (List UInt8)) (M:Nat),(∀w ∈ ws,w.length<=M)->(Lib.join ws [32]).length<=ws.length*(M+1):=by
  intro ws M
  induction ws with
  | nil=>intro _;simp[Lib.join]
  | cons w ws ih=>
   intro hw;have h1:=hw w List.mem_cons_self;have ih:=ih λx hx=>hw x (List.mem_cons_of_mem _ hx)
   cases ws with
   | nil=>simp[Lib.join];omega
   | cons v vs=>
    have e:Lib.join (w::v::vs) [32]=w++[32]++Lib.join (v::vs) [32]:=by simp[Lib.join]
    rw[e,List.length_append,List.length_append,List.length_cons (a:=w)];simp only[List.length_cons,List.length_nil] at ih ⊢;have e1:(vs.length+1+1)*(M+1)=(vs.length+1)*(M+1)+(M+1):=Nat.succ_mul _ _;omega
 have hit:(102::Lib.itoa x.fn).length<=1024:=by
  have:=zeA (x:=x.fn) (by omega) (by omega)
  simp only[List.length_cons];omega
 have:=bound ((102::Lib.itoa x.fn)::(x.args++[[61],x.res])) 1024 λw hw=>by
  rcases List.mem_cons.1 hw with rfl|hw
  ·exact hit
  ·rcases List.mem_append.1 hw with hw|hw
   ·exact (h3 w hw).2
   ·rcases List.mem_cons.1 hw with rfl|hw
    ·simp
    ·rw[List.mem_singleton.1 hw];exact h5
 simp only[List.length_cons,List.length_append,List.length_nil] at this;have h6:(x.args.length+(0+1+1)+1)*(1024+1)<=6*1025:=Nat.mul_le_mul (by omega) (by omega);omega
theorem zeX.sl{h h':H}{v:AV}{xs:List (List UInt8)}(s:zeX h h' v xs):SlAt h' v (strs xs):=by
 obtain⟨lo,hi,_,h2,h3⟩:=s;exact h3.sl h2
section
variable {β:Type} {t:ETree}
theorem GB.w295m(TB:GB t)(T:GA t)(n:Nat){h:H}{a:AV}{x:Nd}(hx:NdAt h a x)(hm:zah x=true)(hn:2300<=n) :
  Sp (β:=β) (za t stdI n (.fn 295 []) [a] h) λu h'=>Ext h h'/\u = .tup [.str (zT x),.int .i64 0]:=by
 obtain⟨h1,h2,h3,h4,h5⟩:=zbT hm;have:=TB.w295 (β:=β) T n hx (λy hy=>by have:=(h3 y hy).2;omega) (by omega) (by omega) (by omega)
 rw[if_pos hm] at this;exact this
set_option maxHeartbeats 2000000 in
theorem GL23.w305(TL:GL23 t)(TO:GO23 t)(TS:GT12 t)(TC:GC t)(TB:GB t)(T:GA t)(L:GI t)(hA:t.get 264=some (eAw 264))(n M:Nat){h:H}{v:AV}{ns:List Nd}(hn:ns.length+M+4000<=n)(hv:LAt 4 NdC h v ns)(hf:∀x ∈ ns,zgP x)(hM:∀x ∈ ns,x.args.length<=M)(hM2:M<=9223372036854775807)(hl:ns.length<=9223372036854775807)(y:Int) :
  Sp (β:=β) (za t stdI n (.fn 305 []) [v,.int .i64 y] h) λu h'=>u = .bool true:=by
 intro k R hk;have hroom:room=68719476736:=rfl;obtain⟨m,rfl⟩:∃m,n=m+2:=⟨n-2,by omega⟩
 have haw:=λ(hh:H) (kk:K β)=>awk_q (β:=β) (k:=264) rfl hA m hh kk
 have hand:∀kk:VK β,qBin .and (.int .i64 y) (.int .i64 7) (.mk kk)=kk (.int .i64 (y%8)):=λkk=>pBin_and 7 3 rfl (by decide) y kk
 have W:=TS.w299 (β:=β) TB T (m+1) M (by omega) hv hf hM hM2 hl;have lv:=hv.len (β:=β);rw[TL.c305];unfold f305;simp (disch:=first|omega|simp only[zD]<;>omega|assumption) only[↓zR,↓zRM,zR,zRM,reduceAdd,reduceMul,reduceToNat,haw,↓f305_J0];refine W _ _ ?_;intro u1 h1 ⟨e1,eu1⟩;subst eu1
 by_cases hT:zcx ns
 case neg=>
  rw[zcB hT];simp (disch:=first|omega|simp only[zD]<;>omega|assumption) only[↓zR,↓zRM,zR,zRM,reduceAdd,reduceMul,reduceToNat];exact hk _ _ rfl
 rw[zgv hT];generalize hfe:y%8=f at hand;have hf8:0<=f/\f<8:=by omega
 have may:zi0 ns f:=⟨hT,hf8.1,hf8.2⟩
 have big:=obs_big hT (f:=f);have W2:=TO.w266 (β:=β) TC TB T L (m+1) (by omega) (hv.ext NdC.stays e1) hf hl f;simp (disch:=first|omega|simp only[zD]<;>omega|assumption) only[↓zR,↓zRM,zR,zRM,reduceAdd,reduceMul,reduceToNat,↓f305_J1,↓hand];refine W2 _ _ ?_;intro u2 h2 ⟨e2,p1,_⟩;refine Exists.elim (p1 may) λw hw=>?_
 have eu2:=hw.1;subst eu2;have sl:=hw.2.sl;have lw:∀(h':H),Ext h2 h'->∀kc:VK β,qLenL w (.mk kc)=kc (.int .i64 ((obsO f ns).length:Int)):=λh' e kc=>by rw[sl.len,zZ]
 have lw':=lw h2 (Ext.refl h2);simp (disch:=first|omega|simp only[zD]<;>omega|assumption) only[↓zR,↓zRM,zR,zRM,reduceAdd,reduceMul,reduceToNat];refine zae 18 (m+1) _ _ (λi x0 x1 x2 x3 x4 x5 x6 x7 x8 x9 x10 x11 x12 x13 x14 x15 x16 x17 h'=>x0=v/\x3 = .int .i64 f/\x4=w/\x5 = .int .i64 0/\Ext h2 h'/\∃q:Nat,x6 = .int .i64 ((obsO f (ns.take q)).length:Int)/\x7 = .int .i64 (q:Int)/\q+i=ns.length) ns.length (by omega) ?_ _ _ _ _ _ _ _ _ _ _ _ _ _ _ _ _ _ _ _
  ⟨rfl,rfl,rfl,rfl,Ext.refl h2,0,rfl,rfl,by omega⟩
 intro l i ih x0 x1 x2 x3 x4 x5 x6 x7 x8 x9 x10 x11 x12 x13 x14 x15 x16 x17 h' ⟨p0,p3,p4,p5,e3,q,p6,p7,hq⟩;rw[p0,p3,p4,p5,p6,p7];clear p0 p3 p4 p5 p6 p7;cases i with
 | zero=>
  have hqe:q=ns.length:=by omega
  subst hqe;rw[List.take_length];simp (disch:=first|omega|simp only[zD]<;>omega|assumption) only[↓zR,↓zRM,zR,zRM,reduceAdd,reduceMul,reduceToNat,↓f305_L12,↓f305_J6,lv,lw',T.w16,eq_false (show ¬ ((ns.length:Nat):Int)<(ns.length:Int) by omega)];exact hk _ _ (by simp)
 | succ i=>
  have hql:q<ns.length:=by omega
  refine Exists.elim ⟨ns[q],List.getElem?_eq_getElem hql⟩ λ(x:Nd) (hx:ns[q]?=some x)=>?_
  have hmay:=(hT.2 q x hx).2.1;have e23:=e1.trans (e2.trans e3);refine Exists.elim ((hv.ext NdC.stays e23).at (β:=β) hx) λb hat=>Exists.elim hat λo hat=>Exists.elim hat λcs hat=>?_
  refine Exists.elim hat.2.2 λw1 hw1=>?_
  have a1:=hat.1;refine Exists.elim hat.2.1.get λus hg=>?_
  have hbn:=hat.2.1.1;have hld:∀kk:VK β,zM 4 (.ptr b o) h' (.mk kk)=kk (.agg (zu x w1)):=λkk=>by
   rw[zeq,hg.1];show (cond (decide (o+4<=us.length)) (kk (.agg ((us.drop o).take 4))) none)=_;rw[decide_eq_true hg.2.1,hg.2.2.1,hw1.1];rfl
  have g0:=hg.2.2.2 0 (.int .i64 x.fn) (by rw[hw1.1];rfl);rw[Nat.add_zero] at g0;have W3:=TB.w295m (β:=β) T (m+1) (h:=h') (a:=.agg (zu x w1)) ⟨w1,rfl,hw1.2⟩ hmay (by omega);have succ:=zbb f hx;have pre:=zb4 f ns (q+1) (ns.length-(q+1)) (by omega);have pre0:=zb4 f ns q (ns.length-q) (by omega);have nod:=zd0 f ns ns.length (Nat.le_refl _);rw[List.take_length] at nod;have next:=λ(h4:H) (e4:Ext h2 h4) (a4:Int) (ha4:a4=((zb0 f (obsO f (ns.take q)) x).length:Int)) (y1 y2 y8 y9 y10 y11 y12 y13 y14 y15 y16 y17:AV)=>ih i (by omega) v y1 y2 (.int .i64 f) w (.int .i64 0) (.int .i64 a4) (.int .i64 ((q:Int)+1)) y8 y9 y10 y11 y12 y13 y14 y15 y16 y17 h4 ⟨rfl,rfl,rfl,rfl,e4,q+1,by rw[succ,ha4],by rw[Int.natCast_add];rfl,by omega⟩
  have alen:(obsO f (ns.take q)).length<=(obsO f ns).length:=pre0.length_le;simp (disch:=first|omega|simp only[zD]<;>omega|assumption) only[↓zR,↓zRM,zR,zRM,reduceAdd,reduceMul,reduceToNat,↓f305_L12,↓f305_J13,lv,eq_true (show (q:Int)<(ns.length:Int) by omega),↓a1,↓hld];refine W3 _ _ ?_;intro u4 h4 ⟨e4,eu4⟩;subst eu4;have c4:(h4.get b).cells=some us:=by rw[e4.get _ hbn];exact hg.1
  have e34:=e3.trans e4
  by_cases hfn:x.fn=f
  case neg=>
   simp (disch:=first|omega|simp only[zD]<;>omega|assumption) only[↓zR,↓zRM,zR,zRM,reduceAdd,reduceMul,reduceToNat,↓f305_J21,↓a1,c4,g0,eq_false hfn,↓f305_J14];exact next h4 e34 _ (by unfold zb0;rw[if_neg hfn]) _ _ _ _ _ _ _ _ _ _ _ _
  have sl4:=sl.ext e34;have sstep:zb0 f (obsO f (ns.take q)) x=ins (obsO f (ns.take q)) (zT x):=by unfold zb0;rw[if_pos hfn]
  generalize hacc:obsO f (ns.take q)=acc at sstep pre0 alen next succ;generalize hxs:obsO f ns=xs at *
  by_cases hs:zT x ∈ acc
  ·-- it came already
   have hne:∀(hat:acc.length<xs.length),xs[acc.length]≠zT x:=λhat hc=>by
    obtain⟨r,hr⟩:=pre0;obtain⟨j,hj,hje⟩:=List.getElem_of_mem hs;have h1:xs[j]'(by omega)=zT x:=by
     rw[<- hje];subst hr;rw[List.getElem_append_left hj]
    have:=(List.nodup_iff_pairwise_ne.1 nod)
    have hp:=List.pairwise_iff_getElem.1 this j acc.length (by omega) hat hj;exact hp (h1.trans hc.symm)
   have loop:∀(y1 y2 y9 y12 y13 y14 y15 y16 y17 y10 y11:AV),f305_J23 (m+1) k (f305_J14 l) v y1 y2 (.int .i64 f) w (.int .i64 0) (.int .i64 (acc.length:Int)) (.int .i64 (q:Int)) (.str (zT x)) y9 y10 y11 y12 y13 y14 y15 y16 y17 h4=R:=by
    intro y1 y2 y9 y12 y13 y14 y15 y16 y17 y10 y11;unfold f305_J23;simp (disch:=first|omega|simp only[zD]<;>omega|assumption) only[↓zR,↓zRM,zR,zRM,reduceAdd,reduceMul,reduceToNat];refine zae 18 (m+1) _ _ (λi x0 x1 x2 x3 x4 x5 x6 x7 x8 x9 x10 x11 x12 x13 x14 x15 x16 x17 h'=>x0=v/\x3 = .int .i64 f/\x4=w/\x5 = .int .i64 0/\x6 = .int .i64 (acc.length:Int)/\x7 = .int .i64 (q:Int)/\x8 = .str (zT x)/\h'=h4/\∃j:Nat,x10 = .bool (decide (zT x ∈ acc.take j))/\x11 = .int .i64 (j:Int)/\j+i=acc.length) acc.length (by omega) ?_ _ _ _ _ _ _ _ _ _ _ _ _ _ _ _ _ _ _ _
     ⟨rfl,rfl,rfl,rfl,rfl,rfl,rfl,rfl,0,by simp,rfl,by omega⟩
    intro l2 i2 ih2 x0 x1 x2 x3 x4 x5 x6 x7 x8 x9 x10 x11 x12 x13 x14 x15 x16 x17 h5 ⟨p0,p3,p4,p5,p6,p7,p8,p9,j,p10,p11,hj⟩;rw[p0,p3,p4,p5,p6,p7,p8,p9,p10,p11];clear p0 p3 p4 p5 p6 p7 p8 p9 p10 p11;cases i2 with
    | zero=>
     have hje:j=acc.length:=by omega
     subst hje;rw[List.take_length,decide_eq_true hs];simp (disch:=first|omega|simp only[zD]<;>omega|assumption) only[↓zR,↓zRM,zR,zRM,reduceAdd,reduceMul,reduceToNat,↓f305_L26,↓f305_J24,↓f305_J14,eq_false (show ¬ ((acc.length:Nat):Int)<(acc.length:Int) by omega)];exact next h4 e34 _ (by rw[sstep];unfold ins;rw[if_pos hs]) _ _ _ _ _ _ _ _ _ _ _ _
    | succ i2=>
     have hjl:j<acc.length:=by omega
     have hjx:j<xs.length:=by omega
     have hld:=λkc:VK β=>sl4.loadS (kd:=.i64) (i:=(j:Int)) (by omega) (by omega) kc
     have hgd:xs.getD ((j:Int)).toNat []=acc[j]:=by
      rw[Int.toNat_natCast,List.getD_eq_getElem?_getD,List.getElem?_eq_getElem hjx];obtain⟨r,hr⟩:=pre0;subst hr;show (acc++r)[j]=_;rw[List.getElem_append_left hjl]
     rw[hgd] at hld;have dec:decide (zT x ∈ acc.take (j+1))=(decide (zT x ∈ acc.take j)||decide (acc[j]=zT x)):=by
      rw[Bool.eq_iff_iff,Bool.or_eq_true,decide_eq_true_iff,decide_eq_true_iff,decide_eq_true_iff,List.take_add_one,List.getElem?_eq_getElem hjl];refine⟨λhm=>?_,λhm=>?_⟩
      ·rcases List.mem_append.1 hm with a|a
       ·exact .inl a
       ·exact .inr (List.mem_singleton.1 a).symm
      ·rcases hm with a|a
       ·exact List.mem_append_left _ a
       ·exact List.mem_append_right _ (List.mem_singleton.2 a.symm)
     have fin:=ih2 i2 (by omega) v .any .any (.int .i64 f) w (.int .i64 0) (.int .i64 (acc.length:Int)) (.int .i64 (q:Int)) (.str (zT x)) .any (.bool (decide (zT x ∈ acc.take (j+1)))) (.int .i64 ((j:Int)+1)) .any .any .any .any .any .any h4 ⟨rfl,rfl,rfl,rfl,rfl,rfl,rfl,rfl,j+1,rfl,by rw[Int.natCast_add];rfl,by omega⟩;rw[dec] at fin;cases hd:decide (zT x ∈ acc.take j)<;>rw[hd] at fin
     ·rw[Bool.false_or] at fin;simp (disch:=first|omega|simp only[zD]<;>omega|assumption) only[↓zR,↓zRM,zR,zRM,reduceAdd,reduceMul,reduceToNat,↓f305_L26,↓f305_J27,↓f305_J28,↓hld,eq_true (show (j:Int)<(acc.length:Int) by omega)];exact fin
     ·rw[Bool.true_or] at fin;simp (disch:=first|omega|simp only[zD]<;>omega|assumption) only[↓zR,↓zRM,zR,zRM,reduceAdd,reduceMul,reduceToNat,↓f305_L26,↓f305_J27,↓f305_J28,↓hld,eq_true (show (j:Int)<(acc.length:Int) by omega)];exact fin
   by_cases hat:acc.length<xs.length
   ·have hld:=λkc:VK β=>sl4.loadS (kd:=.i64) (i:=(acc.length:Int)) (by omega) (by omega) kc
    have hgd:xs.getD ((acc.length:Int)).toNat []=xs[acc.length]:=by rw[Int.toNat_natCast,List.getD_eq_getElem?_getD,List.getElem?_eq_getElem hat];rfl
    rw[hgd] at hld;have hb:=eq_false (hne hat);simp (disch:=first|omega|simp only[zD]<;>omega|assumption) only[↓zR,↓zRM,zR,zRM,reduceAdd,reduceMul,reduceToNat,↓f305_J21,↓f305_J22,↓a1,c4,g0,eq_true hfn,lw',eq_true (show (acc.length:Int)<(xs.length:Int) by omega),↓hld,hb];exact loop _ _ _ _ _ _ _ _ _ _ _
   ·simp (disch:=first|omega|simp only[zD]<;>omega|assumption) only[↓zR,↓zRM,zR,zRM,reduceAdd,reduceMul,reduceToNat,↓f305_J21,↓f305_J22,↓a1,c4,g0,eq_true hfn,lw',eq_false (show ¬ (acc.length:Int)<(xs.length:Int) by omega)];exact loop _ _ _ _ _ _ _ _ _ _ _
  ·-- it is new
   have sins:ins acc (zT x)=acc++[zT x]:=by unfold ins;rw[if_neg hs]
   rw[succ,sstep,sins] at pre;have hat:acc.length<xs.length:=by
    have:=pre.length_le
    simp at this;omega
   have hld:=λkc:VK β=>sl4.loadS (kd:=.i64) (i:=(acc.length:Int)) (by omega) (by omega) kc
   have hgd:xs.getD ((acc.length:Int)).toNat []=zT x:=by
    rw[Int.toNat_natCast,List.getD_eq_getElem?_getD,List.getElem?_eq_getElem hat];obtain⟨r,hr⟩:=pre;subst hr;simp
   rw[hgd] at hld;simp (disch:=first|omega|simp only[zD]<;>omega|assumption) only[↓zR,↓zRM,zR,zRM,reduceAdd,reduceMul,reduceToNat,↓f305_J21,↓f305_J22,↓a1,c4,g0,eq_true hfn,lw',eq_true (show (acc.length:Int)<(xs.length:Int) by omega),↓hld,beq_self_eq_true,↓f305_J14];exact next h4 e34 _ (by rw[sstep,sins,List.length_append];simp) _ _ _ _ _ _ _ _ _ _ _ _
end
end Am.F
