/- Texts that belong together: no condition. -/
import Derived.Test.YtlidemdbimpkaaaDoorAmJm
import Derived.Test.YtlidemdbimpkaaaDoorAmJg
import Derived.Test.YtlidemdbimpkaaaDoorAmJj
import Derived.Test.YtlidemdbimpkaaaDoorAmGL11W
import Derived.Test.YtlidemdbimpkaaaDoorAmAwk
open Nat (reduceAdd reduceMul)
open Int (reduceToNat)
set_option maxRecDepth 100000
set_option linter.unusedVariables false
set_option linter.unusedSimpArgs false
set_option linter.defProp false
section
namespace Am.F
open Go Am
def nu(M:Mc):Nat:=M.cells.length+4*M.left
theorem nu_put(M:Mc)(k:Nat)(x:Fd):nu (M.put k x)=nu M:=by
 unfold Mc.put;cases hk:M.cells[k]? with
 | none=>rfl
 | some c=>show (M.cells.set k { c with done:=true,f:=x }).length+4*M.left=M.cells.length+4*M.left;rw[List.length_set]
theorem nu_kid(b:List Ex)(t:List Nat)(nd a:Int)(M:Mc):nu (kidM b t nd a M).2<=nu M+1:=by
 unfold kidM;split
 ·show nu M<=_;omega
 ·split
  ·show nu M<=_;omega
  ·show (M.cells++[_]).length+4*M.left<=M.cells.length+4*M.left+1;rw[List.length_append];simp only[List.length_cons,List.length_nil];omega
theorem zko(b:List Ex)(t:List Nat)(nd:Int):∀(as:List Int) (M:Mc),nu (zT b t nd as M).2<=nu M+as.length
 | [],M=>Nat.le_refl _
 | a::as,M=>by
  have h1:=zko b t nd as (kidM b t nd a M).2;have h2:=nu_kid b t nd a M;show nu (zT b t nd as _).2<=_;rw[List.length_cons];omega
theorem nu_call(M:Mc)(fn parent:Int)(args:List Nat):nu (M.call fn parent args)<=nu M+1:=by
 show (M.cells++[_]).length+4*M.left<=M.cells.length+4*M.left+1;rw[List.length_append];simp only[List.length_cons,List.length_nil];omega
def NuP(p:List Df)(P:Pt):Prop:=∀M b t nd a,WFM p M->zp p b t a->Gds p M t->nu (P M b t nd a).2<=nu M
theorem zh5{p:List Df}{P:Pt}(hP:NuP p P){M:Mc}{k:Nat}(hw:WFM p M)(hk:Gd p M k):nu (zH P M k).2<=nu M:=by
 obtain⟨c,hc,hf⟩:=hk;unfold zH;rw[hc];show nu (if c.done=true then _ else _:Fd × Mc).2<=_;split
 ·exact Nat.le_refl _
 ·have h1:=hP M c.body c.there c.node c.at_ hw hf (hw.cell c (List.mem_of_getElem? hc)).1;show nu (if _ then _ else _:Fd × Mc).2<=_;split
  ·exact h1
  ·show nu (Mc.put _ _ _)<=_;rw[nu_put];exact h1
theorem zh6{p:List Df}{P:Pt}(hP:NuP p P){M:Mc}{fn parent:Int}{args:List Nat}(hw:WFM p M)(ha:Gds p M args)(hf:zp p (zn p fn.toNat) args (((zn p fn.toNat).length:Int)-1)):nu (callM p P M fn parent args).2<=nu M+1:=by
 have h1:=hP (M.call fn parent args) (zn p fn.toNat) args (M.calls.length:Int) _ (hw.call' fn parent ha) hf (ha.mono (Mono.call M fn parent args));have h2:=nu_call M fn parent args;show nu (if _ then _ else _:Mc)<=_;split
 ·omega
 ·rw[nu_put];omega
set_option maxHeartbeats 2000000 in
theorem zhf{p:List Df}(hp:zo p=true):∀N,NuP p (zm p N)
 | 0=>λM _ _ _ _ _ _ _=>Nat.le_refl _
 | N+1=>λM body there node a hw hf hg=>by
  have ih:=zhf hp N;have ok:=zbi hp N;have hm:=Mono.part p N;obtain⟨e,l,he,hl8,hpp,hl,h0,hmem,hbd,hkid⟩:=hf.at_;have m1:Mono M { M with left:=M.left-1 }:=Mono.left M _ _;have w1:WFM p { M with left:=M.left-1 }:=hw.left _ _;have g1:=hg.mono m1;have hk3:=hpp.kids;show nu (if _ then _ else _:Fd × Mc).2<=_;split
  ·exact Nat.le_refl _
  split
  ·exact Nat.le_refl _
  rename_i hl0;have hnu:nu { M with left:=M.left-1 }+4=nu M:=by unfold nu;simp only;omega
  show nu (match body[a.toNat]? with|none=>_|some e=>_:Fd × Mc).2<=_;rw[he];show nu (if _ then _ else _:Fd × Mc).2<=_;have allk:(e.kind≠5/\e.kind≠6)->∀x ∈ e.kids,zp p body there x:=λh x hx=>by
   obtain⟨q,hq⟩:=List.mem_iff_getElem?.1 hx;exact (hkid q x hq).2.2 there (by rw[zh (.inr h),hl];omega)
  have mk:=zko body there node e.kids { M with left:=M.left-1 };split
  ·show nu { M with left:=M.left-1 }<=_;omega
  split
  ·rename_i c1;have hn:0<=e.num/\e.num<=l-1:=by unfold zq at hpp;omega
   have:e.num.toNat<there.length:=by omega
   refine Nat.le_trans (zh5 ih w1 ?_) (by omega);rw[List.getD_eq_getElem?_getD,List.getElem?_eq_getElem this];exact g1 _ (List.getElem_mem this)
  split
  ·rename_i c2;obtain⟨w2,g2,l2⟩:=zaS (node:=node) e.kids (allk (by omega)) g1 w1;obtain⟨_,_,hfr⟩:=zaV hp hbd hmem c2 hpp l2;exact Nat.le_trans (zh6 ih w2 g2 hfr) (by omega)
  split
  ·show nu (zT _ _ _ _ _).2<=_;omega
  split
  ·rename_i c4;have hk2:=hpp.kids2 (.inl c4);have f0:=(hkid 0 _ (zt e (by omega))).2.2 there (by rw[zh (.inl (by omega)),hl];omega);have f1:=(hkid 1 _ (zt e (by omega))).2.2 there (by rw[zh (.inr (by omega)),hl];omega);have q1:=ih { M with left:=M.left-1 } body there node _ w1 f0 g1;obtain⟨w2,g2⟩:=ok { M with left:=M.left-1 } body there node _ w1 f0 g1;unfold zbc;show nu (if _ then _ else _:Fd × Mc).2<=_;split
   ·exact Nat.le_trans q1 (by omega)
   ·have q2:=ih _ body there node _ w2 f1 (g1.mono (hm _ _ _ _ _));show nu (if _ then _ else _:Fd × Mc).2<=_;split
    ·exact Nat.le_trans q2 (by omega)
    ·exact Nat.le_trans q2 (by omega)
  split
  ·rename_i c5;have hk3':=hpp.kids3 c5;have f0:=(hkid 0 _ (zt e (by omega))).2.2 there (by rw[zh (.inl (by omega)),hl];omega);have f2:=(hkid 2 _ (zt e (by omega))).2.2 there (by rw[zh (.inl (by omega)),hl];omega);have q1:=ih { M with left:=M.left-1 } body there node _ w1 f0 g1;obtain⟨w2,g2⟩:=ok { M with left:=M.left-1 } body there node _ w1 f0 g1;have gt:=g1.mono (hm { M with left:=M.left-1 } body there node (e.kids.getD 0 0));show nu (if _ then _ else _:Fd × Mc).2<=_;split
   ·exact Nat.le_trans q1 (by omega)
   ·split
    ·rename_i c;have f1:=(hkid 1 _ (zt e (by omega))).2.2 (there++(zm p N { M with left:=M.left-1 } body there node (e.kids.getD 0 0)).1.parts) (by
      rw[List.length_append];have:more e (1:Nat)=e.bind:=by unfold more;rw[if_pos (by rfl),if_pos c5]
      rw[this];have:=c.2.2;omega)
     exact Nat.le_trans (ih _ body _ node _ w2 f1 (gt.app g2)) (by omega)
    ·exact Nat.le_trans (ih _ body there node _ w2 f2 gt) (by omega)
  split
  ·rename_i c6;have hk2:=hpp.kids2 (.inr c6);have f0:=(hkid 0 _ (zt e (by omega))).2.2 there (by rw[zh (.inl (by omega)),hl];omega);obtain⟨w2,g2⟩:=zcj (node:=node) f0 g1 w1;have q1:=nu_kid body there node (e.kids.getD 0 0) { M with left:=M.left-1 };have gt:=g1.mono (Mono.kid body there node (e.kids.getD 0 0) { M with left:=M.left-1 });have f1:=(hkid 1 _ (zt e (by omega))).2.2 (there++[(kidM body there node (e.kids.getD 0 0) { M with left:=M.left-1 }).1]) (by
    rw[List.length_append];have:more e (1:Nat)=1:=by unfold more;rw[if_pos (by rfl),if_neg (by omega),if_pos c6]
    rw[this];simp;omega)
   exact Nat.le_trans (ih _ body _ node _ w2 f1 (gt.app (Gds.one g2))) (by omega)
  ·show nu { M with left:=M.left-1 }<=_;omega
theorem nu_fo{p:List Df}(hp:zo p=true){M:Mc}{k:Nat}(hw:WFM p M)(hk:Fo p M k)(N:Nat):nu (zH (zm p N) M k).2<=nu M:=by
 obtain⟨c,hc,hf⟩:=hk;cases hd:c.done with
 | true=>
  have:zH (zm p N) M k=(c.f,M):=by unfold zH;rw[hc];exact if_pos hd
  rw[this];exact Nat.le_refl _
 | false=>exact zh5 (zhf hp N) hw ⟨c,hc,hf hd⟩
theorem zhP{p:List Df}{S:Mc->Nat->Bool × Mc}(hS:∀M k,WFM p M->Gd p M k->Kept p M (S M k).2/\nu (S M k).2<=nu M):∀(ks:List Nat) (M:Mc),WFM p M->Gds p M ks->nu (zRq9 S M ks).2<=nu M
 | [],M,hw,_=>Nat.le_refl _
 | k::ks,M,hw,hg=>by
  have h1:=hS M k hw (hg k List.mem_cons_self);show nu (if (S M k).1=true then _ else _:Bool × Mc).2<=_;split
  ·exact Nat.le_trans (zhP hS ks _ h1.1.wf λq hq=>(hg q (List.mem_cons_of_mem _ hq)).mono h1.1.mo) h1.2
  ·exact h1.2
theorem zjE{p:List Df}(hp:zo p=true):∀n M k,WFM p M->Fo p M k->nu (zaM p n M k).2<=nu M
 | 0,M,k,hw,_=>Nat.le_refl _
 | n+1,M,k,hw,hk=>by
  have ih:=zjE hp n;have hk0:=hk;obtain⟨c,hc,hf⟩:=hk;show nu (match M.cells[k]? with|none=>_|some c=>_:Bool × Mc).2<=_;rw[hc];show nu (if c.shown=true then _ else _:Bool × Mc).2<=_;split
  ·exact Nat.le_refl _
  ·have em:nu (M.mark k c)=nu M:=by show (M.cells.set k _).length+4*M.left=_;rw[List.length_set];rfl
   have k2:=nu_fo hp (hw.mark hc) (Fo.mark hc hk0) 1001;have w2:=zcc hp (hw.mark hc) (Fo.mark hc hk0) 1001;rw[em] at k2;show nu (if _ then _ else _:Bool × Mc).2<=_;split
   ·exact k2
   ·exact Nat.le_trans (zhP (λM k hw hg=>⟨zcI hp n M k hw hg.fo,ih M k hw hg.fo⟩) _ _ w2.wf (zbE w2.wf k)) k2
end Am.F
end
section
namespace Am.F
open Go Am
def mc0(fuel:Nat):Mc:=⟨fuel,false,[],[]⟩
theorem zfh{p:List Df}(hp:zo p=true):0<p.length/\zp p (zn p 0) [] (((zn p 0).length:Int)-1):=by
 obtain⟨h1,h0,hall⟩:=zaC hp;obtain⟨df,hdf⟩:∃df,p[0]?=some df:=⟨_,List.getElem?_eq_getElem (by omega)⟩
 have hmem:=List.mem_of_getElem? hdf;have hdm:=(hall df hmem).1;obtain⟨lv,hlv⟩:=zaU hdm;have hl:=zaK hdm;have hbo:zn p 0=df.body:=by unfold zn;rw[hdf];rfl
 have hpo:zE p 0=df.params:=by unfold zE;show (((p[(0:Int).toNat]?).map Df.params).getD 0)=_;rw[show (0:Int).toNat=0 from rfl,hdf];rfl
 refine⟨by omega,df,hmem,hbo.symm,lv,hlv,by rw[hbo];omega,by omega,?_⟩;rw[hbo,show (((df.body.length:Nat):Int)-1).toNat=df.body.length-1 by omega,hlv.last];simp;omega
theorem wf0(p:List Df)(fuel:Nat):WFM p (mc0 fuel):=⟨λd hd=>(by cases hd),λd hd=>(by cases hd)⟩
theorem pl0(fuel:Nat):PL (mc0 fuel):=λd hd=>by cases hd
theorem nc0(fuel:Nat):NC (mc0 fuel):=⟨λd hd=>(by cases hd),λd hd=>(by cases hd)⟩
theorem ac0(fuel:Nat):Ac (mc0 fuel):=λk c hk=>by simp[mc0] at hk
theorem mu0(fuel:Nat):mu (mc0 fuel)=4*fuel:=by simp[mu,mc0,uns]
theorem nu0(fuel:Nat):nu (mc0 fuel)=4*fuel:=by simp[nu,mc0]
theorem cnt0(fuel:Nat):cnt (mc0 fuel)=fuel:=by simp[cnt,mc0]
theorem zs_len:∀cs:List Cl,zs cs<=cs.length
 | []=>Nat.le_refl _
 | c::cs=>by
  have ih:=zs_len cs;have e:zs (c::cs)=(if 0<c.size then 0 else 1)+zs cs:=by simp[zs]
  rw[e,List.length_cons];split<;>omega
theorem lg_of{p:List Df}{M:Mc}(hw:WFM p M)(ha:Ac M)(hl:PL M)(hn:NC M){B:Nat}(hB:M.cells.length<=B):LG B M :=
 ⟨ha,λc hc q hq=>(hw.cell c hc).2.lt q hq,λc hc=>by rw[hn.z c hc];omega,hl,Nat.le_trans (zs_len _) hB,λj c d w _ hj hp _=>by rw[hn.z c (List.mem_of_getElem? hj)] at hp;omega⟩
theorem ca_of{p:List Df}{M:Mc}(hw:WFM p M)(hn:NC M):∀c ∈ M.calls,CaIn M c/\c.args.length<=3:=λc hc=>⟨⟨(hw.call c hc).1.lt,(hw.call c hc).2⟩,hn.a c hc⟩
theorem PM.init{p:List Df}{h:H}{dv:AV}(hd:LAt 2 DfC h dv p)(fuel:Nat):PM p h.n dv (h.push .dead) (h.push (.own 0 [dv,.int .i64 (fuel:Int),.nils,.bool false])) ⟨[],[],[]⟩ (mc0 fuel):=by
 obtain⟨u1,u2,u3,u4⟩:=(Un.refl h).hide rfl (.own 0 [dv,.int .i64 (fuel:Int),.nils,.bool false]);exact⟨u2,u3,by rw[H.n_push];omega,by rw[zf rfl];rfl,hd.ext DfC.stays ((Ext.refl h).push _),⟨.nils,zf rfl,.inl ⟨rfl,rfl,rfl⟩⟩,rfl,rfl,λi j a hi _=>by simp at hi,λk c a hk _=>by simp[mc0] at hk,λj c b hj _=>by simp[mc0] at hj⟩
end Am.F
end
section
namespace Am.F
open Go Am
def runC(p:List Df)(fuel:Nat):Mc:=(callM p (zm p 1001) (mc0 fuel) 0 (-1) []).2
def runS(p:List Df)(fuel:Nat):Mc:=if (runC p fuel).out=true then runC p fuel else (zaM p (4*fuel+1) (runC p fuel) 0).2
def runQ(p:List Df)(fuel:Nat):Int × List Nd :=
 if (runS p fuel).out=true then (1101,[]) else
  if (zZ (4*fuel+1) (runS p fuel) (runS p fuel).calls).1=true then (1102,[]) else (0,(runS p fuel).calls.map (ndM (runS p fuel)))
structure Rn (p:List Df) (fuel:Nat) (M:Mc):Prop where
 wf:WFM p M
 pl:PL M
 nc:NC M
 ac:Ac M
 mu:mu M<=4*fuel+1
 nu:nu M<=4*fuel+1
 ct:cnt M<=fuel+1
 c0:∃r,M.calls[0]?=some r/\r.res=0
 l0:0<M.cells.length
theorem ze8{p:List Df}(hp:zo p=true)(fuel:Nat):Rn p fuel (runC p fuel):=by
 obtain⟨hpl,hfr⟩:=zfh hp;have gd:Gds p (mc0 fuel) []:=Gds.nil p _;have hfr':zp p (zn p (0:Int).toNat) [] (((zn p (0:Int).toNat).length:Int)-1):=hfr;have czz:Cz (λ_=>False) (mc0 fuel):=λk c h=>h.elim
 have c1:=ziC (zbi hp 1001) (fn:=0) (parent:=-1) (wf0 p fuel) gd hfr';have hm:=Mono.part p 1001 ((mc0 fuel).call 0 (-1) []) (zn p (0:Int).toNat) [] ((mc0 fuel).calls.length:Int) (((zn p (0:Int).toNat).length:Int)-1);have hput:Mono ((mc0 fuel).call 0 (-1) []) (runC p fuel):=by
  show Mono _ (if _ then _ else _:Mc);split
  ·exact hm
  ·exact hm.trans (Mono.put _ _ _)
 refine⟨c1.1,(zhZ (zg9 hp 1001) (wf0 p fuel) gd hfr' (pl0 fuel)).1,zh8 (zhi hp 1001) (wf0 p fuel) gd hfr' (nc0 fuel) (by simp),(ziF (zhA hp 1001) (wf0 p fuel) gd hfr' (ac0 fuel) czz λq hq=>by cases hq).ac,?_,?_,?_,?_,?_⟩
 ·have:=zib (zhj hp 1001) (parent:=-1) (wf0 p fuel) gd hfr'
  rw[mu0] at this;exact this
 ·have:=zh6 (zhf hp 1001) (parent:=-1) (wf0 p fuel) gd hfr'
  rw[nu0] at this;exact this
 ·have:=zgE (p:=p) (zdc p 1001) (mc0 fuel) 0 (-1) []
  rw[cnt0] at this;exact this
 ·obtain⟨r,hr⟩:=hput.calls;exact⟨⟨0,-1,[],0⟩,by rw[<- hr];rfl,rfl⟩
 ·exact Nat.lt_of_lt_of_le (by show 0<((mc0 fuel).cells++[_]).length;simp) hput.len
theorem put_self{M:Mc}{k:Nat}{x:Fd}(h:k<M.cells.length):∃c,(M.put k x).cells[k]?=some c/\c.done=true:=by
 have hk:M.cells[k]?=some M.cells[k]:=List.getElem?_eq_getElem h;unfold Mc.put;rw[hk];exact⟨_,List.getElem?_set_self h,rfl⟩
theorem zfi{p:List Df}(hp:zo p=true)(fuel:Nat)(ho:¬ (runC p fuel).out=true):Fo p (runC p fuel) 0:=by
 have hm:=Mono.part p 1001 ((mc0 fuel).call 0 (-1) []) (zn p (0:Int).toNat) [] ((mc0 fuel).calls.length:Int) (((zn p (0:Int).toNat).length:Int)-1);have hl:0<((mc0 fuel).call 0 (-1) []).cells.length:=by show 0<((mc0 fuel).cells++[_]).length;simp
 have e:runC p fuel=if (zm p 1001 ((mc0 fuel).call 0 (-1) []) (zn p (0:Int).toNat) [] ((mc0 fuel).calls.length:Int) (((zn p (0:Int).toNat).length:Int)-1)).2.out=true then (zm p 1001 ((mc0 fuel).call 0 (-1) []) (zn p (0:Int).toNat) [] ((mc0 fuel).calls.length:Int) (((zn p (0:Int).toNat).length:Int)-1)).2 else (zm p 1001 ((mc0 fuel).call 0 (-1) []) (zn p (0:Int).toNat) [] ((mc0 fuel).calls.length:Int) (((zn p (0:Int).toNat).length:Int)-1)).2.put 0 (zm p 1001 ((mc0 fuel).call 0 (-1) []) (zn p (0:Int).toNat) [] ((mc0 fuel).calls.length:Int) (((zn p (0:Int).toNat).length:Int)-1)).1:=rfl
 by_cases h:(zm p 1001 ((mc0 fuel).call 0 (-1) []) (zn p (0:Int).toNat) [] ((mc0 fuel).calls.length:Int) (((zn p (0:Int).toNat).length:Int)-1)).2.out=true
 ·rw[if_pos h] at e;rw[e] at ho;exact absurd h ho
 ·rw[if_neg h] at e;obtain⟨c,c1,c2⟩:=put_self (x:=(zm p 1001 ((mc0 fuel).call 0 (-1) []) (zn p (0:Int).toNat) [] ((mc0 fuel).calls.length:Int) (((zn p (0:Int).toNat).length:Int)-1)).1) (Nat.lt_of_lt_of_le hl hm.len);exact⟨c,by rw[e];exact c1,λhd=>by rw[c2] at hd;cases hd⟩
theorem zgY{p:List Df}(hp:zo p=true)(fuel:Nat):Rn p fuel (runS p fuel):=by
 have R:=ze8 hp fuel;unfold runS;split
 ·exact R
 ·rename_i ho;have fo:=zfi hp fuel ho;have K:=ze7 hp (4*fuel+1) (runC p fuel) 0 R.wf fo R.pl;refine⟨K.k.wf,K.pl,zjF hp _ _ _ R.wf fo R.nc,zjH hp _ _ _ R.wf fo R.ac,Nat.le_trans K.k.mu R.mu,Nat.le_trans (zjE hp _ _ _ R.wf fo) R.nu,Nat.le_trans K.k.ct R.ct,?_,Nat.lt_of_lt_of_le R.l0 K.k.mo.len⟩;obtain⟨r,h1,h2⟩:=R.c0;obtain⟨rr,hrr⟩:=K.k.mo.calls;exact⟨r,by rw[<- hrr,List.getElem?_append_left (List.getElem?_eq_some_iff.1 h1).1];exact h1,h2⟩
end Am.F
end
section
namespace Am.F
open Go Am
section
variable {β:Type} {t:ETree} {p:List Df} {mb:Nat} {dv:AV} {g h:H} {G:Gst} {M:Mc}
set_option maxHeartbeats 1000000 in
theorem jJ6{m fuel:Nat}(TN:GN11 t)(T:GA t)(L:GI t)(hp:zo p=true)(hf:fuel<=400)(pm:PM p mb dv g h G (runS p fuel))(hm:5000<=m)(k:K β)(R:Option β)
  (Hok:∀(g' h':H) (v:AV),LAt 4 NdC g' v (runQ p fuel).2->Un g' h'->Ext g g'->k (.tup [v,.int .i64 (runQ p fuel).1]) h'=R) {x0 x1 x2 x3 x4 x6 x7 x8 x9 x10 x11:AV} :
  f136_J6 m (ze t stdI m) k x0 x1 x2 x3 x4 (.ptr mb 0) x6 x7 x8 x9 x10 x11 h=R:=by
 have RN:=zgY hp fuel;obtain⟨cv,hmb,_⟩:=pm.callsAt;have hrq:runQ p fuel=if (runS p fuel).out=true then (1101,[]) else
  if (zZ (4*fuel+1) (runS p fuel) (runS p fuel).calls).1=true then (1102,[]) else (0,(runS p fuel).calls.map (ndM (runS p fuel))):=rfl
 cases ho:(runS p fuel).out with
 | true=>
  rw[if_pos ho] at hrq;rw[hrq] at Hok;rw[ho] at hmb;have fin:=Hok g h .nils (.inl ⟨rfl,rfl⟩) pm.un (Ext.refl g);unfold f136_J6;simp (disch:=first|omega|simp only[zD]<;>omega|assumption) only[↓zR,↓zRM,zR,zRM,reduceAdd,reduceMul,reduceToNat,zN,hmb];exact fin
 | false=>
  rw[if_neg (by rw[ho];simp)] at hrq;rw[ho] at hmb;have hn:=RN.nu;have hct:=RN.ct;unfold nu at hn;unfold cnt at hct;have lg:LG (4*fuel+1) (runS p fuel):=lg_of RN.wf RN.ac RN.pl RN.nc (by omega);have J:=λy0 y1 y2 y3 y4 y6 y7 y8 y9 y10 y11=>j136 (β:=β) (m:=m) TN T L pm lg (ca_of RN.wf RN.nc) (by omega) (by omega) k R
   (λg' h' ht u e=>by
    rw[if_pos ht] at hrq;rw[hrq] at Hok;exact Hok g' h' .nils (.inl ⟨rfl,rfl⟩) u e)
   (λg' h' v ht hv u s=>by
    rw[if_neg (by rw[ht];simp)] at hrq;rw[hrq] at Hok;exact Hok g' h' v hv u s.eg) (x0:=y0) (x1:=y1) (x2:=y2) (x3:=y3) (x4:=y4) (x6:=y6) (x7:=y7) (x8:=y8) (x9:=y9) (x10:=y10) (x11:=y11)
  unfold f136_J6;simp (disch:=first|omega|simp only[zD]<;>omega|assumption) only[↓zR,↓zRM,zR,zRM,reduceAdd,reduceMul,reduceToNat,zN,hmb];exact J _ _ _ _ _ _ _ _ _ _ _
end
end Am.F
end
section
namespace Am.F
open Go Am
section
variable {β:Type} {t:ETree} {p:List Df}
set_option maxHeartbeats 1000000 in
theorem jJ1{m fuel:Nat}(TN:GN11 t)(TM:GNM t)(T:GA t)(L:GI t)(hp:zo p=true)(hf:fuel<=400){h:H}{b:Nat}{pv:AV}(hb:(h.get b).cells=some [pv])(hpv:LAt 2 DfC h pv p)(hm:5000<=m)(k:K β)(R:Option β)
  (Hok:∀(g' h':H) (v:AV),LAt 4 NdC g' v (runQ p fuel).2->Un g' h'->Ext h g'->k (.tup [v,.int .i64 (runQ p fuel).1]) h'=R) {x0 x3 x4 x5 x6 x7 x8 x9 x10 x11:AV} :
  f136_J1 m (ze t stdI m) k x0 (.int .i64 (fuel:Int)) (.ptr b 0) x3 x4 x5 x6 x7 x8 x9 x10 x11 h=R:=by
 obtain⟨hpl,hfr⟩:=zfh hp;have hlen:∀d ∈ p,d.body.length<=1000:=λd hd=>by
  have:=zaK ((zaC hp).2.2 d hd).1
  omega
 have pm:=PM.init hpv fuel;have RC:=ze8 hp fuel;have hfr':zp p (zn p (0:Int).toNat) [] (((zn p (0:Int).toNat).length:Int)-1):=hfr;have W:=TN.w158 (β:=β) (N:=1001) (m:=m-1) (TN.w189 TM T hp hlen 1001 (m-1) (by omega)) (Mono.part p 1001) pm (wf0 p fuel) (by rw[cnt0];omega) (by show fuel<1001;omega) (fn:=0) (parent:=-1) (args:=[]) (av:=.nils) (.inl ⟨rfl,rfl⟩) (.inl ⟨rfl,rfl⟩) (Gds.nil p _) hfr' ⟨by omega,by omega⟩ hlen;rw[show m-1+1=m by omega] at W;have psc:=hpv.sc;have hbu:∀kk:VK β,zy [.nils,.int .i64 0,.nils,.bool false] [(0,1),(1,1)] [pv,.int .i64 (fuel:Int)] (.mk kk)=kk (.agg [pv,.int .i64 (fuel:Int),.nils,.bool false]):=λkk=>by
  rcases hpv with⟨rfl,_⟩|⟨_,_,_,_,_,rfl,_⟩<;>rfl
 have hbx:∀(hh:H) (kk:K β),qBox 0 (.agg [pv,.int .i64 (fuel:Int),.nils,.bool false]) hh (.mk kk)=kk (.ptr hh.n 0) (hh.push (.own 0 [pv,.int .i64 (fuel:Int),.nils,.bool false])):=λhh kk=>zr 0 _ hh kk
 have e0:Ext h (h.push .dead):=(Ext.refl h).push _;unfold f136_J1;simp (disch:=first|omega|simp only[zD]<;>omega|assumption) only[↓zR,↓zRM,zR,zRM,reduceAdd,reduceMul,reduceToNat,zN,hb,hbu,↓hbx];refine W _ _ ?_;intro u h1 ⟨g1,G1,s1,pm1,pv1,eu,_⟩;have pm1:PM p h.n pv g1 h1 G1 (runC p fuel):=pm1;obtain⟨cv,hmb,hcv⟩:=pm1.callsAt;have hs:=hcv g1 h1 _ pm1;obtain⟨r,hr,hr0⟩:=RC.c0;cases ho:(runC p fuel).out with
 | true=>
  rw[ho] at hmb;have erun:runS p fuel=runC p fuel:=if_pos ho;rw[<- erun] at pm1;have J:=λy0 y1 y2 y3 y4 y6 y7 y8 y9 y10 y11=>jJ6 (β:=β) (m:=m) TN T L hp hf pm1 hm k R (λg' h' v hv u e=>Hok g' h' v hv u ((e0.trans s1.eg).trans e)) (x0:=y0) (x1:=y1) (x2:=y2) (x3:=y3) (x4:=y4) (x6:=y6) (x7:=y7) (x8:=y8) (x9:=y9) (x10:=y10) (x11:=y11)
  simp (disch:=first|omega|simp only[zD]<;>omega|assumption) only[↓zR,↓zRM,zR,zRM,reduceAdd,reduceMul,reduceToNat,zN,hmb];exact J _ _ _ _ _ _ _ _ _ _ _
 | false=>
  rw[ho] at hmb;have hno:¬ (runC p fuel).out=true:=by rw[ho];simp
  have fo:=zfi hp fuel hno;obtain⟨cb,hcb⟩:∃cb,G1.CA[0]?=some cb:=⟨_,List.getElem?_eq_getElem (by rw[pm1.clen];exact (List.getElem?_eq_some_iff.1 hr).1)⟩
  obtain⟨q1,av,q2,q3,q4⟩:=pm1.call 0 r cb hr hcb;rw[hr0] at q2;have gb1:(h1.get cb).cells=some [.int .i64 r.fn,.int .i64 r.parent,av,.ptr (G1.A.getD 0 0) 0]:=by rw[pm1.un.get cb q1 (by rw[q2];simp[Blk.cells]),q2];rfl
  have hcl:=(List.getElem?_eq_some_iff.1 hcb).1;have hld:=λkc:VK β=>hs.load (kd:=.i64) (i:=0) (by omega) (by rw[List.length_map];omega) kc
  have hge:(G1.CA.map λx=>AV.ptr x 0).getD 0 (.tup []) = .ptr cb 0:=by rw[List.getD_eq_getElem?_getD,List.getElem?_map,hcb];rfl
  have hgd:(G1.CA.map λx=>AV.ptr x 0).getD ((0:Int)).toNat (.tup []) = .ptr cb 0:=hge;have erun:runS p fuel=(zaM p (4*fuel+1) (runC p fuel) 0).2:=if_neg hno;have WS:=TN.w159 (β:=β) (p:=p) (mb:=h.n) (dv:=pv) TM T hp hlen (4*fuel+1) m (by omega) g1 h1 G1 (runC p fuel) 0 pm1 RC.wf RC.pl (Nat.le_trans RC.ct (by omega)) fo RC.mu;simp (disch:=first|omega|simp only[zD]<;>omega|assumption) only[↓zR,↓zRM,zR,zRM,reduceAdd,reduceMul,reduceToNat,zN,hmb,hld,hge,hgd,gb1];refine WS _ _ ?_;intro u2 h2 ⟨g2,G2,s2,pm2,eu2⟩;rw[<- erun] at pm2;have J:=λy0 y1 y2 y3 y4 y6 y7 y8 y9 y10 y11=>jJ6 (β:=β) (m:=m) TN T L hp hf pm2 hm k R (λg' h' v hv u e=>Hok g' h' v hv u ((e0.trans (s1.trans s2).eg).trans e)) (x0:=y0) (x1:=y1) (x2:=y2) (x3:=y3) (x4:=y4) (x6:=y6) (x7:=y7) (x8:=y8) (x9:=y9) (x10:=y10) (x11:=y11)
  exact J _ _ _ _ _ _ _ _ _ _ _
end
end Am.F
end
section
namespace Am.F
open Go Am
section
variable {β:Type} {t:ETree} {p:List Df}
def zcH(p:List Df)(fuel:Int):Prop:=zo p=true/\0<=fuel/\fuel<=400
set_option maxHeartbeats 1000000 in
theorem GN11.w136(TN:GN11 t)(TM:GNM t)(TC:GC t)(T:GA t)(L:GI t){h:H}{a:AV}{fuel:Int}(hpa:PgAt h a p)(hl:p.length<=9223372036854775807)(hl2:∀d ∈ p,d.body.length<=9223372036854775807)(n:Nat)(hn:5001<=n) :
  Sp (β:=β) (ze t stdI n (.fn 136 []) [a,.int .i64 fuel] h) λu h'=>∃g',Ext h g'/\Un g' h'/\((zcH p fuel->∃v,u = .tup [v,.int .i64 (runQ p fuel.toNat).1]/\LAt 4 NdC g' v (runQ p fuel.toNat).2)/\(¬ zcH p fuel->u = .tup [.nils,.int .i64 1100])):=by
 intro k R hk;obtain⟨m,rfl⟩:∃m,n=m+1:=⟨n-1,by omega⟩
 obtain⟨pv,rfl,hpv⟩:=hpa;have e0:Ext h (h.push (.own 0 [pv])):=(Ext.refl h).push _;have W:=TC.w157 (β:=β) T m (by omega) (h:=h.push (.own 0 [pv])) (a:=.agg [pv]) ⟨pv,rfl,hpv.ext DfC.stays e0⟩ hl hl2;have hbx:∀(hh:H) (kk:K β),qBox 0 (.agg [pv]) hh (.mk kk)=kk (.ptr hh.n 0) (hh.push (.own 0 [pv])):=λhh kk=>zr 0 _ hh kk
 have psc:=hpv.sc;rw[TN.c136];unfold f136;simp (disch:=first|omega|simp only[zD]<;>omega|assumption) only[↓zR,↓zRM,zR,zRM,reduceAdd,reduceMul,reduceToNat,↓hbx];refine W _ _ ?_;intro u h1 ⟨e1,eu⟩;subst eu;have e01:=e0.trans e1;have hb:(h1.get h.n).cells=some [pv]:=by rw[e1.get _ (by rw[H.n_push];omega),zf rfl];rfl
 have no:¬ zcH p fuel->k (.tup [.nils,.int .i64 1100]) h1=R:=λhno=>hk _ _ ⟨h1,e01,Un.refl h1,λhh=>absurd hh hno,λ_=>rfl⟩
 cases hp:zo p with
 | false=>
  have fin:=no λhh=>by rw[hh.1] at hp;cases hp
  simp (disch:=first|omega|simp only[zD]<;>omega|assumption) only[↓zR,↓zRM,zR,zRM,reduceAdd,reduceMul,reduceToNat];exact fin
 | true=>
  by_cases c1:fuel<0
  ·have fin:=no λhh=>by have:=hh.2.1;omega
   simp (disch:=first|omega|simp only[zD]<;>omega|assumption) only[↓zR,↓zRM,zR,zRM,reduceAdd,reduceMul,reduceToNat,eq_true c1];exact fin
  by_cases c2:fuel>400
  ·have fin:=no λhh=>by have:=hh.2.2;omega
   simp (disch:=first|omega|simp only[zD]<;>omega|assumption) only[↓zR,↓zRM,zR,zRM,reduceAdd,reduceMul,reduceToNat,eq_false c1,eq_true c2];exact fin
  obtain⟨f,rfl⟩:=Int.eq_ofNat_of_zero_le (show 0<=fuel by omega);have may:zcH p (f:Int):=⟨hp,by omega,by omega⟩
  have J:=λy0 y3 y4 y5 y6 y7 y8 y9 y10 y11=>jJ1 (β:=β) (m:=m) TN TM T L hp (show f<=400 by omega) hb (hpv.ext DfC.stays e01) (by omega) k R (λg' h' v hv u e=>hk _ h' ⟨g',e01.trans e,u,λ_=>⟨v,rfl,hv⟩,λhno=>absurd may hno⟩) (x0:=y0) (x3:=y3) (x4:=y4) (x5:=y5) (x6:=y6) (x7:=y7) (x8:=y8) (x9:=y9) (x10:=y10) (x11:=y11)
  simp (disch:=first|omega|simp only[zD]<;>omega|assumption) only[↓zR,↓zRM,zR,zRM,reduceAdd,reduceMul,reduceToNat,eq_false c1,eq_false c2];exact J _ _ _ _ _ _ _ _ _ _
end
end Am.F
end
section
namespace Am.F
open Go Am
def CaOk(p:List Df)(i:Nat)(c:Ca):Prop:=(0<=c.fn/\c.fn<(p.length:Int))/\(c.args.length:Int)=zE p c.fn/\(i=0->c.fn=0/\c.parent = -1)/\(0<i->0<=c.parent/\c.parent<(i:Int))
def NdOk(M:Mc)(nd:Int):Prop:=0<=nd/\nd<(M.calls.length:Int)
structure CN (p:List Df) (M:Mc):Prop where
 z:∀c ∈ M.cells,NdOk M c.node
 a:∀(i:Nat) (c:Ca),M.calls[i]?=some c->CaOk p i c
theorem NdOk.mono{M M':Mc}(h:Mono M M'){nd:Int}(hn:NdOk M nd):NdOk M' nd:=⟨hn.1,by have:=h.calls.length_le;have:=hn.2;omega⟩
theorem CN.add{p:List Df}{M:Mc}(h:CN p M){c:Cl}(hc:NdOk M c.node):CN p (M.add c):=⟨λd hd=>by
 rcases List.mem_append.1 hd with hd|hd
 ·exact h.z d hd
 ·rw[List.mem_singleton.1 hd];exact hc,h.a⟩
theorem CN.put{p:List Df}{M:Mc}(h:CN p M)(k:Nat)(x:Fd):CN p (M.put k x):=by
 unfold Mc.put;cases hk:M.cells[k]? with
 | none=>exact h
 | some c=>exact⟨λd hd=>by
   rcases List.mem_or_eq_of_mem_set hd with hd|hd
   ·exact h.z d hd
   ·rw[hd];exact h.z c (List.mem_of_getElem? hk),h.a⟩
theorem CN.kid{p:List Df}{M:Mc}(h:CN p M)(b:List Ex)(t:List Nat){nd:Int}(hd:NdOk M nd)(a:Int):CN p (kidM b t nd a M).2:=by
 unfold kidM;split
 ·exact h
 ·split
  ·exact h
  ·exact h.add hd
theorem CN.kids{p:List Df}(b:List Ex)(t:List Nat)(nd:Int):∀{M:Mc},NdOk M nd->∀(as:List Int),CN p M->CN p (zT b t nd as M).2
 | M,hd,[],h=>h
 | M,hd,a::as,h=>CN.kids b t nd (hd.mono (Mono.kid b t nd a M)) as (h.kid b t hd a)
theorem CN.call{p:List Df}{M:Mc}(h:CN p M){fn parent:Int}{args:List Nat}(hc:CaOk p M.calls.length ⟨fn,parent,args,M.cells.length⟩):CN p (M.call fn parent args):=⟨λd hd=>by
 rcases List.mem_append.1 hd with hd|hd
 ·exact (h.z d hd).mono (Mono.call M fn parent args)
 ·rw[List.mem_singleton.1 hd];refine⟨Int.le_refl _,?_⟩;show (0:Int)<((M.calls++[_]).length:Int);rw[List.length_append];simp only[List.length_cons,List.length_nil];omega,λi c hi=>by
 have hi:(M.calls++[_])[i]?=some c:=hi
 by_cases hl:i<M.calls.length
 ·rw[List.getElem?_append_left hl] at hi;exact h.a i c hi
 ·rw[List.getElem?_append_right (by omega)] at hi;have h0:i-M.calls.length=0:=by
   have:=(List.getElem?_eq_some_iff.1 hi).1
   simp at this;omega
  rw[h0] at hi;cases hi;have:i=M.calls.length:=by omega
  rw[this];exact hc⟩
theorem zji{p:List Df}(hp:zo p=true){body:List Ex}(hb:∃d ∈ p,d.body=body){e:Ex}(he:e ∈ body)(h2:e.kind=2):(e.kids.length:Int)=zE p e.num:=by
 obtain⟨_,_,hall⟩:=zaC hp;obtain⟨d,hd,rfl⟩:=hb;have hodd:=(hall d hd).2;have hno:¬ Odd p e:=λho=>by
  have:zci p d.body=true:=List.any_eq_true.2 ⟨e,he,by simpa using ho⟩
  rw[hodd] at this;cases this
 exact Classical.byContradiction λh=>hno ⟨h2,.inr h⟩
def CnP(p:List Df)(P:Pt):Prop:=∀M b t nd a,WFM p M->zp p b t a->Gds p M t->CN p M->NdOk M nd->CN p (P M b t nd a).2
theorem ziA{p:List Df}{P:Pt}(hP:CnP p P){M:Mc}{k:Nat}(hw:WFM p M)(hk:Fo p M k)(h:CN p M):CN p (zH P M k).2:=by
 obtain⟨c,hc,hf⟩:=hk;have hcm:=List.mem_of_getElem? hc;unfold zH;rw[hc];show CN p (if c.done=true then _ else _:Fd × Mc).2;split
 ·exact h
 ·rename_i hd;have h1:=hP M c.body c.there c.node c.at_ hw (hf (by simpa using hd)) (hw.cell c hcm).1 h (h.z c hcm);show CN p (if _ then _ else _:Fd × Mc).2;split
  ·exact h1
  ·exact h1.put k _
theorem ziB{p:List Df}{P:Pt}(hP:CnP p P){M:Mc}{fn parent:Int}{args:List Nat}(hw:WFM p M)(ha:Gds p M args)(hf:zp p (zn p fn.toNat) args (((zn p fn.toNat).length:Int)-1))(h:CN p M)(hc:CaOk p M.calls.length ⟨fn,parent,args,M.cells.length⟩):CN p (callM p P M fn parent args).2:=by
 have h1:=hP (M.call fn parent args) (zn p fn.toNat) args (M.calls.length:Int) _ (hw.call' fn parent ha) hf (ha.mono (Mono.call M fn parent args)) (h.call hc) ⟨by omega,by show (M.calls.length:Int)<((M.calls++[_]).length:Int);rw[List.length_append];simp only[List.length_cons,List.length_nil];omega⟩;show CN p (if _ then _ else _:Mc);split
 ·exact h1
 ·exact h1.put _ _
theorem cn_callM{p:List Df}{P:Pt}(hP:CnP p P){M:Mc}{fn parent:Int}{args:List Nat}(hw:WFM p M)(ha:Gds p M args)(hf:zp p (zn p fn.toNat) args (((zn p fn.toNat).length:Int)-1))(h:CN p M)(hn:0<=fn/\fn<(p.length:Int))(hl:(args.length:Int)=zE p fn)(hd:NdOk M parent):CN p (callM p P M fn parent args).2 :=
 ziB hP hw ha hf h ⟨hn,hl,λh0=>by have h1:=hd.1;have h2:=hd.2;omega,λ_=>hd⟩
set_option maxHeartbeats 2000000 in
theorem zhy{p:List Df}(hp:zo p=true):∀N,CnP p (zm p N)
 | 0=>λM _ _ _ _ _ _ _ h _=>h
 | N+1=>λM body there node a hw hf hg h hd=>by
  have ih:=zhy hp N;have ok:=zbi hp N;have hm:=Mono.part p N;obtain⟨e,l,he,hl8,hpp,hl,h0,hmem,hbd,hkid⟩:=hf.at_;have m1:Mono M { M with left:=M.left-1 }:=Mono.left M _ _;have w1:WFM p { M with left:=M.left-1 }:=hw.left _ _;have g1:=hg.mono m1;have hk3:=hpp.kids;have h':CN p { M with left:=M.left-1 }:=⟨h.z,h.a⟩
  have hd':NdOk { M with left:=M.left-1 } node:=hd;show CN p (if _ then _ else _:Fd × Mc).2;split
  ·exact h
  split
  ·exact⟨h.z,h.a⟩
  show CN p (match body[a.toNat]? with|none=>_|some e=>_:Fd × Mc).2;rw[he];show CN p (if _ then _ else _:Fd × Mc).2;have allk:(e.kind≠5/\e.kind≠6)->∀x ∈ e.kids,zp p body there x:=λh x hx=>by
   obtain⟨q,hq⟩:=List.mem_iff_getElem?.1 hx;exact (hkid q x hq).2.2 there (by rw[zh (.inr h),hl];omega)
  split
  ·exact h'
  split
  ·rename_i c1;have hn:0<=e.num/\e.num<=l-1:=by unfold zq at hpp;omega
   have:e.num.toNat<there.length:=by omega
   refine ziA ih w1 (Gd.fo ?_) h';rw[List.getD_eq_getElem?_getD,List.getElem?_eq_getElem this];exact g1 _ (List.getElem_mem this)
  split
  ·rename_i c2;obtain⟨w2,g2,l2⟩:=zaS (node:=node) e.kids (allk (by omega)) g1 w1;obtain⟨n1,n2,hfr⟩:=zaV hp hbd hmem c2 hpp l2;exact cn_callM ih w2 g2 hfr (CN.kids body there node hd' e.kids h') ⟨n1,n2⟩ (by rw[l2];exact zji hp hbd hmem c2) (hd'.mono (Mono.kids body there node e.kids _))
  split
  ·exact CN.kids body there node hd' e.kids h'
  split
  ·rename_i c4;have hk2:=hpp.kids2 (.inl c4);have f0:=(hkid 0 _ (zt e (by omega))).2.2 there (by rw[zh (.inl (by omega)),hl];omega);have f1:=(hkid 1 _ (zt e (by omega))).2.2 there (by rw[zh (.inr (by omega)),hl];omega);have q1:=ih { M with left:=M.left-1 } body there node _ w1 f0 g1 h' hd';obtain⟨w2,g2⟩:=ok { M with left:=M.left-1 } body there node _ w1 f0 g1;unfold zbc;show CN p (if _ then _ else _:Fd × Mc).2;split
   ·exact q1
   ·have q2:=ih _ body there node _ w2 f1 (g1.mono (hm _ _ _ _ _)) q1 (hd'.mono (hm _ _ _ _ _));show CN p (if _ then _ else _:Fd × Mc).2;split
    ·exact q2
    ·exact q2
  split
  ·rename_i c5;have hk3':=hpp.kids3 c5;have f0:=(hkid 0 _ (zt e (by omega))).2.2 there (by rw[zh (.inl (by omega)),hl];omega);have f2:=(hkid 2 _ (zt e (by omega))).2.2 there (by rw[zh (.inl (by omega)),hl];omega);have q1:=ih { M with left:=M.left-1 } body there node _ w1 f0 g1 h' hd';obtain⟨w2,g2⟩:=ok { M with left:=M.left-1 } body there node _ w1 f0 g1;have gt:=g1.mono (hm { M with left:=M.left-1 } body there node (e.kids.getD 0 0));show CN p (if _ then _ else _:Fd × Mc).2;split
   ·exact q1
   ·split
    ·rename_i c;have f1:=(hkid 1 _ (zt e (by omega))).2.2 (there++(zm p N { M with left:=M.left-1 } body there node (e.kids.getD 0 0)).1.parts) (by
      rw[List.length_append];have:more e (1:Nat)=e.bind:=by unfold more;rw[if_pos (by rfl),if_pos c5]
      rw[this];have:=c.2.2;omega)
     exact ih _ body _ node _ w2 f1 (gt.app g2) q1 (hd'.mono (hm _ _ _ _ _))
    ·exact ih _ body there node _ w2 f2 gt q1 (hd'.mono (hm _ _ _ _ _))
  split
  ·rename_i c6;have hk2:=hpp.kids2 (.inr c6);have f0:=(hkid 0 _ (zt e (by omega))).2.2 there (by rw[zh (.inl (by omega)),hl];omega);obtain⟨w2,g2⟩:=zcj (node:=node) f0 g1 w1;have q1:=h'.kid body there hd' (e.kids.getD 0 0);have gt:=g1.mono (Mono.kid body there node (e.kids.getD 0 0) { M with left:=M.left-1 });have f1:=(hkid 1 _ (zt e (by omega))).2.2 (there++[(kidM body there node (e.kids.getD 0 0) { M with left:=M.left-1 }).1]) (by
    rw[List.length_append];have:more e (1:Nat)=1:=by unfold more;rw[if_pos (by rfl),if_neg (by omega),if_pos c6]
    rw[this];simp;omega)
   exact ih _ body _ node _ w2 f1 (gt.app (Gds.one g2)) q1 (hd'.mono (Mono.kid _ _ _ _ _))
  ·exact h'
end Am.F
end
section
namespace Am.F
open Go Am
theorem CN.mark{p:List Df}{M:Mc}(h:CN p M){k:Nat}{c:Cl}(hk:M.cells[k]?=some c):CN p (M.mark k c):=⟨λd hd=>by
   rcases List.mem_or_eq_of_mem_set hd with hd|hd
   ·exact h.z d hd
   ·rw[hd];exact h.z c (List.mem_of_getElem? hk),h.a⟩
theorem zhR{p:List Df}{S:Mc->Nat->Bool × Mc}(hS:∀M k,WFM p M->Gd p M k->CN p M->Kept p M (S M k).2/\CN p (S M k).2):∀(ks:List Nat) (M:Mc),WFM p M->Gds p M ks->CN p M->CN p (zRq9 S M ks).2
 | [],M,hw,_,h=>h
 | k::ks,M,hw,hg,h=>by
  have h1:=hS M k hw (hg k List.mem_cons_self) h;show CN p (if (S M k).1=true then _ else _:Bool × Mc).2;split
  ·exact zhR hS ks _ h1.1.wf (λq hq=>(hg q (List.mem_cons_of_mem _ hq)).mono h1.1.mo) h1.2
  ·exact h1.2
theorem zjG{p:List Df}(hp:zo p=true):∀n M k,WFM p M->Fo p M k->CN p M->CN p (zaM p n M k).2
 | 0,M,k,hw,_,h=>h
 | n+1,M,k,hw,hk,h=>by
  have ih:=zjG hp n;have hk0:=hk;obtain⟨c,hc,hf⟩:=hk;show CN p (match M.cells[k]? with|none=>_|some c=>_:Bool × Mc).2;rw[hc];show CN p (if c.shown=true then _ else _:Bool × Mc).2;split
  ·exact h
  ·have k2:=ziA (zhy hp 1001) (hw.mark hc) (Fo.mark hc hk0) (h.mark hc);have w2:=zcc hp (hw.mark hc) (Fo.mark hc hk0) 1001;show CN p (if _ then _ else _:Bool × Mc).2;split
   ·exact k2
   ·exact zhR (λM k hw hg h=>⟨zcI hp n M k hw hg.fo,ih M k hw hg.fo h⟩) _ _ w2.wf (zbE w2.wf k) k2
theorem cn_runS{p:List Df}(hp:zo p=true)(fuel:Nat):CN p (runS p fuel):=by
 obtain⟨hpl,hfr⟩:=zfh hp;have hfr':zp p (zn p (0:Int).toNat) [] (((zn p (0:Int).toNat).length:Int)-1):=hfr;have h0:zE p 0=0:=(zaC hp).2.1;have c1:CN p (runC p fuel):=ziB (zhy hp 1001) (wf0 p fuel) (Gds.nil p _) hfr' ⟨λd hd=>(by cases hd),λi c hi=>(by simp[mc0] at hi)⟩ ⟨⟨Int.le_refl _,by show (0:Int)<p.length;omega⟩,by show ((0:Nat):Int)=zE p 0;rw[h0];rfl,λ_=>⟨rfl,rfl⟩,λh=>by simp[mc0] at h⟩;unfold runS;split
 ·exact c1
 ·rename_i ho;exact zjG hp _ _ _ (ze8 hp fuel).wf (zfi hp fuel ho) c1
end Am.F
end
section
namespace Am.F
open Go Am
theorem ze2:∀(d:Nat) (M:Mc) (k:Nat) (w:List UInt8),PL M->z8 d M k=some w->w.length<=1024->mayP w=true
 | 0,M,k,w,_,h,_=>by cases h
 | d+1,M,k,w,hl,h,hw=>by
  cases hk:M.cells[k]? with
  | none=>
   have h:(match M.cells[k]? with|none=>none|some c=>_:Option (List UInt8))=some w:=h;rw[hk] at h;cases h
  | some c=>
   rw[zaj hk] at h;obtain⟨f1,f2,f3,f4⟩:=hl c (List.mem_of_getElem? hk)
   by_cases c0:c.done=false
   ·rw[if_pos c0] at h;cases h;exact zks
   rw[if_neg c0] at h
   by_cases c1:c.f.kind=3
   ·rw[if_pos c1] at h;cases h;exact (zc4 _).2 ⟨_,tP_fail⟩
   rw[if_neg c1] at h
   by_cases c2:c.f.kind=1
   ·rw[if_pos c2] at h;cases h;exact (zc4 _).2 ⟨_,tP_itoa f2.1 f2.2⟩
   rw[if_neg c2] at h;have fn:=f4.resolve_left c2;cases hT:zae (z8 d M) c.f.parts with
   | none=>rw[hT] at h;cases h
   | some ws=>
    rw[hT] at h;cases h;obtain⟨e1,e2⟩:=zaP _ _ hT;refine (zc4 _).2 ⟨_,tP_conP fn.1 fn.2 (by omega) (λy hy=>?_) hw⟩;obtain⟨j,hj⟩:=List.mem_iff_getElem?.1 hy;have hjl:=(List.getElem?_eq_some_iff.1 hj).1;rw[e1] at hjl;obtain⟨z,z1,z2⟩:=e2 j _ (List.getElem?_eq_getElem hjl);rw[hj] at z1;cases z1;have hyl:y.length<=1024:=by
     have hp:0<ws.length:=List.length_pos_of_mem hy;have:=zfk hy
     unfold conP at hw;rw[if_pos hp] at hw;simp only[List.length_append,List.length_cons,List.length_nil] at hw;omega
    exact ze2 d M _ y hl z2 hyl
end Am.F
end
section
namespace Am.F
open Go Am
structure NdT (p:List Df) (i:Nat) (x:Nd):Prop where
 par:x.parent<(i:Int)
 z:i=0->x.parent = -1/\x.fn=0
 pos:0<i->0<=x.parent
 fn0:0<=x.fn
 fn1:x.fn<(p.length:Int)
 args:(x.args.length:Int)=zE p x.fn
 may:∀y ∈ x.args,mayP y=true/\y.length<=1024
 res:mayP x.res=true/\x.res.length<=1024
theorem ziP{p:List Df}(hp:zo p=true){fuel:Nat}(hf:fuel<=400):((runQ p fuel).1=1101/\(runQ p fuel).2=[]/\(runS p fuel).out=true)\/((runQ p fuel).1=1102/\(runQ p fuel).2=[]) \/
  ((runQ p fuel).1=0/\(runS p fuel).out=false/\(runQ p fuel).2=(runS p fuel).calls.map (ndM (runS p fuel))/\∀c ∈ (runS p fuel).calls,zdr (runS p fuel) c):=by
 have RN:=zgY hp fuel;have hn:=RN.nu;unfold nu at hn;have lg:LG (4*fuel+1) (runS p fuel):=lg_of RN.wf RN.ac RN.pl RN.nc (by omega);have ht:=(zbQ (runS p fuel).calls (runS p fuel) lg λc hc=>(ca_of RN.wf RN.nc c hc).1).2.2;have hrq:runQ p fuel=if (runS p fuel).out=true then (1101,[]) else
  if (zZ (4*fuel+1) (runS p fuel) (runS p fuel).calls).1=true then (1102,[]) else (0,(runS p fuel).calls.map (ndM (runS p fuel))):=rfl
 by_cases ho:(runS p fuel).out=true
 ·rw[if_pos ho] at hrq;exact .inl ⟨by rw[hrq],by rw[hrq],ho⟩
 rw[if_neg ho] at hrq
 by_cases hx:(zZ (4*fuel+1) (runS p fuel) (runS p fuel).calls).1=true
 ·rw[if_pos hx] at hrq;exact .inr (.inl ⟨by rw[hrq],by rw[hrq]⟩)
 ·rw[if_neg hx] at hrq;exact .inr (.inr ⟨by rw[hrq],by simpa using ho,by rw[hrq],ht.1 (by simpa using hx)⟩)
theorem ziO{p:List Df}(hp:zo p=true){fuel:Nat}(hf:fuel<=400) :
  ((runQ p fuel).1≠0->(runQ p fuel).2=[])/\((runQ p fuel).1=0->0<(runQ p fuel).2.length)/\(runQ p fuel).2.length<=401/\∀i x,(runQ p fuel).2[i]?=some x->NdT p i x:=by
 have RN:=zgY hp fuel;have CNN:=cn_runS hp fuel;have hct:=RN.ct;unfold cnt at hct;have nil:(runQ p fuel).2=[]->(runQ p fuel).2.length<=401/\∀i x,(runQ p fuel).2[i]?=some x->NdT p i x:=λh=>by
  rw[h];exact⟨by simp,λi x hi=>by simp at hi⟩
 rcases ziP hp hf with⟨h1,h2,_⟩|⟨h1,h2⟩|⟨h1,_,h2,h3⟩
 ·exact⟨λ_=>h2,λh=>(by rw[h1] at h;cases h),nil h2⟩
 ·exact⟨λ_=>h2,λh=>(by rw[h1] at h;cases h),nil h2⟩
 ·refine⟨λh=>absurd h1 h,λ_=>?_,?_,λi x hi=>?_⟩
  ·obtain⟨r,hr,_⟩:=RN.c0;rw[h2,List.length_map];exact (List.getElem?_eq_some_iff.1 hr).1
  ·rw[h2,List.length_map];omega
  ·rw[h2,List.getElem?_map] at hi;cases hc:(runS p fuel).calls[i]? with
   | none=>rw[hc] at hi;cases hi
   | some c=>
    rw[hc] at hi;cases hi;obtain⟨⟨a1,a2⟩,a3,a4,a5⟩:=CNN.a i c hc;have hs:=h3 c (List.mem_of_getElem? hc);obtain⟨⟨ws,hws,hwl,hwa⟩,w,hw,hwl2,hwr⟩:=hs.texts;obtain⟨e1,e2⟩:=zaP _ _ hws;refine⟨?_,λh=>(a4 h).symm,λh=>(a5 h).1,a1,a2,?_,λy hy=>?_,?_⟩
    ·show c.parent<_;rcases Nat.eq_zero_or_pos i with h|h
     ·rw[(a4 h).2];omega
     ·exact (a5 h).2
    ·rw[hwa,e1];exact a3
    ·rw[hwa] at hy;obtain⟨j,hj⟩:=List.mem_iff_getElem?.1 hy;have hjl:=(List.getElem?_eq_some_iff.1 hj).1;rw[e1] at hjl;obtain⟨z,z1,z2⟩:=e2 j _ (List.getElem?_eq_getElem hjl);rw[hj] at z1;cases z1;exact⟨ze2 1024 _ _ y RN.pl z2 (hwl y hy),hwl y hy⟩
    ·rw[hwr];exact⟨ze2 1024 _ _ w RN.pl hw hwl2,hwl2⟩
end Am.F
end
section
namespace Am.F
open Go Am
section
variable {β:Type} {t:ETree} {p:List Df}
theorem NdC.staysU:zeZ NdC:=λ_ _ _ _ ⟨w,h1,h2⟩ u=>⟨w,h1,h2.un u⟩
end
end Am.F
end
