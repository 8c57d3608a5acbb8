/- A run by need of a program with a definition more;plain. -/
import Derived.Test.YtlidemdbimpkaaaDoorAmJn
set_option linter.unusedVariables false
namespace Am.F
open Go Am
theorem zjj{p:List Df}(d:Df){f:Nat}(h:f<p.length):zn (p++[d]) f=zn p f:=by
 unfold zn;rw[List.getElem?_append_left h]
def SameP(p:List Df)(Q P:Pt):Prop:=∀M b t nd a,WFM p M->zp p b t a->Gds p M t->Q M b t nd a=P M b t nd a
theorem zgo{p:List Df}{Q P:Pt}(hQ:SameP p Q P){M:Mc}{k:Nat}(hw:WFM p M)(hk:Fo p M k):zH Q M k=zH P M k:=by
 obtain⟨c,hcc,hf⟩:=hk;have hcm:=List.mem_of_getElem? hcc;have e:∀P:Pt,zH P M k=if c.done=true then (c.f,M) else if (P M c.body c.there c.node c.at_).2.out=true then ((((P M c.body c.there c.node c.at_).2.cells[k]?).map Cl.f).getD fd0,(P M c.body c.there c.node c.at_).2) else ((P M c.body c.there c.node c.at_).1,(P M c.body c.there c.node c.at_).2.put k (P M c.body c.there c.node c.at_).1):=λP=>by
  unfold zH;rw[hcc]
 rw[e Q,e P]
 by_cases hd:c.done=true
 ·rw[if_pos hd,if_pos hd]
 ·rw[if_neg hd,if_neg hd,hQ M c.body c.there c.node c.at_ hw (hf (by simpa using hd)) (hw.cell c hcm).1]
theorem zgG{p:List Df}(d:Df){Q P:Pt}(hQ:SameP p Q P){M:Mc}{fn parent:Int}{args:List Nat}(hw:WFM p M)(hg:Gds p M args)(hlt:fn.toNat<p.length)(hf:zp p (zn p fn.toNat) args (((zn p fn.toNat).length:Int)-1)):callM (p++[d]) Q M fn parent args=callM p P M fn parent args:=by
 have h1:=hQ (M.call fn parent args) (zn p fn.toNat) args (M.calls.length:Int) _ (hw.call' fn parent hg) hf (hg.mono (Mono.call M fn parent args));unfold callM;rw[zjj d hlt];dsimp only;rw[h1]
theorem prim_app{p:List Df}{Q P:Pt}(hQ:SameP p Q P)(hW:WfP p P)(hm:zev P){M:Mc}{body:List Ex}{there:List Nat}{node:Int}{e:Ex}(hw:WFM p M)(hg:Gds p M there)(f0:zp p body there (e.kids.getD 0 0))(f1:zp p body there (e.kids.getD 1 0)):zbc Q M body there node e=zbc P M body there node e:=by
 have h1:=hQ M body there node _ hw f0 hg;have h2:=hQ (P M body there node (e.kids.getD 0 0)).2 body there node _ (hW M body there node _ hw f0 hg).1 f1 (hg.mono (hm M body there node (e.kids.getD 0 0)));unfold zbc;dsimp only;rw[h1,h2]
set_option maxHeartbeats 2000000 in
theorem zfe{p:List Df}(hp:zo p=true)(d:Df):∀N,SameP p (zm (p++[d]) N) (zm p N)
 | 0=>λM _ _ _ _ _ _ _=>rfl
 | N+1=>λM body there node a hw hf hg=>by
  have ih:=zfe hp d N;have ok:=zbi hp N;have hm:=Mono.part p N;obtain⟨e,l,he,hl8,hpp,hl,h0,hmem,hbd,hkid⟩:=hf.at_;have m1:Mono M { M with left:=M.left-1 }:=Mono.left M _ _;have w1:WFM p { M with left:=M.left-1 }:=hw.left _ _;have g1:=hg.mono m1;have hk3:=hpp.kids
  by_cases ho:M.out=true
  ·have f:∀q,zm q (N+1) M body there node a=(fd0,M):=λq=>by
    show (if M.out=true then _ else _:Fd × Mc)=_;rw[if_pos ho]
   rw[f,f]
  by_cases hz:M.left=0
  ·have f:∀q,zm q (N+1) M body there node a=(fd0,{ M with out:=true }):=λq=>by
    show (if M.out=true then _ else _:Fd × Mc)=_;rw[if_neg ho];show (if M.left=0 then _ else _:Fd × Mc)=_;rw[if_pos hz]
   rw[f,f]
  have st:=zcy (p:=p) (N:=N) (there:=there) (node:=node) (by simpa using ho) hz he;have st2:=zcy (p:=p++[d]) (N:=N) (there:=there) (node:=node) (by simpa using ho) hz he;have allk:(e.kind≠5/\e.kind≠6)->∀x ∈ e.kids,zp p body there x:=λh x hx=>by
   obtain⟨q,hq⟩:=List.mem_iff_getElem?.1 hx;exact (hkid q x hq).2.2 there (by rw[zh (.inr h),hl];omega)
  by_cases c0:e.kind=0
  ·rw[if_pos c0] at st st2;rw[st,st2]
  rw[if_neg c0] at st st2
  by_cases c1:e.kind=1
  ·rw[if_pos c1] at st st2;have hn:0<=e.num/\e.num<=l-1:=by unfold zq at hpp;omega
   have hlt:e.num.toNat<there.length:=by omega
   have hmm:there.getD e.num.toNat 0 ∈ there:=by
    rw[List.getD_eq_getElem?_getD,List.getElem?_eq_getElem hlt];exact List.getElem_mem hlt
   rw[st,st2];exact zgo ih w1 (g1 _ hmm).fo
  rw[if_neg c1] at st st2
  by_cases c2:e.kind=2
  ·rw[if_pos c2] at st st2;obtain⟨w2,g2,l2⟩:=zaS (node:=node) e.kids (allk (by omega)) g1 w1;obtain⟨n0,n1,hfr⟩:=zaV hp hbd hmem c2 hpp l2;rw[st,st2];exact zgG d ih w2 g2 (by omega) hfr
  rw[if_neg c2] at st st2
  by_cases c3:e.kind=3
  ·rw[if_pos c3] at st st2;rw[st,st2]
  rw[if_neg c3] at st st2
  by_cases c4:e.kind=4
  ·rw[if_pos c4] at st st2;have hk2:=hpp.kids2 (.inl c4);have f0:=(hkid 0 _ (zt e (by omega))).2.2 there (by rw[zh (.inl (by omega)),hl];omega);have f1:=(hkid 1 _ (zt e (by omega))).2.2 there (by rw[zh (.inr (by omega)),hl];omega);rw[st,st2];exact prim_app ih ok hm w1 g1 f0 f1
  rw[if_neg c4] at st st2
  by_cases c5:e.kind=5
  ·rw[if_pos c5] at st st2;have hk3':=hpp.kids3 c5;have f0:=(hkid 0 _ (zt e (by omega))).2.2 there (by rw[zh (.inl (by omega)),hl];omega);have f2:=(hkid 2 _ (zt e (by omega))).2.2 there (by rw[zh (.inl (by omega)),hl];omega);have h1:=ih { M with left:=M.left-1 } body there node (e.kids.getD 0 0) w1 f0 g1;obtain⟨w2,g2⟩:=ok { M with left:=M.left-1 } body there node _ w1 f0 g1;have gt:=g1.mono (hm { M with left:=M.left-1 } body there node (e.kids.getD 0 0));rw[st,st2];dsimp only;rw[h1]
   by_cases a1:(zm p N { M with left:=M.left-1 } body there node (e.kids.getD 0 0)).2.out=true\/(zm p N { M with left:=M.left-1 } body there node (e.kids.getD 0 0)).1.kind=3
   ·rw[if_pos a1,if_pos a1]
   rw[if_neg a1,if_neg a1]
   by_cases c:(zm p N { M with left:=M.left-1 } body there node (e.kids.getD 0 0)).1.kind=2/\(zm p N { M with left:=M.left-1 } body there node (e.kids.getD 0 0)).1.num=e.num/\((zm p N { M with left:=M.left-1 } body there node (e.kids.getD 0 0)).1.parts.length:Int)=e.bind
   ·have f1:=(hkid 1 _ (zt e (by omega))).2.2 (there++(zm p N { M with left:=M.left-1 } body there node (e.kids.getD 0 0)).1.parts) (by
     rw[List.length_append];have:more e (1:Nat)=e.bind:=by unfold more;rw[if_pos (by rfl),if_pos c5]
     rw[this];have:=c.2.2;omega)
    rw[if_pos c,if_pos c];exact ih _ body _ node _ w2 f1 (gt.app g2)
   ·rw[if_neg c,if_neg c];exact ih _ body there node _ w2 f2 gt
  rw[if_neg c5] at st st2
  by_cases c6:e.kind=6
  ·rw[if_pos c6] at st st2;have hk2:=hpp.kids2 (.inr c6);have f0:=(hkid 0 _ (zt e (by omega))).2.2 there (by rw[zh (.inl (by omega)),hl];omega);obtain⟨w2,g2⟩:=zcj (node:=node) f0 g1 w1;have gt:=g1.mono (Mono.kid body there node (e.kids.getD 0 0) { M with left:=M.left-1 });have f1:=(hkid 1 _ (zt e (by omega))).2.2 (there++[(kidM body there node (e.kids.getD 0 0) { M with left:=M.left-1 }).1]) (by
    rw[List.length_append];have:more e (1:Nat)=1:=by unfold more;rw[if_pos (by rfl),if_neg (by omega),if_pos c6]
    rw[this];simp;omega)
   rw[st,st2];exact ih _ body _ node _ w2 f1 (gt.app (Gds.one g2))
  rw[if_neg c6] at st st2;rw[st,st2]
theorem zfQ{p:List Df}{F G:Mc->Nat->Bool × Mc}(hK:∀M k,WFM p M->Gd p M k->Kept p M (F M k).2)(hF:∀M k,WFM p M->Gd p M k->G M k=F M k):∀(ks:List Nat) (M:Mc),WFM p M->Gds p M ks->zRq9 G M ks=zRq9 F M ks
 | [],M,_,_=>rfl
 | k::ks,M,hw,hg=>by
  have e:=hF M k hw (hg k List.mem_cons_self);have K:=hK M k hw (hg k List.mem_cons_self);show (if (G M k).1=true then zRq9 G (G M k).2 ks else (false,(G M k).2):Bool × Mc)=if (F M k).1=true then zRq9 F (F M k).2 ks else (false,(F M k).2)
  rw[e,zfQ hK hF ks (F M k).2 K.wf (λq hq=>(hg q (List.mem_cons_of_mem _ hq)).mono K.mo)]
theorem zhT{p:List Df}(hp:zo p=true)(d:Df):∀n M k,WFM p M->Fo p M k->zaM (p++[d]) n M k=zaM p n M k
 | 0,M,k,_,_=>rfl
 | n+1,M,k,hw,hk=>by
  have hk0:=hk;obtain⟨c,hc,_⟩:=hk;have e:∀q,zaM q (n+1) M k=if c.shown=true then (true,M) else if (zH (zm q 1001) (M.mark k c) k).2.out=true\/(zH (zm q 1001) (M.mark k c) k).1.kind=3 then (false,(zH (zm q 1001) (M.mark k c) k).2) else zRq9 (zaM q n) (zH (zm q 1001) (M.mark k c) k).2 (zdi (zH (zm q 1001) (M.mark k c) k).2 k):=λq=>by
   show (match M.cells[k]? with|none=>_|some c=>_:Bool × Mc)=_;rw[hc]
  have h1:=zgo (zfe hp d 1001) (hw.mark hc) (Fo.mark hc hk0);have k2:=zcc hp (hw.mark hc) (Fo.mark hc hk0) 1001;rw[e,e,h1];generalize zH (zm p 1001) (M.mark k c) k=r at k2 ⊢;rw[zfQ (p:=p) (F:=zaM p n) (G:=zaM (p++[d]) n) (λM k hw hg=>zcI hp n M k hw hg.fo) (λM k hw hg=>zhT hp d n M k hw hg.fo) _ _ k2.wf (zbE k2.wf k)]
theorem runQ_app{p:List Df}(hp:zo p=true)(d:Df)(fuel:Nat):runQ (p++[d]) fuel=runQ p fuel:=by
 obtain⟨hpl,hfr⟩:=zfh hp;have hfr':zp p (zn p (0:Int).toNat) [] (((zn p (0:Int).toNat).length:Int)-1):=hfr;have e1:runC (p++[d]) fuel=runC p fuel:=by
  unfold runC;rw[zgG d (fn:=0) (parent:=-1) (zfe hp d 1001) (wf0 p fuel) (Gds.nil p _) (show (0:Int).toNat<p.length from hpl) hfr']
 have R:=ze8 hp fuel;have e2:runS (p++[d]) fuel=runS p fuel:=by
  unfold runS;rw[e1]
  by_cases hc:(runC p fuel).out=true
  ·rw[if_pos hc,if_pos hc]
  ·rw[if_neg hc,if_neg hc,zhT hp d _ _ _ R.wf (zfi hp fuel hc)]
 unfold runQ;rw[e2]
theorem odd_app{p:List Df}(d:Df){e:Ex}(h:¬ Odd p e)(h0:e.kind=2->0<=e.num):¬ Odd (p++[d]) e:=by
 intro ho;obtain⟨h2,ho⟩:=ho;have hlt:e.num<(p.length:Int):=by
  rcases Int.lt_or_le e.num p.length with x|x
  ·exact x
  ·exact absurd ⟨h2,.inl x⟩ h
 have hpar:(e.kids.length:Int)=zE p e.num:=Classical.byContradiction λx=>h ⟨h2,.inr x⟩
 have:=h0 h2
 have hpo:zE (p++[d]) e.num=zE p e.num:=by unfold zE;rw[List.getElem?_append_left (by omega)]
 rcases ho with ho|ho
 ·rw[List.length_append] at ho;simp at ho;omega
 ·rw[hpo] at ho;exact ho hpar
def zd3:Df:=⟨1,[⟨1,0,0,[]⟩]⟩
theorem zg8{p:List Df}(hp:zo p=true)(h8:p.length<8):zo (p++[zd3])=true:=by
 have hp0:=hp;unfold zo at hp ⊢;rw[Bool.and_eq_true] at hp ⊢;obtain⟨h1,h2⟩:=hp;have h1:=of_decide_eq_true h1;rw[List.all_eq_true] at h2;refine⟨decide_eq_true ⟨⟨by rw[List.length_append];simp,by rw[List.length_append];simp;omega⟩,?_⟩,?_⟩
 ·have:zE (p++[zd3]) 0=zE p 0:=by unfold zE;rw[List.getElem?_append_left (by show (0:Int).toNat<_;omega)]
  rw[this];exact h1.2
 ·rw[List.all_eq_true];intro d hd;rcases List.mem_append.1 hd with hd|hd
  ·have hdi:=h2 d hd;unfold zdb at hdi ⊢;rw[Bool.and_eq_true] at hdi ⊢;refine⟨hdi.1,?_⟩;rw[List.all_eq_true];have ha:=List.all_eq_true.1 hdi.2;intro e he;have hno:¬ Odd p e:=by have:=ha e he;simpa using this
   obtain⟨lv,hlv⟩:=zaU hdi.1;obtain⟨i,hi⟩:=List.mem_iff_getElem?.1 he;have hpp:=(hlv.part i e hi).2.1;have:=odd_app zd3 hno λh2=>(hpp.call h2).1
   simpa using this
  ·rw[List.mem_singleton.1 hd];have hno:¬ Odd (p++[zd3]) ⟨1,0,0,[]⟩:=λh=>by
    have:(1:Int)=2:=h.1
    omega
   unfold zdb;rw[Bool.and_eq_true];refine⟨by decide +kernel,?_⟩;rw[List.all_eq_true];intro e he;rw[List.mem_singleton.1 he];simpa using hno
end Am.F
