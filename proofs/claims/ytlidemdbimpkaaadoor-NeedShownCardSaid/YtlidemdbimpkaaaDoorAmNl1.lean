/- A run by need: what of a cell stays;a result that was shown;plain. -/
import Derived.Test.YtlidemdbimpkaaaDoorAmJn
set_option linter.unusedVariables false
namespace Am.F
open Go Am
structure Dk (M M':Mc):Prop where
 old:∀(k:Nat) (c:Cl),M.cells[k]?=some c->∃d,M'.cells[k]?=some d/\d.shown=c.shown/\(c.done=true->d.done=true/\d.f=c.f)
 new:∀(k:Nat) (d:Cl),M'.cells[k]?=some d->M.cells.length<=k->d.shown=false
theorem Dk.len{M M':Mc}(h:Dk M M'):M.cells.length<=M'.cells.length:=by
 refine Nat.le_of_not_lt λhl=>?_
 obtain⟨d,hd,_⟩:=h.old M'.cells.length _ (List.getElem?_eq_getElem hl);exact Nat.lt_irrefl _ (List.getElem?_eq_some_iff.1 hd).1
theorem Dk.refl(M:Mc):Dk M M:=⟨λk c h=>⟨c,h,rfl,λh=>⟨h,rfl⟩⟩,λk d h hl=>absurd (List.getElem?_eq_some_iff.1 h).1 (by omega)⟩
theorem Dk.trans{a b c:Mc}(h:Dk a b)(g:Dk b c):Dk a c:=by
 refine⟨λk x hx=>?_,λk d hd hl=>?_⟩
 ·obtain⟨y,y1,y2,y3⟩:=h.old k x hx;obtain⟨z,z1,z2,z3⟩:=g.old k y y1;exact⟨z,z1,z2.trans y2,λhx=>⟨(z3 (y3 hx).1).1,(z3 (y3 hx).1).2.trans (y3 hx).2⟩⟩
 ·by_cases hb:k<b.cells.length
  ·obtain⟨z,z1,z2,_⟩:=g.old k _ (List.getElem?_eq_getElem hb);rw[hd] at z1;cases z1;rw[z2];exact h.new k _ (List.getElem?_eq_getElem hb) hl
  ·exact g.new k d hd (by omega)
theorem Dk.cells{M M':Mc}(h:M'.cells=M.cells):Dk M M':=⟨λk c hc=>⟨c,by rw[h];exact hc,rfl,λh=>⟨h,rfl⟩⟩,λk d hd hl=>absurd (List.getElem?_eq_some_iff.1 (by rw[h] at hd;exact hd)).1 (by omega)⟩
theorem Dk.app{M M':Mc}{c:Cl}(hs:c.shown=false)(h:M'.cells=M.cells++[c]):Dk M M':=by
 refine⟨λk d hd=>⟨d,?_,rfl,λh=>⟨h,rfl⟩⟩,λk d hd hl=>?_⟩
 ·rw[h,List.getElem?_append_left (List.getElem?_eq_some_iff.1 hd).1];exact hd
 ·rw[h,List.getElem?_append_right hl] at hd;have:=List.mem_of_getElem? hd
  rw[List.mem_singleton.1 this];exact hs
theorem Dk.put{M:Mc}{k:Nat}{x:Fd}(h:∀c,M.cells[k]?=some c->c.done=false):Dk M (M.put k x):=by
 unfold Mc.put;split
 ·exact Dk.refl M
 ·rename_i c hc;refine⟨λj d hd=>?_,λj d hd hl=>?_⟩
  ·by_cases hj:k=j
   ·subst hj;rw[hc] at hd;cases hd;exact⟨_,List.getElem?_set_self (List.getElem?_eq_some_iff.1 hc).1,rfl,λhh=>by rw[h c hc] at hh;cases hh⟩
   ·exact⟨d,by rw[List.getElem?_set_ne hj];exact hd,rfl,λh=>⟨h,rfl⟩⟩
  ·have:=(List.getElem?_eq_some_iff.1 hd).1
   rw[List.length_set] at this;omega
theorem Dk.kid(b:List Ex)(t:List Nat)(nd a:Int)(M:Mc):Dk M (kidM b t nd a M).2:=by
 unfold kidM;split
 ·exact Dk.refl M
 ·split
  ·exact Dk.refl M
  ·exact Dk.app (c:=cl0 b a t nd) rfl rfl
theorem Dk.kids(b:List Ex)(t:List Nat)(nd:Int):∀(as:List Int) (M:Mc),Dk M (zV b t nd as M).2
 | [],M=>Dk.refl M
 | a::as,M=>(Dk.kid b t nd a M).trans (Dk.kids b t nd as _)
theorem czA(M:Mc):Cz (λ_=>True) M:=λk c _ _=>⟨λ_ _=>trivial,λ_ _=>trivial⟩
def DkP(p:List Df)(P:Pt):Prop:=∀M b t nd a,WFM p M->zx p b t a->Gds p M t->Ac M->Dk M (P M b t nd a).2
theorem ziQ{p:List Df}{P:Pt}(hP:DkP p P)(hA:ArP p P){M:Mc}{k:Nat}(hw:WFM p M)(hk:Fo p M k)(ha:Ac M):Dk M (zH P M k).2:=by
 obtain⟨c,hcc,hf⟩:=hk;have hcm:=List.mem_of_getElem? hcc;have hkl:=(List.getElem?_eq_some_iff.1 hcc).1;unfold zH;rw[hcc];show Dk M (if c.done=true then _ else _:Fd × Mc).2;split
 ·exact Dk.refl M
 ·rename_i hd;have hd':c.done=false:=by simpa using hd
  obtain⟨V,v1,v2,v3⟩:=ha k c hcc;have h1:=hA M c.body c.there c.node c.at_ V hw (hf hd') (hw.cell c hcm).1 ha v1 v3.1;have hkk:(P M c.body c.there c.node c.at_).2.cells[k]?=some c:=by rw[h1.lo k hkl v2];exact hcc
  have h2:=hP M c.body c.there c.node c.at_ hw (hf hd') (hw.cell c hcm).1 ha;show Dk M (if _ then _ else _:Fd × Mc).2;split
  ·exact h2
  ·exact h2.trans (Dk.put λd hd=>by rw[hkk] at hd;cases hd;exact hd')
theorem ziR{p:List Df}{P:Pt}(hP:DkP p P)(hA:ArP p P){M:Mc}{fn parent:Int}{args:List Nat}(hw:WFM p M)(hg:Gds p M args)(hf:zx p (zo p fn.toNat) args (((zo p fn.toNat).length:Int)-1))(ha:Ac M):Dk M (callM p P M fn parent args).2:=by
 have cu:Cz (λj=>j<M.cells.length) M:=λk c _ hk=>⟨λq hq=>(hw.cell c (List.mem_of_getElem? hk)).1.lt q hq,λq hq=>(hw.cell c (List.mem_of_getElem? hk)).2.lt q hq⟩
 have hlk:Lk (bl (λj=>j<M.cells.length) M) (cl0 [] 0 [] 0):=⟨λq hq=>by simp[cl0] at hq,λq hq=>by simp[cl0,fd0] at hq⟩
 have a0:Ac (M.call fn parent args):=(Ar.add hw ha cu hlk).ac;have cz1:Cz (bl (λj=>j<M.cells.length) M) (M.call fn parent args):=cu.add hw (cl0 [] 0 [] 0);have h0:Dk M (M.call fn parent args):=Dk.app (c:=cl0 [] 0 [] 0) rfl rfl;have h1:=hA (M.call fn parent args) (zo p fn.toNat) args (M.calls.length:Int) _ (bl (λj=>j<M.cells.length) M) (hw.call' fn parent hg) hf (hg.mono (Mono.call M fn parent args)) a0 cz1 λq hq=>⟨hg.lt q hq,hg.lt q hq⟩
 have h2:=hP (M.call fn parent args) (zo p fn.toNat) args (M.calls.length:Int) _ (hw.call' fn parent hg) hf (hg.mono (Mono.call M fn parent args)) a0;have hcl:(M.call fn parent args).cells[M.cells.length]?=some (cl0 [] 0 [] 0):=by unfold Mc.call;simp
 have hln:(M.call fn parent args).cells.length=M.cells.length+1:=by simp[Mc.call]
 have hkk:=h1.lo M.cells.length (by omega) λx=>Nat.lt_irrefl _ x.2
 rw[hcl] at hkk;show Dk M (if _ then _ else _:Mc);split
 ·exact h0.trans h2
 ·exact (h0.trans h2).trans (Dk.put λd hd=>by rw[hkk] at hd;cases hd;rfl)
set_option maxHeartbeats 2000000 in
theorem zhN{p:List Df}(hp:zt p=true):∀N,DkP p (zm p N)
 | 0=>λM _ _ _ _ _ _ _ _=>Dk.refl M
 | N+1=>λM body there node a hw hf hg ha=>by
  have ih:=zhN hp N;have ar:=zdC hp N;have ok:=zbw hp N;have hm:=Mono.part p N;obtain⟨e,l,he,hl8,hpp,hl,h0,hmem,hbd,hkid⟩:=hf.at_;have m1:Mono M { M with left:=M.left-1 }:=Mono.left M _ _;have w1:WFM p { M with left:=M.left-1 }:=hw.left _ _;have g1:=hg.mono m1;have hk3:=hpp.kids;have ha':Ac { M with left:=M.left-1 }:=ha;have back:∀{M':Mc},Dk { M with left:=M.left-1 } M'->Dk M M':=λh=>⟨h.old,h.new⟩
  have red:∀r:Fd × Mc,zm p (N+1) M body there node a=r->Dk M r.2->Dk M (zm p (N+1) M body there node a).2:=λr e h=>by rw[e];exact h
  by_cases ho:M.out=true
  ·refine red (fd0,M) ?_ (Dk.refl M);show (if M.out=true then _ else _:Fd × Mc)=_;rw[if_pos ho]
  by_cases hz:M.left=0
  ·refine red (fd0,{ M with out:=true }) ?_ (Dk.cells rfl);show (if M.out=true then _ else _:Fd × Mc)=_;rw[if_neg ho];show (if M.left=0 then _ else _:Fd × Mc)=_;rw[if_pos hz]
  have st:=zdu (p:=p) (N:=N) (there:=there) (node:=node) (by simpa using ho) hz he;have allk:(e.kind≠5/\e.kind≠6)->∀x ∈ e.kids,zx p body there x:=λh x hx=>by
   obtain⟨q,hq⟩:=List.mem_iff_getElem?.1 hx;exact (hkid q x hq).2.2 there (by rw[zl (.inr h),hl];omega)
  by_cases c0:e.kind=0
  ·rw[if_pos c0] at st;exact red _ st (Dk.cells rfl)
  rw[if_neg c0] at st
  by_cases c1:e.kind=1
  ·rw[if_pos c1] at st;have hn:0<=e.num/\e.num<=l-1:=by unfold zE at hpp;omega
   have hlt:e.num.toNat<there.length:=by omega
   have hmm:there.getD e.num.toNat 0 ∈ there:=by
    rw[List.getD_eq_getElem?_getD,List.getElem?_eq_getElem hlt];exact List.getElem_mem hlt
   exact red _ st (back (ziQ ih ar w1 (g1 _ hmm).fo ha'))
  rw[if_neg c1] at st
  by_cases c2:e.kind=2
  ·rw[if_pos c2] at st;obtain⟨w2,g2,l2⟩:=za2 (node:=node) e.kids (allk (by omega)) g1 w1;obtain⟨_,_,hfr⟩:=zbf hp hbd hmem c2 hpp l2;have a1:=zfS (node:=node) e.kids (allk (by omega)) g1 w1 ha' (czA _) (λ_ _=>trivial);exact red _ st (back ((Dk.kids body there node e.kids _).trans (ziR ih ar w2 g2 hfr a1.ac)))
  rw[if_neg c2] at st
  by_cases c3:e.kind=3
  ·rw[if_pos c3] at st;exact red _ st (back (Dk.kids body there node e.kids _))
  rw[if_neg c3] at st
  by_cases c4:e.kind=4
  ·rw[if_pos c4] at st;have hk2:=hpp.kids2 (.inl c4);have f0:=(hkid 0 _ (zB e (by omega))).2.2 there (by rw[zl (.inl (by omega)),hl];omega);have f1:=(hkid 1 _ (zB e (by omega))).2.2 there (by rw[zl (.inr (by omega)),hl];omega);have q1:=ih { M with left:=M.left-1 } body there node _ w1 f0 g1 ha';have a1:=ar { M with left:=M.left-1 } body there node _ (λ_=>True) w1 f0 g1 ha' (czA _) (λ_ _=>trivial);obtain⟨w2,g2⟩:=ok { M with left:=M.left-1 } body there node _ w1 f0 g1;refine red _ st (back ?_);unfold zbu;show Dk _ (if _ then _ else _:Fd × Mc).2;split
   ·exact q1
   ·have q2:=q1.trans (ih _ body there node _ w2 f1 (g1.mono (hm _ _ _ _ _)) a1.ac);show Dk _ (if _ then _ else _:Fd × Mc).2;split
    ·exact q2
    ·exact q2
  rw[if_neg c4] at st
  by_cases c5:e.kind=5
  ·rw[if_pos c5] at st;have hk3':=hpp.kids3 c5;have f0:=(hkid 0 _ (zB e (by omega))).2.2 there (by rw[zl (.inl (by omega)),hl];omega);have f2:=(hkid 2 _ (zB e (by omega))).2.2 there (by rw[zl (.inl (by omega)),hl];omega);have q1:=ih { M with left:=M.left-1 } body there node _ w1 f0 g1 ha';have a1:=ar { M with left:=M.left-1 } body there node _ (λ_=>True) w1 f0 g1 ha' (czA _) (λ_ _=>trivial);obtain⟨w2,g2⟩:=ok { M with left:=M.left-1 } body there node _ w1 f0 g1;have gt:=g1.mono (hm { M with left:=M.left-1 } body there node (e.kids.getD 0 0));refine red _ st (back ?_);show Dk _ (if _ then _ else _:Fd × Mc).2;split
   ·exact q1
   ·split
    ·rename_i c;have f1:=(hkid 1 _ (zB e (by omega))).2.2 (there++(zm p N { M with left:=M.left-1 } body there node (e.kids.getD 0 0)).1.parts) (by
      rw[List.length_append];have:more e (1:Nat)=e.bind:=by unfold more;rw[if_pos (by rfl),if_pos c5]
      rw[this];have:=c.2.2;omega)
     exact q1.trans (ih _ body _ node _ w2 f1 (gt.app g2) a1.ac)
    ·exact q1.trans (ih _ body there node _ w2 f2 gt a1.ac)
  rw[if_neg c5] at st
  by_cases c6:e.kind=6
  ·rw[if_pos c6] at st;have hk2:=hpp.kids2 (.inr c6);have f0:=(hkid 0 _ (zB e (by omega))).2.2 there (by rw[zl (.inl (by omega)),hl];omega);obtain⟨w2,g2⟩:=zcM (node:=node) f0 g1 w1;have a1:=zlt (node:=node) f0 g1 w1 ha' (czA _) (λ_ _=>trivial);have gt:=g1.mono (Mono.kid body there node (e.kids.getD 0 0) { M with left:=M.left-1 });have f1:=(hkid 1 _ (zB e (by omega))).2.2 (there++[(kidM body there node (e.kids.getD 0 0) { M with left:=M.left-1 }).1]) (by
    rw[List.length_append];have:more e (1:Nat)=1:=by unfold more;rw[if_pos (by rfl),if_neg (by omega),if_pos c6]
    rw[this];simp;omega)
   exact red _ st (back ((Dk.kid body there node _ _).trans (ih _ body _ node _ w2 f1 (gt.app (Gds.one g2)) a1.ac)))
  rw[if_neg c6] at st;exact red _ st (Dk.cells rfl)
def Sh(M:Mc)(k:Nat):Prop:=∃c,M.cells[k]?=some c/\c.shown=true
def Okc(M:Mc)(c:Cl):Prop:=c.done=true/\c.f.kind≠3/\∀j ∈ c.f.parts,Sh M j
def Inv(S:Nat->Prop)(M:Mc):Prop:=∀(k:Nat) (c:Cl),M.cells[k]?=some c->c.shown=true->S k\/Okc M c
inductive Bad (M:Mc):Nat->Prop
 | here (k:Nat) (c:Cl):M.cells[k]?=some c->c.done=true->c.f.kind=3->Bad M k
 | down (k j:Nat) (c:Cl):M.cells[k]?=some c->c.done=true->c.f.kind=2->j ∈ c.f.parts->Bad M j->Bad M k
structure Sk (M M':Mc):Prop where
 old:∀(k:Nat) (c:Cl),M.cells[k]?=some c->∃d,M'.cells[k]?=some d/\(c.shown=true->d.shown=true)/\(c.done=true->d.done=true/\d.f=c.f)
theorem Sk.refl(M:Mc):Sk M M:=⟨λk c h=>⟨c,h,id,λh=>⟨h,rfl⟩⟩⟩
theorem Sk.trans{a b c:Mc}(h:Sk a b)(g:Sk b c):Sk a c:=⟨λk x hx=>by
 obtain⟨y,y1,y2,y3⟩:=h.old k x hx;obtain⟨z,z1,z2,z3⟩:=g.old k y y1;exact⟨z,z1,λq=>z2 (y2 q),λhx=>⟨(z3 (y3 hx).1).1,(z3 (y3 hx).1).2.trans (y3 hx).2⟩⟩⟩
theorem Dk.sk{M M':Mc}(h:Dk M M'):Sk M M':=⟨λk c hc=>by
 obtain⟨d,d1,d2,d3⟩:=h.old k c hc;exact⟨d,d1,λq=>by rw[d2];exact q,d3⟩⟩
theorem Sk.mark{M:Mc}{k:Nat}{c:Cl}(hk:M.cells[k]?=some c):Sk M (M.mark k c):=⟨λj d hd=>by
 by_cases hj:k=j
 ·subst hj;rw[hk] at hd;cases hd;exact⟨_,List.getElem?_set_self (List.getElem?_eq_some_iff.1 hk).1,λ_=>rfl,λh=>⟨h,rfl⟩⟩
 ·exact⟨d,by unfold Mc.mark;rw[List.getElem?_set_ne hj];exact hd,id,λh=>⟨h,rfl⟩⟩⟩
theorem Sh.sk{M M':Mc}(h:Sk M M'){k:Nat}(s:Sh M k):Sh M' k:=by
 obtain⟨c,h1,h2⟩:=s;obtain⟨d,d1,d2,_⟩:=h.old k c h1;exact⟨d,d1,d2 h2⟩
theorem Bad.sk{M M':Mc}(h:Sk M M'){k:Nat}(b:Bad M k):Bad M' k:=by
 induction b with
 | here k c h1 h2 h3=>
  obtain⟨d,d1,_,d3⟩:=h.old k c h1;exact .here k d d1 (d3 h2).1 (by rw[(d3 h2).2];exact h3)
 | down k j c h1 h2 h3 h4 _ ih=>
  obtain⟨d,d1,_,d3⟩:=h.old k c h1;exact .down k j d d1 (d3 h2).1 (by rw[(d3 h2).2];exact h3) (by rw[(d3 h2).2];exact h4) ih
theorem zjD{P:Pt}(hm:zeN P){M:Mc}{k:Nat}{c:Cl}(hk:M.cells[k]?=some c)(ho:¬ (zH P M k).2.out=true):∃d,(zH P M k).2.cells[k]?=some d/\d.done=true/\d.f=(zH P M k).1:=by
 unfold zH at ho ⊢;rw[hk] at ho ⊢
 by_cases hd:c.done=true
 ·have e:(if c.done=true then (c.f,M) else if (P M c.body c.there c.node c.at_).2.out=true then (((((P M c.body c.there c.node c.at_).2.cells[k]?).map Cl.f).getD fd0),(P M c.body c.there c.node c.at_).2) else ((P M c.body c.there c.node c.at_).1,(P M c.body c.there c.node c.at_).2.put k (P M c.body c.there c.node c.at_).1):Fd × Mc)=(c.f,M):=if_pos hd;show ∃d,(if c.done=true then (c.f,M) else _:Fd × Mc).2.cells[k]?=some d/\d.done=true/\d.f=(if c.done=true then (c.f,M) else _:Fd × Mc).1;rw[if_pos hd];exact⟨c,hk,hd,rfl⟩
 ·have hlt:k<(P M c.body c.there c.node c.at_).2.cells.length:=Nat.lt_of_lt_of_le (List.getElem?_eq_some_iff.1 hk).1 (hm M c.body c.there c.node c.at_).len;have ho:¬ (if c.done=true then (c.f,M) else if (P M c.body c.there c.node c.at_).2.out=true then (((((P M c.body c.there c.node c.at_).2.cells[k]?).map Cl.f).getD fd0),(P M c.body c.there c.node c.at_).2) else ((P M c.body c.there c.node c.at_).1,(P M c.body c.there c.node c.at_).2.put k (P M c.body c.there c.node c.at_).1):Fd × Mc).2.out=true:=ho;show ∃d,(if c.done=true then (c.f,M) else if (P M c.body c.there c.node c.at_).2.out=true then (((((P M c.body c.there c.node c.at_).2.cells[k]?).map Cl.f).getD fd0),(P M c.body c.there c.node c.at_).2) else ((P M c.body c.there c.node c.at_).1,(P M c.body c.there c.node c.at_).2.put k (P M c.body c.there c.node c.at_).1):Fd × Mc).2.cells[k]?=some d/\d.done=true/\d.f=(if c.done=true then (c.f,M) else if (P M c.body c.there c.node c.at_).2.out=true then (((((P M c.body c.there c.node c.at_).2.cells[k]?).map Cl.f).getD fd0),(P M c.body c.there c.node c.at_).2) else ((P M c.body c.there c.node c.at_).1,(P M c.body c.there c.node c.at_).2.put k (P M c.body c.there c.node c.at_).1):Fd × Mc).1;rw[if_neg hd] at ho ⊢
  by_cases hq:(P M c.body c.there c.node c.at_).2.out=true
  ·rw[if_pos hq] at ho;exact absurd hq ho
  ·rw[if_neg hq];refine⟨{ (P M c.body c.there c.node c.at_).2.cells[k] with done:=true,f:=(P M c.body c.there c.node c.at_).1 },?_,rfl,rfl⟩;show ((P M c.body c.there c.node c.at_).2.put k _).cells[k]?=_;unfold Mc.put;rw[List.getElem?_eq_getElem hlt];exact List.getElem?_set_self hlt
structure ShR (S:Nat->Prop) (M:Mc) (r:Bool × Mc) (k:Nat):Prop where
 sk:Sk M r.2
 yes:r.1=true->Inv S r.2/\Sh r.2 k
 no:r.1=false->r.2.out=true\/Bad r.2 k
structure MOk (p:List Df) (n:Nat) (M:Mc):Prop where
 wf:WFM p M
 ac:Ac M
 pl:PL M
 mu:mu M<=n
theorem zf6{p:List Df}{n:Nat}{S:Nat->Prop}{F:Mc->Nat->Bool × Mc}(hK:∀M k,MOk p n M->Gd p M k->MOk p n (F M k).2/\Mono M (F M k).2)(hS:∀M k,MOk p n M->Gd p M k->Inv S M->ShR S M (F M k) k):∀(ks:List Nat) (M:Mc),MOk p n M->Gds p M ks->Inv S M ->
  Sk M (zO F M ks).2/\((zO F M ks).1=true->Inv S (zO F M ks).2/\∀k ∈ ks,Sh (zO F M ks).2 k)/\((zO F M ks).1=false->(zO F M ks).2.out=true\/∃k ∈ ks,Bad (zO F M ks).2 k)
 | [],M,_,_,hi=>⟨Sk.refl M,λ_=>⟨hi,λk hk=>by cases hk⟩,λh=>by cases h⟩
 | k::ks,M,ok,hg,hi=>by
  have r1:=hS M k ok (hg k List.mem_cons_self) hi;obtain⟨ok1,mo1⟩:=hK M k ok (hg k List.mem_cons_self);have e:zO F M (k::ks)=if (F M k).1=true then zO F (F M k).2 ks else (false,(F M k).2):=rfl
  rw[e]
  by_cases h1:(F M k).1=true
  ·rw[if_pos h1];obtain⟨i1,i2⟩:=r1.yes h1;obtain⟨s1,s2,s3⟩:=zf6 hK hS ks (F M k).2 ok1 (λq hq=>(hg q (List.mem_cons_of_mem _ hq)).mono mo1) i1;refine⟨r1.sk.trans s1,λh=>⟨(s2 h).1,λq hq=>?_⟩,λh=>?_⟩
   ·rcases List.mem_cons.1 hq with rfl|hq
    ·exact i2.sk s1
    ·exact (s2 h).2 q hq
   ·rcases s3 h with h|⟨q,hq,hb⟩
    ·exact .inl h
    ·exact .inr ⟨q,List.mem_cons_of_mem _ hq,hb⟩
  ·rw[if_neg h1];refine⟨r1.sk,λh=>Bool.noConfusion h,λ_=>?_⟩;rcases r1.no (by simpa using h1) with h|h
   ·exact .inl h
   ·exact .inr ⟨k,List.mem_cons_self,h⟩
theorem zja{p:List Df}(hp:zt p=true){B n:Nat}{M:Mc}{k:Nat}(ok:MOk p B M)(hk:Gd p M k):MOk p B (zaN p n M k).2/\Mono M (zaN p n M k).2:=by
 have K:=zdU hp n M k ok.wf hk.fo ok.pl;exact⟨⟨K.k.wf,zhd hp n M k ok.wf hk.fo ok.ac,K.pl,Nat.le_trans K.k.mu ok.mu⟩,K.k.mo⟩
theorem zia{p:List Df}(hp:zt p=true):∀(n:Nat) (S:Nat->Prop) (M:Mc) (k:Nat),MOk p n M->Fo p M k->Inv S M->ShR S M (zaN p n M k) k
 | 0,S,M,k,ok,hk,hi=>by
  obtain⟨c,hc,_⟩:=hk;have hs:c.shown=true:=by
   have:=ok.mu
   unfold mu at this;have h2:=zfm M.cells k c { c with shown:=true } hc;have e2:un1 { c with shown:=true }=0:=rfl;cases hs:c.shown with
   | true=>rfl
   | false=>
    have e1:un1 c=1:=by unfold un1;rw[hs];rfl
    omega
  exact⟨Sk.refl M,λ_=>⟨hi,c,hc,hs⟩,λh=>by cases h⟩
 | n+1,S,M,k,ok,hk,hi=>by
  have hk0:=hk;obtain⟨c,hc,hf⟩:=hk;have e:zaN p (n+1) M k=if c.shown=true then (true,M) else if (zH (zm p 1001) (M.mark k c) k).2.out=true\/(zH (zm p 1001) (M.mark k c) k).1.kind=3 then (false,(zH (zm p 1001) (M.mark k c) k).2) else zO (zaN p n) (zH (zm p 1001) (M.mark k c) k).2 (zcf (zH (zm p 1001) (M.mark k c) k).2 k):=by
   show (match M.cells[k]? with|none=>_|some c=>_:Bool × Mc)=_;rw[hc]
  rw[e]
  by_cases hs:c.shown=true
  ·rw[if_pos hs];exact⟨Sk.refl M,λ_=>⟨hi,c,hc,hs⟩,λh=>by cases h⟩
  rw[if_neg hs];have hs':c.shown=false:=by simpa using hs
  have w1:=ok.wf.mark hc;have a1:=ok.ac.mark hc;have f1:=Fo.mark hc hk0;have p1:PL (M.mark k c):=ok.pl.set k (ok.pl c (List.mem_of_getElem? hc));have k2:=zeu hp w1 f1 p1 1001;have a2:=zi5 hp w1 f1 a1 1001;have dk:=ziQ (zhN hp 1001) (zdC hp 1001) w1 f1 a1;have hmk:(M.mark k c).cells[k]?=some { c with shown:=true }:=List.getElem?_set_self (List.getElem?_eq_some_iff.1 hc).1;have hself:=zjD (Mono.part p 1001) hmk;have m2:=zdw hc hs';generalize zH (zm p 1001) (M.mark k c) k=r at k2 a2 dk hself;have sk1:Sk M r.2:=(Sk.mark hc).trans dk.sk
  by_cases ho:r.2.out=true
  ·rw[if_pos (.inl ho)];exact⟨sk1,λh=>(by cases h),λ_=>.inl ho⟩
  obtain⟨d,d1,d2,d3⟩:=hself ho
  by_cases h3:r.1.kind=3
  ·rw[if_pos (.inr h3)];exact⟨sk1,λh=>(by cases h),λ_=>.inr (.here k d d1 d2 (by rw[d3];exact h3))⟩
  rw[if_neg (λh=>h.elim ho h3)];have hpt:zcf r.2 k=d.f.parts:=by unfold zcf;rw[d1];rfl
  have hpl:=k2.pl d (List.mem_of_getElem? d1);have inv2:Inv (λj=>S j\/j=k) r.2:=λj x hx hxs=>by
   by_cases hjk:j=k
   ·exact .inl (.inr hjk)
   have hjl:j<(M.mark k c).cells.length:=Nat.lt_of_not_le λh=>by rw[dk.new j x hx h] at hxs;cases hxs
   obtain⟨y,y1,y2,y3⟩:=dk.old j _ (List.getElem?_eq_getElem hjl);rw[hx] at y1;cases y1;have hy:M.cells[j]?=some (M.mark k c).cells[j]:=by
    have h1:(M.mark k c).cells[j]?=some (M.mark k c).cells[j]:=List.getElem?_eq_getElem hjl;rw[<- h1];unfold Mc.mark;rw[List.getElem?_set_ne (λh=>hjk h.symm)]
   rcases hi j _ hy (by rw[<- y2];exact hxs) with h|⟨q1,q2,q3⟩
   ·exact .inl (.inl h)
   ·exact .inr ⟨(y3 q1).1,by rw[(y3 q1).2];exact q2,λq hq=>by rw[(y3 q1).2] at hq;exact (q3 q hq).sk sk1⟩
  have ok2:MOk p n r.2:=⟨k2.k.wf,a2,k2.pl,by have:=k2.k.mu;have:=ok.mu;omega⟩
  obtain⟨s1,s2,s3⟩:=zf6 (p:=p) (n:=n) (F:=zaN p n) (λM' k' ok' hg'=>zja hp ok' hg') (λM' k' ok' hg' hi'=>zia hp n _ M' k' ok' hg'.fo hi') (zcf r.2 k) r.2 ok2 (zce k2.k.wf k) inv2;rw[hpt] at s1 s2 s3 ⊢;obtain⟨z,z1,z2,z3⟩:=s1.old k d d1;refine⟨sk1.trans s1,λh=>?_,λh=>?_⟩
  ·obtain⟨i1,i2⟩:=s2 h;have zs:z.shown=true:=by
    obtain⟨y,y1,y2,_⟩:=dk.old k _ hmk;rw[d1] at y1;cases y1;exact z2 (by rw[y2])
   refine⟨λj x hx hxs=>?_,z,z1,zs⟩;rcases i1 j x hx hxs with (h|h)|h
   ·exact .inl h
   ·subst h;rw[z1] at hx;cases hx;exact .inr ⟨(z3 d2).1,by rw[(z3 d2).2,d3];exact h3,λq hq=>i2 q (by rw[(z3 d2).2] at hq;exact hq)⟩
   ·exact .inr h
  ·rcases s3 h with h|⟨q,hq,hb⟩
   ·exact .inl h
   ·refine .inr (.down k q z z1 (z3 d2).1 ?_ (by rw[(z3 d2).2];exact hq) hb);rw[(z3 d2).2];rcases hpl.2.2.1 with h|h
    ·exact h
    ·rw[h] at hq;cases hq
theorem zgq(x:Int):(95:UInt8) ∉ Lib.itoa x:=λhb=>by
 have no:¬ isD 95:=by unfold isD;decide
 unfold Lib.itoa at hb;split at hb
 ·rcases List.mem_cons.1 hb with h|h
  ·revert h;decide
  ·exact no (zae _ _ h)
 ·exact no (zae _ _ hb)
theorem join_no{b:UInt8}(hb:b≠32):∀{ws:List (List UInt8)},(∀w ∈ ws,b ∉ w)->b ∉ Lib.join ws [32]:=by
 intro ws
 induction ws with
 | nil=>intro _ h;simp[Lib.join] at h
 | cons w ws ih=>
  intro h hm;cases ws with
  | nil=>simp[Lib.join] at hm;exact h w List.mem_cons_self hm
  | cons v vs=>
   have e:Lib.join (w::v::vs) [32]=w++[32]++Lib.join (v::vs) [32]:=by simp[Lib.join]
   rw[e] at hm;rcases List.mem_append.1 hm with hm|hm
   ·rcases List.mem_append.1 hm with hm|hm
    ·exact h w List.mem_cons_self hm
    ·exact hb (List.mem_singleton.1 hm)
   ·exact ih (λx hx=>h x (List.mem_cons_of_mem _ hx)) hm
theorem join_has{b:UInt8}:∀{ws:List (List UInt8)} {w:List UInt8},w ∈ ws->b ∈ w->b ∈ Lib.join ws [32]:=by
 intro ws
 induction ws with
 | nil=>intro w h;cases h
 | cons x ws ih=>
  intro w h hb;cases ws with
  | nil=>
   rw[List.mem_singleton] at h;subst h;simp[Lib.join];exact hb
  | cons v vs=>
   have e:Lib.join (x::v::vs) [32]=x++[32]++Lib.join (v::vs) [32]:=by simp[Lib.join]
   rw[e];rcases List.mem_cons.1 h with rfl|h
   ·exact List.mem_append_left _ (List.mem_append_left _ hb)
   ·exact List.mem_append_right _ (ih h hb)
theorem zeZ{M:Mc}(hi:Inv (λ_=>False) M):∀(d:Nat) (k:Nat) (w:List UInt8),Sh M k->z7 d M k=some w->(95:UInt8) ∉ w
 | 0,k,w,_,h=>by cases h
 | d+1,k,w,⟨c,hk,hs⟩,h=>by
  rw[zah hk] at h;obtain⟨q1,q2,q3⟩:=(hi k c hk hs).resolve_left id;rw[if_neg (by rw[q1];simp),if_neg q2] at h
  by_cases c2:c.f.kind=1
  ·rw[if_pos c2] at h;cases h;exact zgq _
  rw[if_neg c2] at h;cases hT:zaf (z7 d M) c.f.parts with
  | none=>rw[hT] at h;cases h
  | some ws=>
   rw[hT] at h;cases h;obtain⟨e1,e2⟩:=zaQ _ _ hT;have hall:∀y ∈ ws,(95:UInt8) ∉ y:=λy hy=>by
    obtain⟨j,hj⟩:=List.mem_iff_getElem?.1 hy;have hjl:=(List.getElem?_eq_some_iff.1 hj).1;rw[e1] at hjl;obtain⟨z,z1,z2⟩:=e2 j _ (List.getElem?_eq_getElem hjl);rw[hj] at z1;cases z1;exact zeZ hi d _ y (q3 _ (List.getElem_mem hjl)) z2
   unfold conP;intro hm;rcases List.mem_append.1 hm with hm|hm
   ·rcases List.mem_append.1 hm with hm|hm
    ·revert hm;decide
    ·exact zgq _ hm
   ·split at hm
    ·rcases List.mem_append.1 hm with hm|hm
     ·rcases List.mem_append.1 hm with hm|hm
      ·revert hm;decide
      ·exact join_no (by decide) hall hm
     ·revert hm;decide
    ·cases hm
theorem text_bad{M:Mc}{k:Nat}(b:Bad M k):∀(d:Nat) (w:List UInt8),z7 d M k=some w->(33:UInt8) ∈ w:=by
 induction b with
 | here k c h1 h2 h3=>
  intro d w h;cases d with
  | zero=>cases h
  | succ d=>
   rw[zah h1,if_neg (by rw[h2];simp),if_pos h3] at h;cases h;decide
 | down k j c h1 h2 h3 h4 _ ih=>
  intro d w h;cases d with
  | zero=>cases h
  | succ d=>
   rw[zah h1,if_neg (by rw[h2];simp),if_neg (by omega),if_neg (by omega)] at h;cases hT:zaf (z7 d M) c.f.parts with
   | none=>rw[hT] at h;cases h
   | some ws=>
    rw[hT] at h;cases h;obtain⟨e1,e2⟩:=zaQ _ _ hT;obtain⟨q,hq⟩:=List.mem_iff_getElem?.1 h4;obtain⟨z,z1,z2⟩:=e2 q j hq;have hz:=List.mem_of_getElem? z1;have:=ih d z z2
    unfold conP;rw[if_pos (List.length_pos_of_mem hz)];exact List.mem_append_right _ (List.mem_append_left _ (List.mem_append_right _ (join_has hz this)))
theorem zkd{p:List Df}(hp:zt p=true){fuel:Nat}(ho:(runS p fuel).out=false){d:Nat}{w:List UInt8}(hw:z7 d (runS p fuel) 0=some w):(95:UInt8) ∉ w\/(33:UInt8) ∈ w:=by
 have R:=zhh hp fuel;obtain⟨hpl,hfr⟩:=zhD hp;have hfr':zx p (zo p (0:Int).toNat) [] (((zo p (0:Int).toNat).length:Int)-1):=hfr;have dk:Dk (mc0 fuel) (runC p fuel):=ziR (zhN hp 1001) (zdC hp 1001) (fn:=0) (parent:=-1) (wf0 p fuel) (Gds.nil p _) hfr' (ac0 fuel);have hi:Inv (λ_=>False) (runC p fuel):=λk c hk hs=>by
  rw[dk.new k c hk (Nat.zero_le _)] at hs;cases hs
 unfold runS at ho hw
 by_cases hc:(runC p fuel).out=true
 ·rw[if_pos hc] at ho;rw[hc] at ho;cases ho
 rw[if_neg hc] at ho hw;have r:=zia hp (4*fuel+1) (λ_=>False) (runC p fuel) 0 ⟨R.wf,R.ac,R.pl,R.mu⟩ (zhE hp fuel hc) hi;cases h1:(zaN p (4*fuel+1) (runC p fuel) 0).1 with
 | true=>exact .inl (zeZ (r.yes h1).1 d 0 w (r.yes h1).2 hw)
 | false=>
  rcases r.no h1 with h|h
  ·rw[h] at ho;cases ho
  ·exact .inr (text_bad h d w hw)
end Am.F
