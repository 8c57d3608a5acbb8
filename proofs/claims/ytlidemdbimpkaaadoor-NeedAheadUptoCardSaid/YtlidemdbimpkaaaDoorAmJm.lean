/- Texts that belong together: no condition. -/
import Derived.Test.YtlidemdbimpkaaaDoorAmJl
import Derived.Test.YtlidemdbimpkaaaDoorAmJf
import Derived.Test.YtlidemdbimpkaaaDoorAmJg
import Derived.Test.YtlidemdbimpkaaaDoorAmJh
open Nat (reduceAdd reduceMul)
open Int (reduceToNat)
set_option maxRecDepth 100000
set_option linter.unusedVariables false
set_option linter.unusedSimpArgs false
set_option linter.defProp false
section
namespace Am.F
open Go Am
def un1(c:Cl):Nat:=if c.shown=true then 0 else 1
def uns(cs:List Cl):Nat:=(cs.map un1).sum
def mu(M:Mc):Nat:=uns M.cells+4*M.left
theorem zjp(a b:List Cl):uns (a++b)=uns a+uns b:=by simp[uns]
theorem zjo(c:Cl):uns [c]=un1 c:=by simp[uns]
theorem un1_le(c:Cl):un1 c<=1:=by unfold un1;split<;>omega
theorem zgO:∀(cs:List Cl) (k:Nat) (c d:Cl),cs[k]?=some c->uns (cs.set k d)+un1 c=uns cs+un1 d
 | [],k,c,d,h=>by simp at h
 | x::cs,0,c,d,h=>by cases h;simp[uns];omega
 | x::cs,k+1,c,d,h=>by
  have ih:=zgO cs k c d (by simpa using h);have e1:uns ((x::cs).set (k+1) d)=un1 x+uns (cs.set k d):=by simp[uns]
  have e2:uns (x::cs)=un1 x+uns cs:=by simp[uns]
  rw[e1,e2];omega
theorem mu_put(M:Mc)(k:Nat)(x:Fd):mu (M.put k x)=mu M:=by
 unfold Mc.put;cases hk:M.cells[k]? with
 | none=>rfl
 | some c=>
  have:=zgO M.cells k c { c with done:=true,f:=x } hk
  show uns (M.cells.set k { c with done:=true,f:=x })+4*M.left=uns M.cells+4*M.left;have e:un1 { c with done:=true,f:=x }=un1 c:=rfl;omega
theorem mu_kid(b:List Ex)(t:List Nat)(nd a:Int)(M:Mc):mu (kidM b t nd a M).2<=mu M+1:=by
 unfold kidM;split
 ·show mu M<=_;omega
 ·split
  ·show mu M<=_;omega
  ·show uns (M.cells++[_])+4*M.left<=uns M.cells+4*M.left+1;rw[zjp,zjo];have:=un1_le (cl0 b a t nd);omega
theorem zkq(b:List Ex)(t:List Nat)(nd:Int):∀(as:List Int) (M:Mc),mu (zT b t nd as M).2<=mu M+as.length
 | [],M=>Nat.le_refl _
 | a::as,M=>by
  have h1:=zkq b t nd as (kidM b t nd a M).2;have h2:=mu_kid b t nd a M;show mu (zT b t nd as _).2<=_;rw[List.length_cons];omega
theorem mu_call(M:Mc)(fn parent:Int)(args:List Nat):mu (M.call fn parent args)<=mu M+1:=by
 show uns (M.cells++[_])+4*M.left<=uns M.cells+4*M.left+1;rw[zjp,zjo];have:=un1_le (cl0 [] 0 [] 0);omega
def MuP(p:List Df)(P:Pt):Prop:=∀M b t nd a,WFM p M->zp p b t a->Gds p M t->mu (P M b t nd a).2<=mu M
theorem zia{p:List Df}{P:Pt}(hP:MuP p P){M:Mc}{k:Nat}(hw:WFM p M)(hk:Gd p M k):mu (zH P M k).2<=mu M:=by
 obtain⟨c,hc,hf⟩:=hk;unfold zH;rw[hc];show mu (if c.done=true then _ else _:Fd × Mc).2<=_;split
 ·exact Nat.le_refl _
 ·have h1:=hP M c.body c.there c.node c.at_ hw hf (hw.cell c (List.mem_of_getElem? hc)).1;show mu (if _ then _ else _:Fd × Mc).2<=_;split
  ·exact h1
  ·show mu (Mc.put _ _ _)<=_;rw[mu_put];exact h1
theorem zib{p:List Df}{P:Pt}(hP:MuP p P){M:Mc}{fn parent:Int}{args:List Nat}(hw:WFM p M)(ha:Gds p M args)(hf:zp p (zn p fn.toNat) args (((zn p fn.toNat).length:Int)-1)):mu (callM p P M fn parent args).2<=mu M+1:=by
 have h1:=hP (M.call fn parent args) (zn p fn.toNat) args (M.calls.length:Int) _ (hw.call' fn parent ha) hf (ha.mono (Mono.call M fn parent args));have h2:=mu_call M fn parent args;show mu (if _ then _ else _:Mc)<=_;split
 ·omega
 ·rw[mu_put];omega
set_option maxHeartbeats 2000000 in
theorem zhj{p:List Df}(hp:zo p=true):∀N,MuP p (zm p N)
 | 0=>λM _ _ _ _ _ _ _=>Nat.le_refl _
 | N+1=>λM body there node a hw hf hg=>by
  have ih:=zhj hp N;have ok:=zbi hp N;have hm:=Mono.part p N;obtain⟨e,l,he,hl8,hpp,hl,h0,hmem,hbd,hkid⟩:=hf.at_;have m1:Mono M { M with left:=M.left-1 }:=Mono.left M _ _;have w1:WFM p { M with left:=M.left-1 }:=hw.left _ _;have g1:=hg.mono m1;have hk3:=hpp.kids;show mu (if _ then _ else _:Fd × Mc).2<=_;split
  ·exact Nat.le_refl _
  split
  ·exact Nat.le_refl _
  rename_i hl0;have hmu:mu { M with left:=M.left-1 }+4=mu M:=by unfold mu;simp only;omega
  show mu (match body[a.toNat]? with|none=>_|some e=>_:Fd × Mc).2<=_;rw[he];show mu (if _ then _ else _:Fd × Mc).2<=_;have allk:(e.kind≠5/\e.kind≠6)->∀x ∈ e.kids,zp p body there x:=λh x hx=>by
   obtain⟨q,hq⟩:=List.mem_iff_getElem?.1 hx;exact (hkid q x hq).2.2 there (by rw[zh (.inr h),hl];omega)
  have mk:=zkq body there node e.kids { M with left:=M.left-1 };split
  ·show mu { M with left:=M.left-1 }<=_;omega
  split
  ·rename_i c1;have hn:0<=e.num/\e.num<=l-1:=by unfold zq at hpp;omega
   have:e.num.toNat<there.length:=by omega
   refine Nat.le_trans (zia ih w1 ?_) (by omega);rw[List.getD_eq_getElem?_getD,List.getElem?_eq_getElem this];exact g1 _ (List.getElem_mem this)
  split
  ·rename_i c2;obtain⟨w2,g2,l2⟩:=zaS (node:=node) e.kids (allk (by omega)) g1 w1;obtain⟨_,_,hfr⟩:=zaV hp hbd hmem c2 hpp l2;exact Nat.le_trans (zib ih w2 g2 hfr) (by omega)
  split
  ·show mu (zT _ _ _ _ _).2<=_;omega
  split
  ·rename_i c4;have hk2:=hpp.kids2 (.inl c4);have f0:=(hkid 0 _ (zt e (by omega))).2.2 there (by rw[zh (.inl (by omega)),hl];omega);have f1:=(hkid 1 _ (zt e (by omega))).2.2 there (by rw[zh (.inr (by omega)),hl];omega);have q1:=ih { M with left:=M.left-1 } body there node _ w1 f0 g1;obtain⟨w2,g2⟩:=ok { M with left:=M.left-1 } body there node _ w1 f0 g1;unfold zbc;show mu (if _ then _ else _:Fd × Mc).2<=_;split
   ·exact Nat.le_trans q1 (by omega)
   ·have q2:=ih _ body there node _ w2 f1 (g1.mono (hm _ _ _ _ _));show mu (if _ then _ else _:Fd × Mc).2<=_;split
    ·exact Nat.le_trans q2 (by omega)
    ·exact Nat.le_trans q2 (by omega)
  split
  ·rename_i c5;have hk3':=hpp.kids3 c5;have f0:=(hkid 0 _ (zt e (by omega))).2.2 there (by rw[zh (.inl (by omega)),hl];omega);have f2:=(hkid 2 _ (zt e (by omega))).2.2 there (by rw[zh (.inl (by omega)),hl];omega);have q1:=ih { M with left:=M.left-1 } body there node _ w1 f0 g1;obtain⟨w2,g2⟩:=ok { M with left:=M.left-1 } body there node _ w1 f0 g1;have gt:=g1.mono (hm { M with left:=M.left-1 } body there node (e.kids.getD 0 0));show mu (if _ then _ else _:Fd × Mc).2<=_;split
   ·exact Nat.le_trans q1 (by omega)
   ·split
    ·rename_i c;have f1:=(hkid 1 _ (zt e (by omega))).2.2 (there++(zm p N { M with left:=M.left-1 } body there node (e.kids.getD 0 0)).1.parts) (by
      rw[List.length_append];have:more e (1:Nat)=e.bind:=by unfold more;rw[if_pos (by rfl),if_pos c5]
      rw[this];have:=c.2.2;omega)
     exact Nat.le_trans (ih _ body _ node _ w2 f1 (gt.app g2)) (by omega)
    ·exact Nat.le_trans (ih _ body there node _ w2 f2 gt) (by omega)
  split
  ·rename_i c6;have hk2:=hpp.kids2 (.inr c6);have f0:=(hkid 0 _ (zt e (by omega))).2.2 there (by rw[zh (.inl (by omega)),hl];omega);obtain⟨w2,g2⟩:=zcj (node:=node) f0 g1 w1;have q1:=mu_kid body there node (e.kids.getD 0 0) { M with left:=M.left-1 };have gt:=g1.mono (Mono.kid body there node (e.kids.getD 0 0) { M with left:=M.left-1 });have f1:=(hkid 1 _ (zt e (by omega))).2.2 (there++[(kidM body there node (e.kids.getD 0 0) { M with left:=M.left-1 }).1]) (by
    rw[List.length_append];have:more e (1:Nat)=1:=by unfold more;rw[if_pos (by rfl),if_neg (by omega),if_pos c6]
    rw[this];simp;omega)
   exact Nat.le_trans (ih _ body _ node _ w2 f1 (gt.app (Gds.one g2))) (by omega)
  ·show mu { M with left:=M.left-1 }<=_;omega
end Am.F
end
section
namespace Am.F
open Go Am
def Mc.mark(M:Mc)(k:Nat)(c:Cl):Mc:={ M with cells:=M.cells.set k { c with shown:=true } }
def zRq9(S:Mc->Nat->Bool × Mc):Mc->List Nat->Bool × Mc
 | M,[]=>(true,M)
 | M,k::ks=>if (S M k).1=true then zRq9 S (S M k).2 ks else (false,(S M k).2)
def zdi(M:Mc)(k:Nat):List Nat:=((M.cells[k]?).map λc=>c.f.parts).getD []
def zaM(p:List Df):Nat->Mc->Nat->Bool × Mc
 | 0,M,_=>(true,M)
 | n+1,M,k=>match M.cells[k]? with
  | none=>(true,M)
  | some c=>if c.shown=true then (true,M) else
   let r:=zH (zm p 1001) (M.mark k c) k
   if r.2.out=true\/r.1.kind=3 then (false,r.2) else zRq9 (zaM p n) r.2 (zdi r.2 k)
def Fo(p:List Df)(M:Mc)(k:Nat):Prop:=∃c,M.cells[k]?=some c/\(c.done=false->zp p c.body c.there c.at_)
theorem Gd.fo{p:List Df}{M:Mc}{k:Nat}(h:Gd p M k):Fo p M k:=let ⟨c,h1,h2⟩:=h;⟨c,h1,λ_=>h2⟩
theorem Mono.mark{M:Mc}{k:Nat}{c:Cl}(hk:M.cells[k]?=some c):Mono M (M.mark k c):=by
 refine⟨by simp[Mc.mark],λj d hd=>?_,List.prefix_refl _⟩
 by_cases hj:k=j
 ·subst hj;rw[hk] at hd;cases hd;exact⟨{ c with shown:=true },by unfold Mc.mark;rw[List.getElem?_set_self (List.getElem?_eq_some_iff.1 hk).1],rfl,rfl,rfl,rfl⟩
 ·exact⟨d,by unfold Mc.mark;rw[List.getElem?_set_ne hj];exact hd,zbh.refl d⟩
theorem WFM.mark{p:List Df}{M:Mc}(h:WFM p M){k:Nat}{c:Cl}(hk:M.cells[k]?=some c):WFM p (M.mark k c):=by
 have m:=Mono.mark hk;refine⟨λd hd=>?_,λd hd=>⟨(h.call d hd).1.mono m,by have:=(h.call d hd).2;simpa [Mc.mark] using this⟩⟩;rcases List.mem_or_eq_of_mem_set hd with hd|hd
 ·exact⟨(h.cell d hd).1.mono m,(h.cell d hd).2.mono m⟩
 ·rw[hd];exact⟨(h.cell c (List.mem_of_getElem? hk)).1.mono m,(h.cell c (List.mem_of_getElem? hk)).2.mono m⟩
theorem zd7{M:Mc}{k:Nat}{c:Cl}(hk:M.cells[k]?=some c)(hs:c.shown=false):mu (M.mark k c)+1=mu M:=by
 have:=zgO M.cells k c { c with shown:=true } hk
 have e1:un1 c=1:=by unfold un1;rw[hs];rfl
 have e2:un1 { c with shown:=true }=0:=rfl;show uns (M.cells.set k { c with shown:=true })+4*M.left+1=uns M.cells+4*M.left;omega
theorem Fo.mark{p:List Df}{M:Mc}{k:Nat}{c:Cl}(hk:M.cells[k]?=some c)(h:Fo p M k):Fo p (M.mark k c) k:=by
 obtain⟨d,h1,h2⟩:=h;rw[hk] at h1;cases h1;exact⟨{ c with shown:=true },by unfold Mc.mark;rw[List.getElem?_set_self (List.getElem?_eq_some_iff.1 hk).1],h2⟩
structure Kept (p:List Df) (M M':Mc):Prop where
 wf:WFM p M'
 mo:Mono M M'
 mu:mu M'<=mu M
 ct:cnt M'<=cnt M
theorem Kept.refl{p:List Df}{M:Mc}(h:WFM p M):Kept p M M:=⟨h,Mono.refl M,Nat.le_refl _,Nat.le_refl _⟩
theorem Kept.trans{p:List Df}{a b c:Mc}(h:Kept p a b)(g:Kept p b c):Kept p a c:=⟨g.wf,h.mo.trans g.mo,Nat.le_trans g.mu h.mu,Nat.le_trans g.ct h.ct⟩
theorem Kept.left{p:List Df}{M M':Mc}(h:Kept p M M'):M'.left<=M.left:=by
 have h1:=h.ct;have h2:=h.mo.calls.length_le;unfold cnt at h1;omega
theorem zcc{p:List Df}(hp:zo p=true){M:Mc}{k:Nat}(hw:WFM p M)(hk:Fo p M k)(N:Nat):Kept p M (zH (zm p N) M k).2:=by
 obtain⟨c,hc,hf⟩:=hk;cases hd:c.done with
 | true=>
  have:zH (zm p N) M k=(c.f,M):=by unfold zH;rw[hc];exact if_pos hd
  rw[this];exact Kept.refl hw
 | false=>
  have hg:Gd p M k:=⟨c,hc,hf hd⟩
  exact⟨(zil (zbi hp N) (Mono.part p N) hw hg).1,Mono.force (Mono.part p N) M k,zia (zhj hp N) hw hg,zgC (zdc p N) M k⟩
theorem zhO{p:List Df}{S:Mc->Nat->Bool × Mc}(hS:∀M k,WFM p M->Gd p M k->Kept p M (S M k).2):∀(ks:List Nat) (M:Mc),WFM p M->Gds p M ks->Kept p M (zRq9 S M ks).2
 | [],M,hw,_=>Kept.refl hw
 | k::ks,M,hw,hg=>by
  have h1:=hS M k hw (hg k List.mem_cons_self);show Kept p M (if (S M k).1=true then _ else _:Bool × Mc).2;split
  ·exact h1.trans (zhO hS ks _ h1.wf λq hq=>(hg q (List.mem_cons_of_mem _ hq)).mono h1.mo)
  ·exact h1
theorem zbE{p:List Df}{M:Mc}(hw:WFM p M)(k:Nat):Gds p M (zdi M k):=by
 unfold zdi;cases hk:M.cells[k]? with
 | none=>exact Gds.nil p M
 | some c=>exact (hw.cell c (List.mem_of_getElem? hk)).2
theorem zcI{p:List Df}(hp:zo p=true):∀n M k,WFM p M->Fo p M k->Kept p M (zaM p n M k).2
 | 0,M,k,hw,_=>Kept.refl hw
 | n+1,M,k,hw,hk=>by
  have ih:=zcI hp n;obtain⟨c,hc,hf⟩:=hk;show Kept p M (match M.cells[k]? with|none=>_|some c=>_:Bool × Mc).2;rw[hc];show Kept p M (if c.shown=true then _ else _:Bool × Mc).2;split
  ·exact Kept.refl hw
  ·rename_i hs;have hs':c.shown=false:=by simpa using hs
   have k1:Kept p M (M.mark k c):=⟨hw.mark hc,Mono.mark hc,by have:=zd7 hc hs';omega,Nat.le_refl _⟩
   have k2:=zcc hp (M:=M.mark k c) (k:=k) k1.wf (Fo.mark hc ⟨c,hc,hf⟩) 1001;show Kept p M (if _ then _ else _:Bool × Mc).2;split
   ·exact k1.trans k2
   ·exact (k1.trans k2).trans (zhO (λM k hw hg=>ih M k hw hg.fo) _ _ k2.wf (zbE k2.wf k))
theorem zdU{S:Mc->Nat->Bool × Mc}:∀(ks:List Nat) (M:Mc) (j:Nat) (k:Nat),ks[j]?=some k->(zRq9 S M (ks.take j)).1=true ->
  zRq9 S M (ks.take (j+1))=(if (S (zRq9 S M (ks.take j)).2 k).1=true then (true,(S (zRq9 S M (ks.take j)).2 k).2) else (false,(S (zRq9 S M (ks.take j)).2 k).2))
 | [],M,j,k,h,_=>by simp at h
 | x::ks,M,0,k,h,_=>by
  cases h;show zRq9 S M [x]=_;show (if (S M x).1=true then (true,(S M x).2) else _)=_;rfl
 | x::ks,M,j+1,k,h,ht=>by
  have h:ks[j]?=some k:=by simpa using h
  have ht:(if (S M x).1=true then zRq9 S (S M x).2 (ks.take j) else (false,(S M x).2)).1=true:=ht
  by_cases hx:(S M x).1=true
  ·rw[if_pos hx] at ht;have ih:=zdU ks (S M x).2 j k h ht;show (if (S M x).1=true then zRq9 S (S M x).2 (ks.take (j+1)) else _)=_;rw[if_pos hx,ih];have e:zRq9 S M ((x::ks).take (j+1))=zRq9 S (S M x).2 (ks.take j):=by
    show (if (S M x).1=true then zRq9 S (S M x).2 (ks.take j) else _)=_;rw[if_pos hx]
   rw[e]
  ·rw[if_neg hx] at ht;cases ht
theorem zdV{S:Mc->Nat->Bool × Mc}:∀(ks:List Nat) (M:Mc) (j:Nat),(zRq9 S M (ks.take j)).1=false->zRq9 S M ks=zRq9 S M (ks.take j)
 | ks,M,0,h=>by cases h
 | [],M,j+1,h=>by rw[List.take_nil]
 | x::ks,M,j+1,h=>by
  have h:(if (S M x).1=true then zRq9 S (S M x).2 (ks.take j) else (false,(S M x).2)).1=false:=h;show (if (S M x).1=true then zRq9 S (S M x).2 ks else (false,(S M x).2))=(if (S M x).1=true then zRq9 S (S M x).2 (ks.take j) else (false,(S M x).2))
  by_cases hx:(S M x).1=true
  ·rw[if_pos hx] at h⊢;rw[if_pos hx];exact zdV ks _ j h
  ·rw[if_neg hx,if_neg hx]
end Am.F
end
section
namespace Am.F
open Go Am
def FdOk(x:Fd):Prop:=x.parts.length<=3/\(-32768<=x.num/\x.num<=32767)/\(x.kind=2\/x.parts=[])/\(x.kind=1\/0<=x.num/\x.num<=99)
theorem zjd:FdOk fd0:=by simp[FdOk,fd0]
theorem zft:FdOk zc7:=by simp[FdOk,zc7]
def PL(M:Mc):Prop:=∀c ∈ M.cells,FdOk c.f
def PlR(x:Fd × Mc):Prop:=PL x.2/\FdOk x.1
def PlP(p:List Df)(P:Pt):Prop:=∀M b t nd a,WFM p M->zp p b t a->Gds p M t->PL M->PlR (P M b t nd a)
theorem PL.add{M:Mc}(h:PL M){c:Cl}(hc:FdOk c.f):PL (M.add c):=λd hd=>by
 rcases List.mem_append.1 hd with hd|hd
 ·exact h d hd
 ·rw[List.mem_singleton.1 hd];exact hc
theorem PL.set{M:Mc}(h:PL M)(k:Nat){c:Cl}(hc:FdOk c.f):PL { M with cells:=M.cells.set k c }:=λd hd=>by
 rcases List.mem_or_eq_of_mem_set hd with hd|hd
 ·exact h d hd
 ·rw[hd];exact hc
theorem PL.put{M:Mc}(h:PL M)(k:Nat){x:Fd}(hx:FdOk x):PL (M.put k x):=by
 unfold Mc.put;split
 ·exact h
 ·exact h.set k hx
theorem PL.kid{M:Mc}(h:PL M)(b:List Ex)(t:List Nat)(nd a:Int):PL (kidM b t nd a M).2:=by
 unfold kidM;split
 ·exact h
 ·split
  ·exact h
  ·exact h.add zjd
theorem PL.kids(b:List Ex)(t:List Nat)(nd:Int):∀(as:List Int) {M:Mc},PL M->PL (zT b t nd as M).2
 | [],M,h=>h
 | a::as,M,h=>PL.kids b t nd as (h.kid b t nd a)
theorem PL.call{M:Mc}(h:PL M)(fn parent:Int)(args:List Nat):PL (M.call fn parent args):=λd hd=>by
 rcases List.mem_append.1 hd with hd|hd
 ·exact h d hd
 ·rw[List.mem_singleton.1 hd];exact zjd
theorem PL.at{M:Mc}(h:PL M)(k:Nat):FdOk (((M.cells[k]?).map Cl.f).getD fd0):=by
 cases hk:M.cells[k]? with
 | none=>exact zjd
 | some c=>exact h c (List.mem_of_getElem? hk)
theorem zhY{p:List Df}{P:Pt}(hP:PlP p P){M:Mc}{k:Nat}(hw:WFM p M)(hk:Fo p M k)(h:PL M):PlR (zH P M k):=by
 obtain⟨c,hc,hf⟩:=hk;have hcm:=List.mem_of_getElem? hc;unfold zH;rw[hc];show PlR (if c.done=true then _ else _:Fd × Mc);split
 ·exact⟨h,h c hcm⟩
 ·rename_i hd;have h1:=hP M c.body c.there c.node c.at_ hw (hf (by simpa using hd)) (hw.cell c hcm).1 h;show PlR (if _ then _ else _:Fd × Mc);split
  ·exact⟨h1.1,h1.1.at k⟩
  ·exact⟨h1.1.put k h1.2,h1.2⟩
theorem zhZ{p:List Df}{P:Pt}(hP:PlP p P){M:Mc}{fn parent:Int}{args:List Nat}(hw:WFM p M)(ha:Gds p M args)(hf:zp p (zn p fn.toNat) args (((zn p fn.toNat).length:Int)-1))(h:PL M):PlR (callM p P M fn parent args):=by
 have h1:=hP (M.call fn parent args) (zn p fn.toNat) args (M.calls.length:Int) _ (hw.call' fn parent ha) hf (ha.mono (Mono.call M fn parent args)) (h.call fn parent args);refine⟨?_,h1.2⟩;show PL (if _ then _ else _:Mc);split
 ·exact h1.1
 ·exact h1.1.put _ h1.2
set_option maxHeartbeats 2000000 in
theorem zg9{p:List Df}(hp:zo p=true):∀N,PlP p (zm p N)
 | 0=>λM _ _ _ _ _ _ _ h=>⟨h,zjd⟩
 | N+1=>λM body there node a hw hf hg h=>by
  have ih:=zg9 hp N;have ok:=zbi hp N;have hm:=Mono.part p N;obtain⟨e,l,he,hl8,hpp,hl,h0,hmem,hbd,hkid⟩:=hf.at_;have m1:Mono M { M with left:=M.left-1 }:=Mono.left M _ _;have w1:WFM p { M with left:=M.left-1 }:=hw.left _ _;have g1:=hg.mono m1;have hk3:=hpp.kids;have h':PL { M with left:=M.left-1 }:=h;show PlR (if _ then _ else _:Fd × Mc);split
  ·exact⟨h,zjd⟩
  split
  ·exact⟨h,zjd⟩
  show PlR (match body[a.toNat]? with|none=>_|some e=>_:Fd × Mc);rw[he];show PlR (if _ then _ else _:Fd × Mc);have allk:(e.kind≠5/\e.kind≠6)->∀x ∈ e.kids,zp p body there x:=λh x hx=>by
   obtain⟨q,hq⟩:=List.mem_iff_getElem?.1 hx;exact (hkid q x hq).2.2 there (by rw[zh (.inr h),hl];omega)
  split
  ·rename_i c0;have hn:-32768<=e.num/\e.num<=32767:=by unfold zq at hpp;omega
   exact⟨h',by simp,hn,.inr rfl,.inl rfl⟩
  split
  ·rename_i c1;have hn:0<=e.num/\e.num<=l-1:=by unfold zq at hpp;omega
   have:e.num.toNat<there.length:=by omega
   refine zhY ih w1 (Gd.fo ?_) h';rw[List.getD_eq_getElem?_getD,List.getElem?_eq_getElem this];exact g1 _ (List.getElem_mem this)
  split
  ·rename_i c2;obtain⟨w2,g2,l2⟩:=zaS (node:=node) e.kids (allk (by omega)) g1 w1;obtain⟨_,_,hfr⟩:=zaV hp hbd hmem c2 hpp l2;exact zhZ ih w2 g2 hfr (PL.kids body there node e.kids h')
  split
  ·obtain⟨w2,g2,l2⟩:=zaS (node:=node) e.kids (allk (by omega)) g1 w1;have hn:-32768<=e.num/\e.num<=32767:=by unfold zq at hpp;omega
   exact⟨PL.kids body there node e.kids h',by rw[l2];exact hk3,hn,.inl rfl,.inr (show 0<=e.num/\e.num<=99 by unfold zq at hpp;omega)⟩
  split
  ·rename_i c4;have hk2:=hpp.kids2 (.inl c4);have f0:=(hkid 0 _ (zt e (by omega))).2.2 there (by rw[zh (.inl (by omega)),hl];omega);have f1:=(hkid 1 _ (zt e (by omega))).2.2 there (by rw[zh (.inr (by omega)),hl];omega);have q1:=ih { M with left:=M.left-1 } body there node _ w1 f0 g1 h';obtain⟨w2,g2⟩:=ok { M with left:=M.left-1 } body there node _ w1 f0 g1;unfold zbc;show PlR (if _ then _ else _:Fd × Mc);split
   ·exact⟨q1.1,zft⟩
   ·have q2:=ih _ body there node _ w2 f1 (g1.mono (hm _ _ _ _ _)) q1.1;show PlR (if _ then _ else _:Fd × Mc);split
    ·exact⟨q2.1,zft⟩
    ·exact⟨q2.1,by simp,zkL _ _ _,.inr rfl,.inl rfl⟩
  split
  ·rename_i c5;have hk3':=hpp.kids3 c5;have f0:=(hkid 0 _ (zt e (by omega))).2.2 there (by rw[zh (.inl (by omega)),hl];omega);have f2:=(hkid 2 _ (zt e (by omega))).2.2 there (by rw[zh (.inl (by omega)),hl];omega);have q1:=ih { M with left:=M.left-1 } body there node _ w1 f0 g1 h';obtain⟨w2,g2⟩:=ok { M with left:=M.left-1 } body there node _ w1 f0 g1;have gt:=g1.mono (hm { M with left:=M.left-1 } body there node (e.kids.getD 0 0));show PlR (if _ then _ else _:Fd × Mc);split
   ·exact q1
   ·split
    ·rename_i c;have f1:=(hkid 1 _ (zt e (by omega))).2.2 (there++(zm p N { M with left:=M.left-1 } body there node (e.kids.getD 0 0)).1.parts) (by
      rw[List.length_append];have:more e (1:Nat)=e.bind:=by unfold more;rw[if_pos (by rfl),if_pos c5]
      rw[this];have:=c.2.2;omega)
     exact ih _ body _ node _ w2 f1 (gt.app g2) q1.1
    ·exact ih _ body there node _ w2 f2 gt q1.1
  split
  ·rename_i c6;have hk2:=hpp.kids2 (.inr c6);have f0:=(hkid 0 _ (zt e (by omega))).2.2 there (by rw[zh (.inl (by omega)),hl];omega);obtain⟨w2,g2⟩:=zcj (node:=node) f0 g1 w1;have q1:=h'.kid body there node (e.kids.getD 0 0);have gt:=g1.mono (Mono.kid body there node (e.kids.getD 0 0) { M with left:=M.left-1 });have f1:=(hkid 1 _ (zt e (by omega))).2.2 (there++[(kidM body there node (e.kids.getD 0 0) { M with left:=M.left-1 }).1]) (by
    rw[List.length_append];have:more e (1:Nat)=1:=by unfold more;rw[if_pos (by rfl),if_neg (by omega),if_pos c6]
    rw[this];simp;omega)
   exact ih _ body _ node _ w2 f1 (gt.app (Gds.one g2)) q1
  ·exact⟨h',zft⟩
structure Kpl (p:List Df) (M M':Mc):Prop where
 k:Kept p M M'
 pl:PL M'
theorem Kpl.trans{p:List Df}{a b c:Mc}(h:Kpl p a b)(g:Kpl p b c):Kpl p a c:=⟨h.k.trans g.k,g.pl⟩
theorem zgn{p:List Df}(hp:zo p=true){M:Mc}{k:Nat}(hw:WFM p M)(hk:Fo p M k)(h:PL M)(N:Nat):Kpl p M (zH (zm p N) M k).2:=⟨zcc hp hw hk N,(zhY (zg9 hp N) hw hk h).1⟩
theorem zdT{p:List Df}{S:Mc->Nat->Bool × Mc}(hS:∀M k,WFM p M->Gd p M k->PL M->Kpl p M (S M k).2):∀(ks:List Nat) (M:Mc),WFM p M->Gds p M ks->PL M->Kpl p M (zRq9 S M ks).2
 | [],M,hw,_,h=>⟨Kept.refl hw,h⟩
 | k::ks,M,hw,hg,h=>by
  have h1:=hS M k hw (hg k List.mem_cons_self) h;show Kpl p M (if (S M k).1=true then _ else _:Bool × Mc).2;split
  ·exact h1.trans (zdT hS ks _ h1.k.wf (λq hq=>(hg q (List.mem_cons_of_mem _ hq)).mono h1.k.mo) h1.pl)
  ·exact h1
theorem ze7{p:List Df}(hp:zo p=true):∀n M k,WFM p M->Fo p M k->PL M->Kpl p M (zaM p n M k).2
 | 0,M,k,hw,_,h=>⟨Kept.refl hw,h⟩
 | n+1,M,k,hw,hk,h=>by
  have ih:=ze7 hp n;have hK:=(zcI hp (n+1) M k hw hk)
  obtain⟨c,hc,hf⟩:=hk;show Kpl p M (match M.cells[k]? with|none=>_|some c=>_:Bool × Mc).2;rw[hc];show Kpl p M (if c.shown=true then _ else _:Bool × Mc).2;split
  ·exact⟨Kept.refl hw,h⟩
  ·rename_i hs;have hs':c.shown=false:=by simpa using hs
   have k1:Kpl p M (M.mark k c):=⟨⟨hw.mark hc,Mono.mark hc,by have:=zd7 hc hs';omega,Nat.le_refl _⟩,h.set k (h c (List.mem_of_getElem? hc))⟩
   have k2:=zgn hp (M:=M.mark k c) (k:=k) k1.k.wf (Fo.mark hc ⟨c,hc,hf⟩) k1.pl 1001;show Kpl p M (if _ then _ else _:Bool × Mc).2;split
   ·exact k1.trans k2
   ·exact (k1.trans k2).trans (zdT (λM k hw hg h=>ih M k hw hg.fo h) _ _ k2.k.wf (zbE k2.k.wf k) k2.pl)
end Am.F
end
section
namespace Am.F
open Go Am
section
variable {β:Type} {t:ETree} {p:List Df} {mb:Nat} {dv:AV} {g h:H} {G:Gst} {M:Mc}
def ShowW(β:Type)(t:ETree)(p:List Df)(mb:Nat)(dv:AV)(B n:Nat):Prop :=
 ∀(g h:H) (G:Gst) (M:Mc) (kc:Nat),PM p mb dv g h G M->WFM p M->PL M->cnt M<=1000->Fo p M kc->mu M<=B ->
  Sp (β:=β) (ze t stdI n (.fn 159 []) [.ptr mb 0,.ptr (G.A.getD kc 0) 0] h) λu h'=>∃g' G',Stq mb g h G g' h' G'/\PM p mb dv g' h' G' (zaM p B M kc).2/\u = .bool (zaM p B M kc).1
set_option maxHeartbeats 1000000 in
theorem j159{B m:Nat}(hp:zo p=true)(IH:ShowW β t p mb dv B m)(pm:PM p mb dv g h G M)(hw:WFM p M)(hl:PL M)(hc:cnt M<=1000)(hmu:mu M<=B){a:Nat}{c0 c1 c2 c3 c4 c5 c6 c8 c9 pv:AV}(ga:(h.get a).cells=some [c0,c1,c2,c3,c4,c5,c6,pv,c8,c9]){ks:List Nat}(hs:SlAt g pv (ptrs G.A ks))(hk3:ks.length<=3)(hg:Gds p M ks)(hm:4<=m)
  (k:K β) (R:Option β) (hk:∀g' h' G',Stq mb g h G g' h' G'->PM p mb dv g' h' G' (zRq9 (zaM p B) M ks).2->k (.bool (zRq9 (zaM p B) M ks).1) h'=R) {x2 x3 x4 x5 x6 x7 x8 x9:AV} :
  f159_J3 m (ze t stdI m) k (.ptr mb 0) (.ptr a 0) x2 x3 x4 x5 x6 x7 x8 x9 h=R:=by
 have hroom:room=68719476736:=rfl;have lw:∀kc:VK β,qLenL pv (.mk kc)=kc (.int .i64 (ks.length:Int)):=λkc=>by rw[hs.len,zC]
 have hSg:∀M k,WFM p M->Gd p M k->PL M->Kpl p M (zaM p B M k).2:=λM k hw hg h=>ze7 hp B M k hw hg.fo h
 unfold f159_J3;simp (disch:=first|omega|simp only[zD]<;>omega|assumption) only[↓zR,↓zRM,zR,zRM,reduceAdd,reduceMul,reduceToNat,zN,ga,lw];refine zaa 10 m _ _ (λi x0 x1 x2 x3 x4 x5 x6 x7 x8 x9 h'=>x0 = .ptr mb 0/\x6=pv/\x7 = .int .i64 (ks.length:Int)/\∃(j:Nat) (g':H) (G':Gst),x8 = .int .i64 (j:Int)/\j+i=ks.length/\Stq mb g h G g' h' G'/\PM p mb dv g' h' G' (zRq9 (zaM p B) M (ks.take j)).2/\(zRq9 (zaM p B) M (ks.take j)).1=true) ks.length (by omega) ?_ _ _ _ _ _ _ _ _ _ _ _
  ⟨rfl,rfl,rfl,0,g,G,rfl,by omega,pm.stp,pm,rfl⟩
 intro l i ih x0 x1 x2 x3 x4 x5 x6 x7 x8 x9 h' ⟨p0,p1,p2,j,g',G',p3,hj,st,pm',ht⟩;rw[p0,p1,p2,p3];clear p0 p1 p2 p3;cases i with
 | zero=>
  have hjk:j=ks.length:=by omega
  subst hjk;rw[List.take_length] at pm' ht;have fin:=hk g' h' G' st pm';rw[ht] at fin;simp (disch:=first|omega|simp only[zD]<;>omega|assumption) only[↓zR,↓zRM,zR,zRM,reduceAdd,reduceMul,reduceToNat,↓f159_L10,↓f159_J4];exact fin
 | succ i=>
  have hjk:j<ks.length:=by omega
  have cj:(j:Int)<(ks.length:Int):=by omega
  obtain⟨kk,hkq⟩:∃kk,ks[j]?=some kk:=⟨_,List.getElem?_eq_getElem hjk⟩
  have K1:=zdT hSg (ks.take j) M hw (λq hq=>hg q (List.mem_of_mem_take hq)) hl;have hgk:=(hg kk (List.mem_of_getElem? hkq)).mono K1.k.mo;have hld:=λkc:VK β=>((hs.ext st.eg).un pm'.un).load (kd:=.i64) (i:=(j:Int)) (by omega) (by rw[zC];omega) kc
  have hge:(ptrs G.A ks).getD j (.tup []) = .ptr (G'.A.getD kk 0) 0:=by
   rw[List.getD_eq_getElem?_getD,zbR (by omega),List.getD_eq_getElem?_getD (l:=ks),hkq];show AV.ptr (G.A.getD kk 0) 0=_;rw[zfq st.A (by rw[pm.alen];exact hg.lt kk (List.mem_of_getElem? hkq))]
  have hgd:(ptrs G.A ks).getD ((j:Int)).toNat (.tup []) = .ptr (G'.A.getD kk 0) 0:=by rw[Int.toNat_natCast];exact hge
  have W:=IH g' h' G' _ kk pm' K1.k.wf K1.pl (Nat.le_trans K1.k.ct hc) hgk.fo (Nat.le_trans K1.k.mu hmu);have htk:=zdU ks M j kk hkq ht;obtain⟨y,hy⟩:∃y,y=zaM p B (zRq9 (zaM p B) M (ks.take j)).2 kk:=⟨_,rfl⟩
  rw[<- hy] at W htk;simp (disch:=first|omega|simp only[zD]<;>omega|assumption) only[↓zR,↓zRM,zR,zRM,reduceAdd,reduceMul,reduceToNat,↓f159_L10,↓f159_J12,hld,hgd,hge];refine W _ _ ?_;intro u h2 ⟨g2,G2,s2,pm2,eu⟩;subst eu;have s3:=st.trans s2;cases hb:y.1 with
  | false=>
   rw[hb] at htk;have htk:zRq9 (zaM p B) M (ks.take (j+1))=(false,y.2):=htk;have hst:=zdV (S:=zaM p B) ks M (j+1) (by rw[htk]);rw[hst,htk] at hk;have fin:=hk g2 h2 G2 s3 pm2;simp (disch:=first|omega|simp only[zD]<;>omega|assumption) only[↓zR,↓zRM,zR,zRM,reduceAdd,reduceMul,reduceToNat];exact fin
  | true=>
   rw[hb] at htk;have htk:zRq9 (zaM p B) M (ks.take (j+1))=(true,y.2):=htk;simp (disch:=first|omega|simp only[zD]<;>omega|assumption) only[↓zR,↓zRM,zR,zRM,reduceAdd,reduceMul,reduceToNat,↓f159_J13];exact ih i (by omega) _ _ _ _ _ _ _ _ _ _ _ ⟨rfl,rfl,rfl,j+1,g2,G2,rfl,by omega,s3,by rw[htk];exact pm2,by rw[htk]⟩
end
end Am.F
end
section
namespace Am.F
open Go Am
section
variable {β:Type} {t:ETree} {p:List Df} {mb:Nat} {dv:AV} {g h:H} {G:Gst} {M:Mc}
structure SF (mb a:Nat) (dv pv:AV) (x:Fd × Mc) (d:Cl) (p:List Df) (kc:Nat) (g h:H) (G:Gst) (g3 h3:H) (G3:Gst) (cv bv tv pv':AV) (h5:H):Prop where
 eh5:(h3.push (.own 0 [.int .i64 0,.int .i64 0,.nils])).set h3.n (.own 0 [.int .i64 x.1.kind,.int .i64 x.1.num,pv])=h5
 gm3:(h3.get mb).cells=some [dv,.int .i64 (x.2.left:Int),cv,.bool x.2.out]
 gm5:(h5.get mb).cells=some [dv,.int .i64 (x.2.left:Int),cv,.bool x.2.out]
 ga5:(h5.get a).cells=some [bv,.int .i64 d.at_,tv,.int .i64 d.node,.bool d.done,.int .i64 d.f.kind,.int .i64 d.f.num,pv',.bool d.shown,.int .i64 d.size]
 gb5:(h5.get h3.n).cells=some [.int .i64 x.1.kind,.int .i64 x.1.num,pv]
 sc:pv.sc=true
 nm:mb<h3.n
 pm5:PM p mb dv (g3.push .dead) h5 G3 x.2
 s05:Stq mb g h G (g3.push .dead) h5 G3
 q7:SlAt (g3.push .dead) pv' (ptrs G3.A d.f.parts)
theorem ziM{x:Fd × Mc}{d:Cl}{kc a:Nat}{pv:AV}{g3 h3:H}{G3:Gst}(s03:Stq mb g h G g3 h3 G3)(pm3:PM p mb dv g3 h3 G3 x.2)(hdc:x.2.cells[kc]?=some d)(ha:G.A[kc]?=some a)(q0:SlAt g3 pv (ptrs G3.A x.1.parts)) :
  ∃cv bv tv pv' h5,SF mb a dv pv x d p kc g h G g3 h3 G3 cv bv tv pv' h5:=by
 have ha3:G3.A[kc]?=some a:=by
  obtain⟨rr,hrr⟩:=s03.A;rw[<- hrr,List.getElem?_append_left (List.getElem?_eq_some_iff.1 ha).1];exact ha
 obtain⟨q1,q2,q3,bv',tv',pv',q4,q5,q6,q7,q8⟩:=pm3.cell kc d a hdc ha3;have hal:=s03.lt a (List.mem_of_getElem? ha);have hsn:=s03.hn;obtain⟨pm4,s4⟩:=pm3.pushH (.own 0 [.int .i64 0,.int .i64 0,.nils]);have l4:=pm3.loc (.own 0 [.int .i64 0,.int .i64 0,.nils]);obtain⟨cv,hmb,_⟩:=pm4.m;have hmn:mb<h3.n:=by rw[<- pm3.gn];exact pm3.mlt
 refine⟨cv,bv',tv',pv',_,rfl,?_,?_,?_,?_,q0.sc,hmn,pm4.setL l4 _,(s03.trans s4).setL (i:=h3.n) (by omega) _,q7.ext s4.eg⟩
 ·rw[zc (by omega)] at hmb;rw[hmb];rfl
 ·rw[zg (by omega),hmb];rfl
 ·rw[zg (by omega),zc (by omega),q4];rfl
 ·rw[zB rfl];rfl
set_option maxHeartbeats 1000000 in
theorem GN11.w159(TN:GN11 t)(TM:GNM t)(T:GA t)(hp:zo p=true)(hlen:∀d ∈ p,d.body.length<=1000):∀B n,3100+B<=n->ShowW β t p mb dv B n:=by
 intro B
 induction B with
 | zero=>
  intro n hn g h G M kc pm hw hl hc hk hmu k R hkk;obtain⟨m,rfl⟩:∃m,n=m+1:=⟨n-1,by omega⟩
  obtain⟨c,hcc,hf⟩:=hk;have hkl:=(List.getElem?_eq_some_iff.1 hcc).1;obtain⟨a,ha,had⟩:=pm.ltA hkl;rw[had];obtain⟨r1,r2,r3,bv,tv,pv,r4,r5,r6,r7,r8⟩:=pm.cell kc c a hcc ha;have hsh:c.shown=true:=by
   cases hs:c.shown with
   | true=>rfl
   | false=>have:=zd7 hcc hs;omega
  have gah:(h.get a).cells=some [bv,.int .i64 c.at_,tv,.int .i64 c.node,.bool c.done,.int .i64 c.f.kind,.int .i64 c.f.num,pv,.bool true,.int .i64 c.size]:=by rw[r4,<- hsh];rfl
  have fin:=hkk (.bool true) h ⟨g,G,pm.stp,pm,rfl⟩;rw[TN.c159];unfold f159;simp (disch:=first|omega|simp only[zD]<;>omega|assumption) only[↓zR,↓zRM,zR,zRM,reduceAdd,reduceMul,reduceToNat,zN,gah];exact fin
 | succ B IHB=>
  intro n hn g h G M kc pm hw hl hc hk hmu k R hkk;obtain⟨m,rfl⟩:∃m,n=m+1:=⟨n-1,by omega⟩
  have hk0:=hk;obtain⟨c,hcc,hf⟩:=hk;have hkl:=(List.getElem?_eq_some_iff.1 hcc).1;obtain⟨a,ha,had⟩:=pm.ltA hkl;rw[had];obtain⟨r1,r2,r3,bv,tv,pv,r4,r5,r6,r7,r8⟩:=pm.cell kc c a hcc ha;have gah:(h.get a).cells=some [bv,.int .i64 c.at_,tv,.int .i64 c.node,.bool c.done,.int .i64 c.f.kind,.int .i64 c.f.num,pv,.bool c.shown,.int .i64 c.size]:=by rw[r4];rfl
  cases hs:c.shown with
  | true=>
   have hsm:zaM p (B+1) M kc=(true,M):=by
    show (match M.cells[kc]? with|none=>_|some c=>_:Bool × Mc)=_;rw[hcc];exact if_pos hs
   rw[hs] at gah;rw[hsm] at hkk;have fin:=hkk (.bool true) h ⟨g,G,pm.stp,pm,rfl⟩;rw[TN.c159];unfold f159;simp (disch:=first|omega|simp only[zD]<;>omega|assumption) only[↓zR,↓zRM,zR,zRM,reduceAdd,reduceMul,reduceToNat,zN,gah];exact fin
  | false=>
   have gao:zaG (h.get a)=some (0,[bv,.int .i64 c.at_,tv,.int .i64 c.node,.bool c.done,.int .i64 c.f.kind,.int .i64 c.f.num,pv,.bool false,.int .i64 c.size]):=by rw[r4,<- hs];rfl
   rw[hs] at gah;obtain⟨x,hx⟩:∃x,x=zH (zm p 1001) (M.mark kc c) kc:=⟨_,rfl⟩
   have K1:Kpl p M (M.mark kc c):=⟨⟨hw.mark hcc,Mono.mark hcc,by have:=zd7 hcc hs;omega,Nat.le_refl _⟩,hl.set kc (hl c (List.mem_of_getElem? hcc))⟩
   have mu1:=zd7 hcc hs;have fo1:=Fo.mark hcc hk0;have K2:=zgn hp K1.k.wf fo1 K1.pl 1001;rw[<- hx] at K2;obtain⟨c2,hc2,_⟩:=K1.k.mo.cell kc c hcc;obtain⟨d,hdc,_⟩:=K2.k.mo.cell kc c2 hc2;have hpa:zdi x.2 kc=d.f.parts:=by unfold zdi;rw[hdc];rfl
   have hsm:zaM p (B+1) M kc=if x.2.out=true\/x.1.kind=3 then (false,x.2) else zRq9 (zaM p B) x.2 d.f.parts:=by
    show (match M.cells[kc]? with|none=>_|some c=>_:Bool × Mc)=_;rw[hcc];show (if c.shown=true then _ else _:Bool × Mc)=_;rw[if_neg (by rw[hs];simp),<- hpa,hx]
   obtain⟨pm1,s1⟩:=pm.setC hcc ha (d:={ c with shown:=true }) (bv:=bv) (tv:=tv) (pv:=pv) r5 r6 r7 r8 r4 (zbh.refl c);have e1:zI bv tv pv { c with shown:=true }=[bv,.int .i64 c.at_,tv,.int .i64 c.node,.bool c.done,.int .i64 c.f.kind,.int .i64 c.f.num,pv,.bool true,.int .i64 c.size]:=rfl;rw[e1] at pm1 s1;have eM:({ M with cells:=M.cells.set kc { c with shown:=true } }:Mc)=M.mark kc c:=rfl;rw[eM] at pm1;obtain⟨h1,eh1⟩:∃h1,h.set a (.own 0 [bv,.int .i64 c.at_,tv,.int .i64 c.node,.bool c.done,.int .i64 c.f.kind,.int .i64 c.f.num,pv,.bool true,.int .i64 c.size])=h1:=⟨_,rfl⟩
   rw[eh1] at pm1 s1;have W:=TN.w190 (β:=β) (TN.w189 (β:=β) TM T hp hlen 1001 (m-1) (by omega)) (Mono.part p 1001) pm1 K1.k.wf (Nat.le_trans K1.k.ct hc) (by have:(M.mark kc c).left=M.left:=rfl;unfold cnt at hc;omega) fo1;rw[show m-1+1=m by omega,had,<- hx] at W;have hb8:zar [bv,.int .i64 c.at_,tv,.int .i64 c.node,.bool c.done,.int .i64 c.f.kind,.int .i64 c.f.num,pv,.bool false,.int .i64 c.size] 8 [.bool true]=[bv,.int .i64 c.at_,tv,.int .i64 c.node,.bool c.done,.int .i64 c.f.kind,.int .i64 c.f.num,pv,.bool true,.int .i64 c.size]:=rfl;have hset:[bv,.int .i64 c.at_,tv,.int .i64 c.node,.bool c.done,.int .i64 c.f.kind,.int .i64 c.f.num,pv,.bool false,.int .i64 c.size].set 8 (.bool true)=[bv,.int .i64 c.at_,tv,.int .i64 c.node,.bool c.done,.int .i64 c.f.kind,.int .i64 c.f.num,pv,.bool true,.int .i64 c.size]:=rfl;have post:∀(u:AV) (h3:H),(∃g' G',Stq mb g h1 G g' h3 G'/\PM p mb dv g' h3 G' x.2/\∃pv,u = .agg [.int .i64 x.1.kind,.int .i64 x.1.num,pv]/\SlAt g' pv (ptrs G'.A x.1.parts)) ->
     ∃pv g3 G3 cv bv tv pv' h5,u = .agg [.int .i64 x.1.kind,.int .i64 x.1.num,pv]/\SF mb a dv pv x d p kc g h G g3 h3 G3 cv bv tv pv' h5:=by
    intro u h3 ⟨g3,G3,s3,pm3,pv3,eu,q0⟩;obtain⟨cv,bv,tv,pv',h5,F⟩:=ziM (s1.trans s3) pm3 hdc ha q0;exact⟨pv3,g3,G3,cv,bv,tv,pv',h5,eu,F⟩
   have hpt:∀z:AV,zar [AV.int .i64 0,.int .i64 0,.nils] 0 [.int .i64 x.1.kind,.int .i64 x.1.num,z]=[.int .i64 x.1.kind,.int .i64 x.1.num,z]:=λz=>rfl
   rw[TN.c159];unfold f159;simp (disch:=first|omega|simp only[zD]<;>omega|assumption) only[↓zR,↓zRM,zR,zRM,reduceAdd,reduceMul,reduceToNat,zN,gah,gao,hb8,hset,eh1,↓f159_J0];refine W _ _ ?_;intro u h3 hu;refine Exists.elim (post u h3 hu) λpv3 hq=>Exists.elim hq λg3 hq=>Exists.elim hq λG3 hq=>Exists.elim hq λcv hq=>Exists.elim hq λbv3 hq=>Exists.elim hq λtv3 hq=>Exists.elim hq λpv' hq=>Exists.elim hq λh5 hq=>?_
   have eu:=hq.1;have F:=hq.2;have eh5:=F.eh5;have gm3:=F.gm3;have gm5:=F.gm5;have gb5:=F.gb5;have sc3:=F.sc;have nm:=F.nm;have pm5:=F.pm5;have s05:=F.s05;cases ho:x.2.out with
   | true=>
    rw[ho] at gm3 gm5;have fin:=hkk (.bool false) h5 ⟨_,G3,s05,by rw[hsm,if_pos (.inl ho)];exact pm5,by rw[hsm,if_pos (.inl ho)]⟩;simp (disch:=first|omega|simp only[zD]<;>omega|assumption) only[↓zR,↓zRM,zR,zRM,reduceAdd,reduceMul,reduceToNat,zN,eu,hpt,eh5,gm3,gm5,gb5];exact fin
   | false=>
    rw[ho] at gm3 gm5
    by_cases h3k:x.1.kind=3
    ·have fin:=hkk (.bool false) h5 ⟨_,G3,s05,by rw[hsm,if_pos (.inr h3k)];exact pm5,by rw[hsm,if_pos (.inr h3k)]⟩;simp (disch:=first|omega|simp only[zD]<;>omega|assumption) only[↓zR,↓zRM,zR,zRM,reduceAdd,reduceMul,reduceToNat,zN,eu,hpt,eh5,gm3,gm5,gb5,eq_true h3k];exact fin
    ·have hno:¬ (x.2.out=true\/x.1.kind=3):=by rw[ho];simp[h3k]
     have gds:Gds p x.2 d.f.parts:=by rw[<- hpa];exact zbE K2.k.wf kc
     have fin:=λy2 y3 y4 y5 y6 y7 y8 y9=>j159 (β:=β) (B:=B) (m:=m) hp (IHB m (by omega)) pm5 K2.k.wf K2.pl (Nat.le_trans K2.k.ct hc) (by have:=K2.k.mu;omega) F.ga5 F.q7 (K2.pl d (List.mem_of_getElem? hdc)).1 gds (by omega) k R (λg' h' G' st pm'=>hkk _ h' ⟨g',G',s05.trans st,by rw[hsm,if_neg hno];exact pm',by rw[hsm,if_neg hno]⟩) (x2:=y2) (x3:=y3) (x4:=y4) (x5:=y5) (x6:=y6) (x7:=y7) (x8:=y8) (x9:=y9)
     simp (disch:=first|omega|simp only[zD]<;>omega|assumption) only[↓zR,↓zRM,zR,zRM,reduceAdd,reduceMul,reduceToNat,zN,eu,hpt,eh5,gm3,gm5,gb5,eq_false h3k];exact fin _ _ _ _ _ _ _ _
end
end Am.F
end
section
namespace Am.F
open Go Am
def szAt(M:Mc)(k:Nat):Int:=((M.cells[k]?).map Cl.size).getD 0
def Mc.sz(M:Mc)(k:Nat)(c:Cl)(s:Int):Mc:={ M with cells:=M.cells.set k { c with size:=s } }
def Mc.bump(M:Mc)(k:Nat)(d:Int):Mc:=match M.cells[k]? with
 | none=>M
 | some c=>M.sz k c (min (c.size+d+1) 1025)
def zaD(S:Mc->Nat->Mc)(k:Nat)(M:Mc)(qs:List Nat):Mc:=qs.foldl (λM q=>(S M q).bump k (szAt (S M q) q)) M
def zz:Nat->Mc->Nat->Mc
 | 0,M,_=>M
 | n+1,M,k=>match M.cells[k]? with
  | none=>M
  | some c=>if 0<c.size then M
   else if c.done=false\/c.f.kind=3 then M.sz k c 1
   else if c.f.kind=1 then M.sz k c ((Lib.itoa c.f.num).length:Int)
   else if c.f.parts=[] then M.sz k c ((conP c.f.num []).length:Int)
   else zaD (zz n) k (M.sz k c ((conP c.f.num []).length+1:Int)) c.f.parts
theorem zhn(S:Mc->Nat->Mc)(k:Nat)(M:Mc)(qs:List Nat)(q:Nat):zaD S k M (qs++[q])=(S (zaD S k M qs) q).bump k (szAt (S (zaD S k M qs) q) q):=by
 unfold zaD;rw[List.foldl_append];rfl
def zs(cs:List Cl):Nat:=(cs.map λc=>if 0<c.size then 0 else 1).sum
theorem zs_le:∀(cs ds:List Cl),ds.length=cs.length->(∀(j:Nat) (c:Cl),cs[j]?=some c->∃d,ds[j]?=some d/\(0<c.size->0<d.size))->zs ds<=zs cs
 | [],[],_,_=>Nat.le_refl _
 | [],_::_,h,_=>by simp at h
 | c::cs,[],h,_=>by simp at h
 | c::cs,d::ds,h,H=>by
  have ih:=zs_le cs ds (by simpa using h) λj x hj=>by simpa using H (j+1) x (by simpa using hj)
  obtain⟨d',h1,h2⟩:=H 0 c rfl;cases h1;have e1:zs (d::ds)=(if 0<d.size then 0 else 1)+zs ds:=by simp[zs]
  have e2:zs (c::cs)=(if 0<c.size then 0 else 1)+zs cs:=by simp[zs]
  rw[e1,e2]
  by_cases hc:0<c.size
  ·rw[if_pos hc,if_pos (h2 hc)];omega
  ·rw[if_neg hc];split<;>omega
theorem zfI:∀(cs:List Cl) (k:Nat) (c d:Cl),cs[k]?=some c->¬ 0<c.size->0<d.size->zs (cs.set k d)+1=zs cs
 | [],k,c,d,h,_,_=>by simp at h
 | x::cs,0,c,d,h,h1,h2=>by
  cases h;show zs (d::cs)+1=zs (x::cs);have e1:zs (d::cs)=(if 0<d.size then 0 else 1)+zs cs:=by simp[zs]
  have e2:zs (x::cs)=(if 0<x.size then 0 else 1)+zs cs:=by simp[zs]
  rw[e1,e2,if_pos h2,if_neg h1];omega
 | x::cs,k+1,c,d,h,h1,h2=>by
  have ih:=zfI cs k c d (by simpa using h) h1 h2;have e1:zs ((x::cs).set (k+1) d)=(if 0<x.size then 0 else 1)+zs (cs.set k d):=by simp[zs]
  have e2:zs (x::cs)=(if 0<x.size then 0 else 1)+zs cs:=by simp[zs]
  rw[e1,e2];omega
structure Lq (X:Nat->Prop) (M M':Mc):Prop where
 left:M'.left=M.left
 out:M'.out=M.out
 calls:M'.calls=M.calls
 len:M'.cells.length=M.cells.length
 cell:∀(j:Nat) (c:Cl),M.cells[j]?=some c->∃d,M'.cells[j]?=some d/\d={ c with size:=d.size }/\(0<c.size->0<d.size/\(¬ X j->d.size=c.size))/\(0<=c.size/\c.size<=1025->0<=d.size/\d.size<=1025)
theorem Lq.refl(X:Nat->Prop)(M:Mc):Lq X M M:=⟨rfl,rfl,rfl,rfl,λj c h=>⟨c,h,rfl,λh=>⟨h,λ_=>rfl⟩,λh=>h⟩⟩
theorem Lq.trans{X:Nat->Prop}{a b c:Mc}(h:Lq X a b)(g:Lq X b c):Lq X a c :=
 ⟨g.left.trans h.left,g.out.trans h.out,g.calls.trans h.calls,g.len.trans h.len,λj x hj=>by
  obtain⟨d,d1,d2,d3,d4⟩:=h.cell j x hj;obtain⟨e,e1,e2,e3,e4⟩:=g.cell j d d1;refine⟨e,e1,by rw[e2,d2],λh=>⟨(e3 (d3 h).1).1,λhx=>((e3 (d3 h).1).2 hx).trans ((d3 h).2 hx)⟩,λh=>e4 (d4 h)⟩⟩
theorem Lq.mono{X Y:Nat->Prop}{a b:Mc}(h:Lq X a b)(hx:∀j,X j->Y j):Lq Y a b :=
 ⟨h.left,h.out,h.calls,h.len,λj x hj=>by
  obtain⟨d,d1,d2,d3,d4⟩:=h.cell j x hj;exact⟨d,d1,d2,λh=>⟨(d3 h).1,λhn=>(d3 h).2 λq=>hn (hx j q)⟩,d4⟩⟩
theorem Lq.sz{X:Nat->Prop}{M:Mc}{k:Nat}{c:Cl}(hk:M.cells[k]?=some c){s:Int}(h1:0<c.size->0<s/\(¬ X k->s=c.size))(h2:0<=c.size/\c.size<=1025->0<=s/\s<=1025):Lq X M (M.sz k c s):=by
 refine⟨rfl,rfl,rfl,by simp[Mc.sz],λj d hj=>?_⟩
 by_cases hkj:k=j
 ·subst hkj;rw[hk] at hj;cases hj;exact⟨{ c with size:=s },by unfold Mc.sz;rw[List.getElem?_set_self (List.getElem?_eq_some_iff.1 hk).1],rfl,h1,h2⟩
 ·exact⟨d,by unfold Mc.sz;rw[List.getElem?_set_ne hkj];exact hj,rfl,λh=>⟨h,λ_=>rfl⟩,λh=>h⟩
theorem Lq.zs{X:Nat->Prop}{M M':Mc}(h:Lq X M M'):zs M'.cells<=zs M.cells:=zs_le _ _ h.len λj c hj=>by
 obtain⟨d,d1,_,d3,_⟩:=h.cell j c hj;exact⟨d,d1,λhc=>(d3 hc).1⟩
def Sz(M:Mc):Prop:=∀c ∈ M.cells,0<=c.size/\c.size<=1025
def Pin(M:Mc):Prop:=∀c ∈ M.cells,∀q ∈ c.f.parts,q<M.cells.length
theorem Lq.back{X:Nat->Prop}{M M':Mc}(h:Lq X M M'){d:Cl}(hd:d ∈ M'.cells):∃c ∈ M.cells,d={ c with size:=d.size }/\(0<=c.size/\c.size<=1025->0<=d.size/\d.size<=1025):=by
 obtain⟨j,hj⟩:=List.mem_iff_getElem?.1 hd;have hjl:=(List.getElem?_eq_some_iff.1 hj).1;rw[h.len] at hjl;obtain⟨e,e1,e2,_,e4⟩:=h.cell j M.cells[j] (List.getElem?_eq_getElem hjl);rw[hj] at e1;cases e1;exact⟨M.cells[j],List.getElem_mem hjl,e2,e4⟩
theorem Lq.szs{X:Nat->Prop}{M M':Mc}(h:Lq X M M')(hs:Sz M):Sz M':=λd hd=>by
 obtain⟨c,hc,_,h4⟩:=h.back hd;exact h4 (hs c hc)
theorem Lq.pin{X:Nat->Prop}{M M':Mc}(h:Lq X M M')(hs:Pin M):Pin M':=λd hd q hq=>by
 obtain⟨c,hc,e,_⟩:=h.back hd;rw[h.len];rw[e] at hq;exact hs c hc q hq
theorem Lq.pl{X:Nat->Prop}{M M':Mc}(h:Lq X M M')(hs:PL M):PL M':=λd hd=>by
 obtain⟨c,hc,e,_⟩:=h.back hd;rw[e];exact hs c hc
theorem zdf{M:Mc}(hs:Sz M)(k:Nat):0<=szAt M k/\szAt M k<=1025:=by
 unfold szAt;cases hk:M.cells[k]? with
 | none=>simp
 | some c=>exact hs c (List.mem_of_getElem? hk)
theorem Lq.bump{M:Mc}{k:Nat}(hs:Sz M){d:Int}(hd:0<=d):Lq (λj=>j=k) M (M.bump k d):=by
 unfold Mc.bump;cases hk:M.cells[k]? with
 | none=>exact Lq.refl _ M
 | some c=>
  have hc:=hs c (List.mem_of_getElem? hk);exact Lq.sz hk (λh=>⟨by omega,λhn=>absurd rfl hn⟩) λ_=>by omega
theorem zbo{x:Int}(h:-32768<=x/\x<=32767):0<(Lib.itoa x).length/\(Lib.itoa x).length<=20:=by
 refine⟨?_,zfm (by omega) (by omega)⟩;unfold Lib.itoa;split
 ·simp
 ·exact List.length_pos_iff.2 (zac _)
theorem zen{x:Int}(h:-32768<=x/\x<=32767):0<(conP x []).length/\(conP x []).length<=30:=by
 have:=zbo h
 unfold conP;simp;omega
theorem zdF{n:Nat}{S:Mc->Nat->Mc}{k:Nat}(hS:∀M q,Sz M->PL M->zs M.cells<=n->Lq (λ_=>False) M (S M q)):∀(qs:List Nat) (M:Mc),Sz M->PL M->zs M.cells<=n->Lq (λj=>j=k) M (zaD S k M qs)
 | [],M,_,_,_=>Lq.refl _ M
 | q::qs,M,h1,h2,h3=>by
  have a1:=hS M q h1 h2 h3;have a2:=Lq.bump (M:=S M q) (k:=k) (a1.szs h1) (zdf (a1.szs h1) q).1;have a3:Lq (λj=>j=k) M ((S M q).bump k (szAt (S M q) q)):=(a1.mono λj h=>h.elim).trans a2;exact a3.trans (zdF hS qs _ (a3.szs h1) (a3.pl h2) (Nat.le_trans a3.zs h3))
theorem Lq.made{M M1:Mc}{k:Nat}{c:Cl}(hk:M.cells[k]?=some c)(hc:¬ 0<c.size){s:Int}(hs:0<s/\s<=1025)(h:Lq (λj=>j=k) (M.sz k c s) M1):Lq (λ_=>False) M M1/\0<szAt M1 k:=by
 have a:=Lq.sz (X:=λj=>j=k) hk (s:=s) (λh=>absurd h hc) λ_=>by omega
 have b:=a.trans h;refine⟨⟨b.left,b.out,b.calls,b.len,λj d hj=>?_⟩,?_⟩
 ·obtain⟨e,e1,e2,e3,e4⟩:=b.cell j d hj;refine⟨e,e1,e2,λhp=>⟨(e3 hp).1,λ_=>(e3 hp).2 λhjk=>?_⟩,e4⟩;subst hjk;rw[hk] at hj;cases hj;exact hc hp
 ·obtain⟨e,e1,_,e3,_⟩:=h.cell k { c with size:=s } (by unfold Mc.sz;rw[List.getElem?_set_self (List.getElem?_eq_some_iff.1 hk).1]);unfold szAt;rw[e1];exact (e3 hs.1).1
theorem zcL:∀n M k,Sz M->PL M->zs M.cells<=n->Lq (λ_=>False) M (zz n M k)
 | 0,M,k,_,_,_=>Lq.refl _ M
 | n+1,M,k,h1,h2,h3=>by
  show Lq _ M (match M.cells[k]? with|none=>_|some c=>_:Mc);cases hk:M.cells[k]? with
  | none=>exact Lq.refl _ M
  | some c=>
   have hcm:=List.mem_of_getElem? hk;have hn:=(h2 c hcm).2.1;have i1:=zbo hn;have i2:=zen hn;show Lq _ M (if 0<c.size then _ else _:Mc);split
   ·exact Lq.refl _ M
   ·rename_i hc;split
    ·exact (Lq.made hk hc (by omega) (Lq.refl _ _)).1
    ·split
     ·exact (Lq.made hk hc (by omega) (Lq.refl _ _)).1
     ·split
      ·exact (Lq.made hk hc (by omega) (Lq.refl _ _)).1
      ·have a:=Lq.sz (X:=λj=>j=k) hk (s:=((conP c.f.num []).length+1:Int)) (λh=>absurd h hc) λ_=>⟨by omega,by omega⟩
       have hz:=zfI M.cells k c { c with size:=((conP c.f.num []).length+1:Int) } hk hc (by show (0:Int)<((conP c.f.num []).length+1:Int);omega);exact (Lq.made hk hc (s:=((conP c.f.num []).length+1:Int)) (by omega) (zdF (n:=n) (λM q a b c=>zcL n M q a b c) c.f.parts _ (a.szs h1) (a.pl h2) (by show zs (M.cells.set k _)<=n;omega))).1
end Am.F
end
section
namespace Am.F
open Go Am
section
variable {β:Type} {t:ETree} {p:List Df} {mb:Nat} {dv:AV} {g h:H} {G:Gst} {M:Mc}
def LongW(β:Type)(t:ETree)(p:List Df)(mb:Nat)(dv:AV)(B n:Nat):Prop :=
 ∀(g h:H) (G:Gst) (M:Mc) (kc:Nat),PM p mb dv g h G M->Pin M->PL M->Sz M->kc<M.cells.length->zs M.cells<=B ->
  Sp (β:=β) (ze t stdI n (.fn 191 []) [.ptr (G.A.getD kc 0) 0] h) λu h'=>Stq mb g h G g h' G/\PM p mb dv g h' G (zz B M kc)/\u = .int .i64 (szAt (zz B M kc) kc)
def clB(bv tv pv:AV)(c:Cl)(s:Int):List AV:=[bv,.int .i64 c.at_,tv,.int .i64 c.node,.bool c.done,.int .i64 c.f.kind,.int .i64 c.f.num,pv,.bool c.shown,.int .i64 s]
structure LF (mb a:Nat) (dv:AV) (p:List Df) (g h0 h2:H) (G:Gst) (M:Mc) (kc:Nat) (c:Cl) (bv tv pv:AV):Prop where
 ga:(h2.get a).cells=some [bv,.int .i64 c.at_,tv,.int .i64 c.node,.bool c.done,.int .i64 c.f.kind,.int .i64 c.f.num,pv,.bool c.shown,.int .i64 c.size]
 go:zaG (h2.get a)=some (0,[bv,.int .i64 c.at_,tv,.int .i64 c.node,.bool c.done,.int .i64 c.f.kind,.int .i64 c.f.num,pv,.bool c.shown,.int .i64 c.size])
 pvs:SlAt g pv (ptrs G.A c.f.parts)
 put:∀s,PM p mb dv g (h2.set a (.own 0 (clB bv tv pv c s))) G (M.sz kc c s)/\Stq mb g h0 G g (h2.set a (.own 0 (clB bv tv pv c s))) G/\((h2.set a (.own 0 (clB bv tv pv c s))).get a).cells=some (clB bv tv pv c s)/\zaG ((h2.set a (.own 0 (clB bv tv pv c s))).get a)=some (0,clB bv tv pv c s)
theorem zi9{h2:H}(s2:Stq mb g h G g h2 G)(pm:PM p mb dv g h2 G M){kc a:Nat}{c:Cl}(hk:M.cells[kc]?=some c)(ha:G.A[kc]?=some a):∃bv tv pv,LF mb a dv p g h h2 G M kc c bv tv pv:=by
 obtain⟨r1,r2,r3,bv,tv,pv,r4,r5,r6,r7,r8⟩:=pm.cell kc c a hk ha;refine⟨bv,tv,pv,by rw[r4];rfl,by rw[r4];rfl,r7,λs=>?_⟩;obtain⟨p1,s1⟩:=pm.setC hk ha (d:={ c with size:=s }) (bv:=bv) (tv:=tv) (pv:=pv) r5 r6 r7 r8 r4 (zbh.refl c);exact⟨p1,s2.trans s1,by rw[zB rfl];rfl,by rw[zB rfl];rfl⟩
theorem zdg{k:Nat}{c:Cl}(hk:M.cells[k]?=some c):szAt M k=c.size:=by unfold szAt;rw[hk];rfl
theorem ze3{k:Nat}{c:Cl}(hk:M.cells[k]?=some c)(s:Int):szAt (M.sz k c s) k=s:=by
 unfold szAt Mc.sz;rw[List.getElem?_set_self (List.getElem?_eq_some_iff.1 hk).1];rfl
def zeY(B:Nat)(M:Mc)(kc:Nat)(c:Cl)(ks:List Nat):Mc:=if ks=[] then M.sz kc c (c.size-1) else zaD (zz B) kc M ks
set_option maxHeartbeats 1000000 in
theorem j191{B m:Nat}(IH:LongW β t p mb dv B m)(pm:PM p mb dv g h G M)(hi:Pin M)(hl:PL M)(hz:Sz M)(hb:zs M.cells<=B){kc a:Nat}{c:Cl}(hk:M.cells[kc]?=some c)(ha:G.A[kc]?=some a)(hs0:0<c.size){pv:AV}(hs:SlAt g pv (ptrs G.A c.f.parts))(hm:4<=m)
  (k:K β) (R:Option β) (hkk:∀h',Stq mb g h G g h' G->PM p mb dv g h' G (zeY B M kc c c.f.parts)->k (.int .i64 (szAt (zeY B M kc c c.f.parts) kc)) h'=R) {x1 x2 x3 x7 x8 x9:AV} :
  (zaR 10 m<|.mk (f191_L60 (ze t stdI m) (f191_J42 (f191_J0 k)))) (.ptr a 0) x1 x2 x3 pv (.int .i64 (c.f.parts.length:Int)) (.int .i64 0) x7 x8 x9 h=R:=by
 have hroom:room=68719476736:=rfl;obtain⟨ks,hks⟩:∃ks,ks=c.f.parts:=⟨_,rfl⟩
 have hcm:=List.mem_of_getElem? hk;have hk3:ks.length<=3:=by rw[hks];exact (hl c hcm).1
 have hlt:∀q ∈ ks,q<M.cells.length:=by rw[hks];exact hi c hcm
 rw[<- hks] at hs hkk ⊢;refine zaa 10 m _ _ (λi x0 x1 x2 x3 x4 x5 x6 x7 x8 x9 h'=>x0 = .ptr a 0/\x4=pv/\x5 = .int .i64 (ks.length:Int)/\∃(j:Nat),x6 = .int .i64 (j:Int)/\j+i=ks.length/\Stq mb g h G g h' G/\PM p mb dv g h' G (zaD (zz B) kc M (ks.take j))) ks.length (by omega) ?_ _ _ _ _ _ _ _ _ _ _ _
  ⟨rfl,rfl,rfl,0,rfl,by omega,pm.stp,pm⟩
 intro l i ih x0 x1 x2 x3 x4 x5 x6 x7 x8 x9 h' ⟨p0,p1,p2,j,p3,hj,st,pm'⟩;rw[p0,p1,p2,p3];clear p0 p1 p2 p3;have L1:=zdF (n:=B) (S:=zz B) (k:=kc) (λM q a b c=>zcL B M q a b c) (ks.take j) M hz hl hb;obtain⟨cj,hcj,ecj,pcj,_⟩:=L1.cell kc c hk;have pj:=(pcj hs0).1;have efj:cj.f=c.f:=by rw[ecj]
 have rj:=(L1.szs hz) cj (List.mem_of_getElem? hcj);obtain⟨bvj,tvj,pvj,FJ⟩:=zi9 st pm' hcj ha;have gaj:=FJ.ga;have goj:=FJ.go;have lwj:∀kc:VK β,qLenL pvj (.mk kc)=kc (.int .i64 (ks.length:Int)):=λkc=>by rw[FJ.pvs.len,zC,efj,hks]
 cases i with
 | zero=>
  have hjk:j=ks.length:=by omega
  subst hjk;rw[List.take_length] at pm' hcj FJ
  by_cases h0:ks=[]
  ·have hl0:ks.length=0:=by rw[h0];rfl
   have hec:cj=c:=by
    have:zaD (zz B) kc M ks=M:=by rw[h0];rfl
    rw[this,hk] at hcj;cases hcj;rfl
   have hMM:zaD (zz B) kc M ks=M:=by rw[h0];rfl
   subst hec;rw[hMM] at FJ;obtain⟨q1,q2,q3,q4⟩:=FJ.put (cj.size-1);have haf:zeY B M kc cj ks=M.sz kc cj (cj.size-1):=if_pos h0;rw[haf,ze3 hk] at hkk;have fin:=hkk _ q2 q1;unfold clB at fin q3;obtain⟨h3,eh3⟩:∃h3,h'.set a (.own 0 [bvj,.int .i64 cj.at_,tvj,.int .i64 cj.node,.bool cj.done,.int .i64 cj.f.kind,.int .i64 cj.f.num,pvj,.bool cj.shown,.int .i64 (cj.size-1)])=h3:=⟨_,rfl⟩
   rw[eh3] at fin q3;have hb9:zar [bvj,.int .i64 cj.at_,tvj,.int .i64 cj.node,.bool cj.done,.int .i64 cj.f.kind,.int .i64 cj.f.num,pvj,.bool cj.shown,.int .i64 cj.size] 9 [.int .i64 (cj.size-1)]=[bvj,.int .i64 cj.at_,tvj,.int .i64 cj.node,.bool cj.done,.int .i64 cj.f.kind,.int .i64 cj.f.num,pvj,.bool cj.shown,.int .i64 (cj.size-1)]:=rfl;have hset:[bvj,.int .i64 cj.at_,tvj,.int .i64 cj.node,.bool cj.done,.int .i64 cj.f.kind,.int .i64 cj.f.num,pvj,.bool cj.shown,.int .i64 cj.size].set 9 (.int .i64 (cj.size-1))=[bvj,.int .i64 cj.at_,tvj,.int .i64 cj.node,.bool cj.done,.int .i64 cj.f.kind,.int .i64 cj.f.num,pvj,.bool cj.shown,.int .i64 (cj.size-1)]:=rfl;have hl0':((ks.length:Int)=0):=by omega
   simp (disch:=first|omega|simp only[zD]<;>omega|assumption) only[↓zR,↓zRM,zR,zRM,reduceAdd,reduceMul,reduceToNat,↓f191_L60,↓f191_J42,↓f191_J0,zN,gaj,goj,lwj,hb9,hset,eh3,q3,eq_true hl0'];exact fin
  ·have haf:zeY B M kc c ks=zaD (zz B) kc M ks:=if_neg h0;have hpos:=List.length_pos_iff.2 h0;rw[haf,zdg hcj] at hkk;have fin:=hkk h' st pm';have hl0':¬ ((ks.length:Int)=0):=by omega
   simp (disch:=first|omega|simp only[zD]<;>omega|assumption) only[↓zR,↓zRM,zR,zRM,reduceAdd,reduceMul,reduceToNat,↓f191_L60,↓f191_J42,↓f191_J0,zN,gaj,goj,lwj,eq_false hl0'];exact fin
 | succ i=>
  have hjk:j<ks.length:=by omega
  have cj':(j:Int)<(ks.length:Int):=by omega
  obtain⟨q,hkq⟩:∃q,ks[j]?=some q:=⟨_,List.getElem?_eq_getElem hjk⟩
  have htk:ks.take (j+1)=ks.take j++[q]:=by rw[List.take_add_one,hkq];rfl
  have hql:q<(zaD (zz B) kc M (ks.take j)).cells.length:=by rw[L1.len];exact hlt q (List.mem_of_getElem? hkq)
  have hld:=λkc:VK β=>(hs.un pm'.un).load (kd:=.i64) (i:=(j:Int)) (by omega) (by rw[zC];omega) kc
  have hge:(ptrs G.A ks).getD j (.tup []) = .ptr (G.A.getD q 0) 0:=by
   rw[List.getD_eq_getElem?_getD,zbR (by omega),List.getD_eq_getElem?_getD (l:=ks),hkq];rfl
  have hgd:(ptrs G.A ks).getD ((j:Int)).toNat (.tup []) = .ptr (G.A.getD q 0) 0:=by rw[Int.toNat_natCast];exact hge
  have W:=IH g h' G _ q pm' (L1.pin hi) (L1.pl hl) (L1.szs hz) hql (Nat.le_trans L1.zs hb);have L2:=zcL B _ q (L1.szs hz) (L1.pl hl) (Nat.le_trans L1.zs hb);have hsn:=zhn (zz B) kc M (ks.take j) q;rw[<- htk] at hsn;obtain⟨M2,hM2⟩:∃M2,M2=zz B (zaD (zz B) kc M (ks.take j)) q:=⟨_,rfl⟩
  rw[<- hM2] at W L2 hsn;obtain⟨c2,hc2,ec2,pc2,_⟩:=L2.cell kc cj hcj;have hs2:c2.size=cj.size:=(pc2 pj).2 λh=>h
  have ec2':c2=cj:=by rw[ec2,hs2]
  rw[ec2'] at hc2;have rq:=zdf (L2.szs (L1.szs hz)) q;obtain⟨d,hd⟩:∃d,d=szAt M2 q:=⟨_,rfl⟩
  rw[<- hd] at W hsn rq;have hbump:M2.bump kc d=M2.sz kc cj (min (cj.size+d+1) 1025):=by unfold Mc.bump;rw[hc2]
  rw[hbump] at hsn;have post:∀(u:AV) (h2:H),(Stq mb g h' G g h2 G/\PM p mb dv g h2 G M2/\u = .int .i64 d)->u = .int .i64 d/\∃bv tv pv,LF mb a dv p g h h2 G M2 kc cj bv tv pv:=by
   intro u h2 ⟨s2,pm2,eu⟩;exact⟨eu,zi9 (st.trans s2) pm2 hc2 ha⟩
  simp (disch:=first|omega|simp only[zD]<;>omega|assumption) only[↓zR,↓zRM,zR,zRM,reduceAdd,reduceMul,reduceToNat,↓f191_L60,↓f191_J62,hld,hgd,hge,zN,gaj];refine W _ _ ?_;intro u h2 hu;have eu:=(post u h2 hu).1;refine Exists.elim (post u h2 hu).2 λbv2 hq=>Exists.elim hq λtv2 hq=>Exists.elim hq λpv2 F=>?_
  have ga2:=F.ga;have go2:=F.go;have hb9:zar [bv2,.int .i64 cj.at_,tv2,.int .i64 cj.node,.bool cj.done,.int .i64 cj.f.kind,.int .i64 cj.f.num,pv2,.bool cj.shown,.int .i64 cj.size] 9 [.int .i64 (min (cj.size+d+1) 1025)]=[bv2,.int .i64 cj.at_,tv2,.int .i64 cj.node,.bool cj.done,.int .i64 cj.f.kind,.int .i64 cj.f.num,pv2,.bool cj.shown,.int .i64 (min (cj.size+d+1) 1025)]:=rfl;have hset:[bv2,.int .i64 cj.at_,tv2,.int .i64 cj.node,.bool cj.done,.int .i64 cj.f.kind,.int .i64 cj.f.num,pv2,.bool cj.shown,.int .i64 cj.size].set 9 (.int .i64 (min (cj.size+d+1) 1025))=[bv2,.int .i64 cj.at_,tv2,.int .i64 cj.node,.bool cj.done,.int .i64 cj.f.kind,.int .i64 cj.f.num,pv2,.bool cj.shown,.int .i64 (min (cj.size+d+1) 1025)]:=rfl;have fin:=λy0 y1 y2 y3 y4 y5=>ih i (by omega) (.ptr a 0) y0 y1 y2 pv (.int .i64 (ks.length:Int)) (.int .i64 ((j:Int)+1)) y3 y4 y5 _ ⟨rfl,rfl,rfl,j+1,rfl,by omega,(F.put (min (cj.size+d+1) 1025)).2.1,by rw[hsn];exact (F.put (min (cj.size+d+1) 1025)).1⟩
  unfold clB at fin;simp (disch:=first|omega|simp only[zD]<;>omega|assumption) only[↓zR,↓zRM,zR,zRM,reduceAdd,reduceMul,reduceToNat,↓f191_J63,eu,zN,ga2,go2,zcD,hb9,hset];exact fin _ _ _ _ _ _
end
end Am.F
end
section
namespace Am.F
open Go Am
section
variable {β:Type} {t:ETree} {p:List Df} {mb:Nat} {dv:AV} {g h:H} {G:Gst} {M:Mc}
theorem zs_pos{k:Nat}{c:Cl}(hk:M.cells[k]?=some c)(hs:¬ 0<c.size):0<zs M.cells:=by
 have:=zfI M.cells k c { c with size:=1 } hk hs (by show (0:Int)<1;omega)
 omega
set_option maxHeartbeats 1000000 in
theorem GN11.w191(TN:GN11 t)(T:GA t)(L:GI t):∀B n,10+B<=n->LongW β t p mb dv B n:=by
 intro B
 induction B with
 | zero=>
  intro n hn g h G M kc pm hi hl hz hkl hb k R hkk;obtain⟨m,rfl⟩:∃m,n=m+1:=⟨n-1,by omega⟩
  obtain⟨c,hcc⟩:∃c,M.cells[kc]?=some c:=⟨_,List.getElem?_eq_getElem hkl⟩
  obtain⟨a,ha,had⟩:=pm.ltA hkl;rw[had];obtain⟨bv,tv,pv,F⟩:=zi9 pm.stp pm hcc ha;have ga:=F.ga;have hs:0<c.size:=by
   apply Classical.byContradiction;intro hn;have:=zs_pos hcc hn
   omega
  have fin:=hkk (.int .i64 c.size) h ⟨pm.stp,pm,by show _=AV.int .i64 (szAt M kc);rw[zdg hcc]⟩;rw[TN.c191];unfold f191;simp (disch:=first|omega|simp only[zD]<;>omega|assumption) only[↓zR,↓zRM,zR,zRM,reduceAdd,reduceMul,reduceToNat,zN,ga,↓f191_J0];exact fin
 | succ B IHB=>
  intro n hn g h G M kc pm hi hl hz hkl hb k R hkk;obtain⟨m,rfl⟩:∃m,n=m+1:=⟨n-1,by omega⟩
  obtain⟨c,hcc⟩:∃c,M.cells[kc]?=some c:=⟨_,List.getElem?_eq_getElem hkl⟩
  obtain⟨a,ha,had⟩:=pm.ltA hkl;rw[had];have hcm:=List.mem_of_getElem? hcc;obtain⟨bv,tv,pv,F⟩:=zi9 pm.stp pm hcc ha;have ga:=F.ga;have go:=F.go;have hnum:=(hl c hcm).2.1;have i1:=zbo hnum;have i2:=zen hnum;have hlm:zz (B+1) M kc=if 0<c.size then M else if c.done=false\/c.f.kind=3 then M.sz kc c 1 else if c.f.kind=1 then M.sz kc c ((Lib.itoa c.f.num).length:Int) else if c.f.parts=[] then M.sz kc c ((conP c.f.num []).length:Int) else zaD (zz B) kc (M.sz kc c ((conP c.f.num []).length+1:Int)) c.f.parts:=by
   show (match M.cells[kc]? with|none=>_|some c=>_:Mc)=_;rw[hcc]
  have hb9:∀s:Int,zar [bv,.int .i64 c.at_,tv,.int .i64 c.node,.bool c.done,.int .i64 c.f.kind,.int .i64 c.f.num,pv,.bool c.shown,.int .i64 c.size] 9 [.int .i64 s]=[bv,.int .i64 c.at_,tv,.int .i64 c.node,.bool c.done,.int .i64 c.f.kind,.int .i64 c.f.num,pv,.bool c.shown,.int .i64 s]:=λs=>rfl
  have hset:∀s:Int,[bv,.int .i64 c.at_,tv,.int .i64 c.node,.bool c.done,.int .i64 c.f.kind,.int .i64 c.f.num,pv,.bool c.shown,.int .i64 c.size].set 9 (.int .i64 s)=[bv,.int .i64 c.at_,tv,.int .i64 c.node,.bool c.done,.int .i64 c.f.kind,.int .i64 c.f.num,pv,.bool c.shown,.int .i64 s]:=λs=>rfl
  have ret:∀s:Int,zz (B+1) M kc=M.sz kc c s->∃h3,h.set a (.own 0 [bv,.int .i64 c.at_,tv,.int .i64 c.node,.bool c.done,.int .i64 c.f.kind,.int .i64 c.f.num,pv,.bool c.shown,.int .i64 s])=h3/\(h3.get a).cells=some [bv,.int .i64 c.at_,tv,.int .i64 c.node,.bool c.done,.int .i64 c.f.kind,.int .i64 c.f.num,pv,.bool c.shown,.int .i64 s]/\k (.int .i64 s) h3=R:=by
   intro s e;obtain⟨q1,q2,q3,_⟩:=F.put s;exact⟨_,rfl,q3,hkk _ _ ⟨q2,by rw[e];exact q1,by rw[e,ze3 hcc]⟩⟩
  have goal:f191 m (ze t stdI m) [.ptr a 0] h k=R:=by
   by_cases hs:0<c.size
   ·rw[if_pos hs] at hlm;have fin:=hkk (.int .i64 c.size) h ⟨pm.stp,by rw[hlm];exact pm,by rw[hlm,zdg hcc]⟩;unfold f191;simp (disch:=first|omega|simp only[zD]<;>omega|assumption) only[↓zR,↓zRM,zR,zRM,reduceAdd,reduceMul,reduceToNat,zN,ga,↓f191_J0];exact fin
   rw[if_neg hs] at hlm;have hgt:(decide (c.size>0))=false:=decide_eq_false hs;cases hd:c.done with
   | false=>
    rw[if_pos (.inl hd)] at hlm;obtain⟨h3,eh3,g3,fin⟩:=ret 1 hlm;rw[hd] at ga go hb9 hset eh3 g3;unfold f191;simp (disch:=first|omega|simp only[zD]<;>omega|assumption) only[↓zR,↓zRM,zR,zRM,reduceAdd,reduceMul,reduceToNat,zN,ga,go,eq_false hs,hb9,hset,eh3,g3,↓f191_J0];exact fin
   | true=>
    by_cases k3:c.f.kind=3
    ·rw[if_pos (.inr k3)] at hlm;obtain⟨h3,eh3,g3,fin⟩:=ret 1 hlm;rw[hd] at ga go hb9 hset eh3 g3;unfold f191;simp (disch:=first|omega|simp only[zD]<;>omega|assumption) only[↓zR,↓zRM,zR,zRM,reduceAdd,reduceMul,reduceToNat,zN,ga,go,eq_false hs,eq_true k3,hb9,hset,eh3,g3,↓f191_J0];exact fin
    rw[if_neg (by rw[hd];simp[k3])] at hlm
    by_cases k1:c.f.kind=1
    ·rw[if_pos k1] at hlm;obtain⟨h3,eh3,g3,fin⟩:=ret _ hlm;rw[hd] at ga go hb9 hset eh3 g3;have w29:=λ(hh:H) (kk:K β)=>L.w29 (m-1) c.f.num (by omega) (by omega) hh kk
     rw[show m-1+1=m by omega] at w29;unfold f191;simp (disch:=first|omega|simp only[zD]<;>omega|assumption) only[↓zR,↓zRM,zR,zRM,reduceAdd,reduceMul,reduceToNat,zN,ga,go,eq_false hs,eq_false k3,eq_true k1,w29,hb9,hset,eh3,g3,↓f191_J0];exact fin
    rw[if_neg k1] at hlm;have w27:=λ(hh:H) (kk:K β)=>T.w27 L (m-2) c.f.num [] .nils hh (.inl ⟨rfl,rfl⟩) (by omega) (by omega) (by simp) (by show ([]:List UInt8).length<=_;simp) kk
    rw[show m-2+2=m by omega] at w27;obtain⟨s,hs'⟩:∃s:Int,s=((conP c.f.num []).length+1:Int):=⟨_,rfl⟩
    rw[<- hs'] at hlm;obtain⟨q1,q2,q3,q4⟩:=F.put s;have hc1:(M.sz kc c s).cells[kc]?=some { c with size:=s }:=by unfold Mc.sz;rw[List.getElem?_set_self hkl]
    have L0:Lq (λj=>j=kc) M (M.sz kc c s):=Lq.sz hcc (λhh=>absurd hh hs) λ_=>⟨by omega,by omega⟩
    have hzz:=zfI M.cells kc c { c with size:=s } hcc hs (by show (0:Int)<s;omega);have haf:zeY B (M.sz kc c s) kc { c with size:=s } c.f.parts=zz (B+1) M kc:=by
     rw[hlm];unfold zeY
     by_cases h0:c.f.parts=[]
     ·rw[if_pos h0,if_pos h0];show ({ M with cells:=(M.cells.set kc _).set kc _ }:Mc)={ M with cells:=M.cells.set kc _ };rw[List.set_set];show ({ M with cells:=M.cells.set kc { c with size:=s-1 } }:Mc)=_;rw[show s-1=((conP c.f.num []).length:Int) by omega]
     ·rw[if_neg h0,if_neg h0]
    have hlen:∀kk:VK β,qLenL pv (.mk kk)=kk (.int .i64 (c.f.parts.length:Int)):=λkk=>by rw[F.pvs.len,zC]
    unfold clB at q1 q2 q3;obtain⟨h3,eh3⟩:∃h3,h.set a (.own 0 [bv,.int .i64 c.at_,tv,.int .i64 c.node,.bool c.done,.int .i64 c.f.kind,.int .i64 c.f.num,pv,.bool c.shown,.int .i64 s])=h3:=⟨_,rfl⟩
    rw[eh3] at q1 q2 q3;have J:=λy1 y2 y3 y7 y8 y9=>j191 (β:=β) (B:=B) (m:=m) (IHB m (by omega)) q1 (L0.pin hi) (L0.pl hl) (L0.szs hz) (by show zs (M.cells.set kc _)<=B;omega) hc1 ha (by show (0:Int)<s;omega) F.pvs (by omega) k R (λh' st pm'=>hkk _ h' ⟨q2.trans st,by rw[<- haf];exact pm',by rw[<- haf]⟩) (x1:=y1) (x2:=y2) (x3:=y3) (x7:=y7) (x8:=y8) (x9:=y9)
    have hs'':((conP c.f.num []).length+1:Int)=s:=hs'.symm;rw[hd] at ga go hb9 hset eh3 q3;unfold f191;simp (disch:=first|omega|simp only[zD]<;>omega|assumption) only[↓zR,↓zRM,zR,zRM,reduceAdd,reduceMul,reduceToNat,zN,ga,go,eq_false hs,eq_false k3,eq_false k1,w27,hs'',hb9,hset,eh3,q3,hlen];exact J _ _ _ _ _ _
  rw[TN.c191];exact goal
end
end Am.F
end
section
namespace Am.F
open Go Am
def zae(S:Nat->Option (List UInt8)):List Nat->Option (List (List UInt8))
 | []=>some []
 | k::ks=>match S k with
  | none=>none
  | some w=>match zae S ks with
   | none=>none
   | some ws=>some (w::ws)
def z8:Nat->Mc->Nat->Option (List UInt8)
 | 0,_,_=>none
 | n+1,M,k=>match M.cells[k]? with
  | none=>none
  | some c=>if c.done=false then some [95] else if c.f.kind=3 then some [33] else if c.f.kind=1 then some (Lib.itoa c.f.num) else
   match zae (z8 n M) c.f.parts with
   | none=>none
   | some ws=>some (conP c.f.num ws)
theorem zaP{S:Nat->Option (List UInt8)}:∀(ks:List Nat) (ws:List (List UInt8)),zae S ks=some ws->ws.length=ks.length/\∀(j k:Nat),ks[j]?=some k->∃w,ws[j]?=some w/\S k=some w
 | [],ws,h=>by cases h;exact⟨rfl,λj k hj=>by simp at hj⟩
 | k::ks,ws,h=>by
  have h:(match S k with|none=>none|some w=>match zae S ks with|none=>none|some ws=>some (w::ws))=some ws:=h;cases hS:S k with
  | none=>rw[hS] at h;cases h
  | some w=>
   rw[hS] at h;have h:(match zae S ks with|none=>none|some ws=>some (w::ws))=some ws:=h;cases hT:zae S ks with
   | none=>rw[hT] at h;cases h
   | some ws'=>
    rw[hT] at h;cases h;obtain⟨i1,i2⟩:=zaP ks ws' hT;refine⟨by simp[i1],λj q hj=>?_⟩;cases j with
    | zero=>cases hj;exact⟨w,rfl,hS⟩
    | succ j=>exact i2 j q (by simpa using hj)
theorem zfk{x:List UInt8}:∀{ws:List (List UInt8)},x ∈ ws->x.length<=(Lib.join ws [32]).length:=by
 intro ws
 induction ws with
 | nil=>intro h;cases h
 | cons w ws ih=>
  intro h;cases ws with
  | nil=>
   rw[List.mem_singleton] at h;subst h;simp[Lib.join]
  | cons v vs=>
   have e:(Lib.join (w::v::vs) [32]).length=w.length+1+(Lib.join (v::vs) [32]).length:=by
    simp[Lib.join];omega
   rw[e];rcases List.mem_cons.1 h with rfl|h
   ·omega
   ·have:=ih h;omega
section
variable {β:Type} {t:ETree} {p:List Df} {mb:Nat} {dv:AV} {g h:H} {G:Gst} {M:Mc}
def TextW(β:Type)(t:ETree)(p:List Df)(mb:Nat)(dv:AV)(d n:Nat):Prop :=
 ∀(g h:H) (G:Gst) (M:Mc) (kc:Nat) (w:List UInt8),PM p mb dv g h G M->Pin M->PL M->kc<M.cells.length->z8 d M kc=some w->w.length<=1000000 ->
  Sp (β:=β) (ze t stdI n (.fn 162 []) [.ptr (G.A.getD kc 0) 0] h) λu h'=>∃g',Stq mb g h G g' h' G/\PM p mb dv g' h' G M/\u = .str w
def zk7(β:Type)(t:ETree)(p:List Df)(mb:Nat)(dv:AV)(d n:Nat):Prop :=
 ∀(g h:H) (G:Gst) (M:Mc) (ks:List Nat) (ws:List (List UInt8)) (v:AV),PM p mb dv g h G M->Pin M->PL M->(∀k ∈ ks,k<M.cells.length)->zae (z8 d M) ks=some ws->(∀w ∈ ws,w.length<=1000000)->SlAt g v (ptrs G.A ks)->ks.length<=8 ->
  Sp (β:=β) (ze t stdI n (.fn 161 []) [v] h) λu h'=>∃g',Stq mb g h G g' h' G/\PM p mb dv g' h' G M/\SlAt g' u (strs ws)
set_option maxHeartbeats 1000000 in
theorem GN11.w161(TN:GN11 t){d m:Nat}(IH:TextW β t p mb dv d m)(hm:12<=m):zk7 β t p mb dv d (m+1):=by
 intro g h G M ks ws v pm hi hl hlt hw hwl hs hk8 k R hk;obtain⟨wl,wat⟩:=zaP ks ws hw;have hgn:=pm.gn;have hroom:room=68719476736:=rfl;have lw:∀kc:VK β,qLenL v (.mk kc)=kc (.int .i64 (ks.length:Int)):=λkc=>by rw[hs.len,zC]
 rw[TN.c161];unfold f161;simp (disch:=first|omega|simp only[zD]<;>omega|assumption) only[↓zR,↓zRM,zR,zRM,reduceAdd,reduceMul,reduceToNat,lw];refine zaa 8 m _ _ (λi x0 x1 x2 x3 x4 x5 x6 x7 h'=>x4=v/\x5 = .int .i64 (ks.length:Int)/\∃(j:Nat) (g':H),x6 = .int .i64 (j:Int)/\j+i=ks.length/\Stq mb g h G g' h' G/\PM p mb dv g' h' G M /\
   ((j=0/\x2 = .nils)\/(0<j/\∃b,Loc mb g' h' G b/\h.n<=b/\x2 = .sl b 0 j j (some 1)/\h'.get b = .own 0 (strs (ws.take j))))) ks.length (by omega) ?_ _ _ _ _ _ _ _ _ _
  ⟨rfl,rfl,0,g,rfl,by omega,pm.stp,pm,.inl ⟨rfl,rfl⟩⟩
 intro l i ih x0 x1 x2 x3 x4 x5 x6 x7 h' ⟨p1,p2,j,g',p3,hj,st,pm',ho⟩;rw[p1,p2,p3];clear p1 p2 p3;cases i with
 | zero=>
  have hjk:j=ks.length:=by omega
  subst hjk;rw[<- wl,List.take_length] at ho;rcases ho with⟨h0,rfl⟩|⟨h0,b,lb,hb,rfl,hbg⟩
  ·have hw0:ws=[]:=List.eq_nil_of_length_eq_zero h0;have fin:=hk .nils h' ⟨g',st,pm',.inl ⟨rfl,by rw[hw0];rfl⟩⟩;simp (disch:=first|omega|simp only[zD]<;>omega|assumption) only[↓zR,↓zRM,zR,zRM,reduceAdd,reduceMul,reduceToNat,↓f161_L2,↓f161_J0];exact fin
  ·have fin:=hk (.sl b 0 ws.length ws.length (some 1)) h' ⟨g'.set b (.own 0 (strs ws)),st.show hgn hb _,pm'.show lb hbg,.inr ⟨b,0,ws.length,some 1,strs ws,by rw[zb4],by rw[H.n_set,pm'.gn];exact lb.lt,by rw[zB rfl];rfl,by rw[List.drop_zero,List.take_length],by rw[zb4];omega⟩⟩;simp (disch:=first|omega|simp only[zD]<;>omega|assumption) only[↓zR,↓zRM,zR,zRM,reduceAdd,reduceMul,reduceToNat,↓f161_L2,↓f161_J0];exact fin
 | succ i=>
  have hjk:j<ks.length:=by omega
  have cj:(j:Int)<(ks.length:Int):=by omega
  obtain⟨q,hkq⟩:∃q,ks[j]?=some q:=⟨_,List.getElem?_eq_getElem hjk⟩
  obtain⟨w,hwj,hwq⟩:=wat j q hkq;have hqm:=List.mem_of_getElem? hkq;have htk:ws.take (j+1)=ws.take j++[w]:=by rw[List.take_add_one,hwj];rfl
  have hld:=λkk:VK β=>((hs.ext st.eg).un pm'.un).load (kd:=.i64) (i:=(j:Int)) (by omega) (by rw[zC];omega) kk
  have hge:(ptrs G.A ks).getD j (.tup []) = .ptr (G.A.getD q 0) 0:=by
   rw[List.getD_eq_getElem?_getD,zbR (by omega),List.getD_eq_getElem?_getD (l:=ks),hkq];rfl
  have hgd:(ptrs G.A ks).getD ((j:Int)).toNat (.tup []) = .ptr (G.A.getD q 0) 0:=by rw[Int.toNat_natCast];exact hge
  have W:=IH g' h' G M q w pm' hi hl (hlt q hqm) hwq (hwl w (List.mem_of_getElem? hwj));have tl:(strs (ws.take j)).length=j:=by rw[zb4,List.length_take];omega
  simp (disch:=first|omega|simp only[zD]<;>omega|assumption) only[↓zR,↓zRM,zR,zRM,reduceAdd,reduceMul,reduceToNat,↓f161_L2,↓f161_J4,hld,hgd,hge];refine W _ _ ?_;intro u h2 ⟨g2,s2,pm2,eu⟩;subst eu;simp (disch:=first|omega|simp only[zD]<;>omega|assumption) only[↓zR,↓zRM,zR,zRM,reduceAdd,reduceMul,reduceToNat];obtain⟨pm3,s3⟩:=pm2.pushV (.own 0 [.str w]);have hn3:(h2.push (.own 0 [.str w])).n=h2.n+1:=H.n_push _ _;have hcs:strs (ws.take (j+1))=strs (ws.take j)++[.str w]:=by rw[htk,zjz]
  have hsn:=s2.hn;have hsrc:∀c:Nat->List AV->Option β,fSrc 1 (.sl h2.n 0 1 1 none) (h2.push (.own 0 [.str w])) c=c 1 [.str w]:=zfu (by rw[zf rfl];rfl) _ _;have hrow:∃bb,(∀q,q=mb\/q ∈ G.A\/q ∈ G.CB->¬ q=bb)/\(bb<(g2.push (.own 0 [.str w])).n->((g2.push (.own 0 [.str w])).get bb).cells=none)/\h.n<=bb/\bb≠h2.n/\∃lo hi,hi<=h2.n+1/\zbA (h2.push (.own 0 [.str w])) lo hi 1 x2 (strs (ws.take j))/\∀q,¬ q=bb->q<lo\/hi<=q:=by
   rcases ho with⟨h0,rfl⟩|⟨h0,b,lb,hb,rfl,hbg⟩
   ·refine⟨h2.n+1,λq hq=>?_,λhh=>?_,by have:=st.hn;omega,by omega,0,0,by omega,.inl ⟨rfl,by rw[h0];rfl⟩,λq _=>by omega⟩
    ·have hg2:=pm2.gn;intro e;subst e;rcases hq with hq|hq|hq
     ·have:=pm2.mlt;omega
     ·have:=pm2.lts _ hq;omega
     ·obtain⟨cv,_,h2|⟨b,q1,_,_,q4,_⟩⟩:=pm2.m
      ·rw[h2.2.2] at hq;simp at hq
      ·rw[q1,List.mem_singleton] at hq;omega
    ·rw[H.n_push] at hh;have:=pm2.gn;omega
   ·obtain⟨lb2,hb2⟩:=lb.step pm'.gn s2;have hlt:=lb2.lt;refine⟨b,λq hq e=>?_,λhh=>?_,hb,by omega,b,b+1,by omega,.inr ⟨b,j,rfl,Nat.le_refl _,by omega,by rw[zc (by omega),hb2];exact hbg,by rw[tl];omega,h0⟩,λq hq=>by omega⟩
    ·subst e;rcases hq with hq|hq|hq
     ·exact lb2.m hq
     ·exact lb2.a hq
     ·exact lb2.b hq
    ·rw[zc (by have:=pm2.gn;omega)];exact lb2.hid
  obtain⟨bb,r1,r2,r3,r4,lo,hi',r7,r5,r6⟩:=hrow;refine zeh r5 (by omega) hsrc rfl (by rw[tl];omega) (by omega) (by omega) (by omega) ?_;intro l1 h4 i1 i2 i3 i4;obtain⟨pm4,lc4⟩:=pm3.grown (b:=bb) r1 r2 i2 λq hq hb=>i4 q hq (r6 q hb)
  have hll:l1=j+1:=by rw[List.length_append,tl] at i3;simp at i3;omega
  subst hll;have s4:Stq mb g h G ((g2.push (.own 0 [.str w])).push .dead) h4 G:=by
   have s23:=(st.trans s2).trans s3;have hst0:=st.hn;refine⟨s23.eg.push _,by omega,s23.A,s23.CA,s23.freshA,s23.freshB,λq h1 h2' h3 h4'=>?_,s23.lt,λa ha cs hc=>?_⟩
   ·rw[i4 q (by omega) (r6 q (by omega))];exact s23.keep q h1 h2' h3 h4'
   ·obtain⟨ds,e1,e2⟩:=s23.imm a ha cs hc;have:=s23.lt a ha
    exact⟨ds,by rw[i4 a (by omega) (r6 a (by omega))];exact e1,e2⟩
  simp (disch:=first|omega|simp only[zD]<;>omega|assumption) only[↓zR,↓zRM,zR,zRM,reduceAdd,reduceMul,reduceToNat,↓f161_J5];refine ih i (by omega) _ _ _ _ _ _ _ _ _ ⟨rfl,rfl,j+1,_,rfl,by omega,s4,pm4,.inr ⟨by omega,_,lc4,by have:=st.hn;omega,rfl,?_⟩⟩;rw[hcs];exact i1
theorem GN11.w162(TN:GN11 t)(T:GA t)(L:GI t){d m:Nat}(IH:zk7 β t p mb dv d m)(hm:12<=m):TextW β t p mb dv (d+1) (m+1):=by
 intro g h G M kc w pm hi hl hkl hw hwl k R hkk;obtain⟨c,hcc⟩:∃c,M.cells[kc]?=some c:=⟨_,List.getElem?_eq_getElem hkl⟩
 obtain⟨a,ha,had⟩:=pm.ltA hkl;rw[had];have hcm:=List.mem_of_getElem? hcc;obtain⟨bv,tv,pv,F⟩:=zi9 pm.stp pm hcc ha;have ga:=F.ga;have hnum:=(hl c hcm).2.1;have i1:=zbo hnum;have htx:z8 (d+1) M kc=if c.done=false then some [95] else if c.f.kind=3 then some [33] else if c.f.kind=1 then some (Lib.itoa c.f.num) else
   match zae (z8 d M) c.f.parts with
   | none=>none
   | some ws=>some (conP c.f.num ws):=by
  show (match M.cells[kc]? with|none=>_|some c=>_:Option (List UInt8))=_;rw[hcc]
 rw[hw] at htx;have goal:f162 m (ze t stdI m) [.ptr a 0] h k=R:=by
  cases hd:c.done with
  | false=>
   rw[if_pos hd] at htx;cases htx;have fin:=hkk (.str [95]) h ⟨g,pm.stp,pm,rfl⟩;rw[hd] at ga;unfold f162;simp (disch:=first|omega|simp only[zD]<;>omega|assumption) only[↓zR,↓zRM,zR,zRM,reduceAdd,reduceMul,reduceToNat,zN,ga];exact fin
  | true=>
   rw[if_neg (by rw[hd];simp)] at htx;rw[hd] at ga
   by_cases k3:c.f.kind=3
   ·rw[if_pos k3] at htx;cases htx;have fin:=hkk (.str [33]) h ⟨g,pm.stp,pm,rfl⟩;unfold f162;simp (disch:=first|omega|simp only[zD]<;>omega|assumption) only[↓zR,↓zRM,zR,zRM,reduceAdd,reduceMul,reduceToNat,zN,ga,eq_true k3];exact fin
   rw[if_neg k3] at htx
   by_cases k1:c.f.kind=1
   ·rw[if_pos k1] at htx;cases htx;have fin:=hkk (.str (Lib.itoa c.f.num)) h ⟨g,pm.stp,pm,rfl⟩;have w29:=λ(hh:H) (kk:K β)=>L.w29 (m-1) c.f.num (by omega) (by omega) hh kk
    rw[show m-1+1=m by omega] at w29;unfold f162;simp (disch:=first|omega|simp only[zD]<;>omega|assumption) only[↓zR,↓zRM,zR,zRM,reduceAdd,reduceMul,reduceToNat,zN,ga,eq_false k3,eq_true k1,w29];exact fin
   rw[if_neg k1] at htx;cases hT:zae (z8 d M) c.f.parts with
   | none=>rw[hT] at htx;cases htx
   | some ws=>
    rw[hT] at htx;cases htx;obtain⟨wl,_⟩:=zaP _ _ hT;have hj:(Lib.join ws [32]).length<=1000000:=by
     by_cases h0:0<ws.length
     ·have:conP c.f.num ws=[64]++Lib.itoa c.f.num++([40]++Lib.join ws [32]++[41]):=by unfold conP;rw[if_pos h0]
      rw[this] at hwl;simp only[List.length_append,List.length_cons,List.length_nil] at hwl;omega
     ·have:ws=[]:=List.eq_nil_of_length_eq_zero (by omega)
      rw[this];show ([]:List UInt8).length<=_;simp
    have hww:∀x ∈ ws,x.length<=1000000:=λx hx=>Nat.le_trans (zfk hx) hj
    have h3:=(hl c hcm).1;have W:=IH g h G M c.f.parts ws pv pm hi hl (hi c hcm) hT hww F.pvs (by omega);have post:∀(u:AV) (h2:H),(∃g',Stq mb g h G g' h2 G/\PM p mb dv g' h2 G M/\SlAt g' u (strs ws))->(∃bv2 tv2 pv2,(h2.get a).cells=some [bv2,.int .i64 c.at_,tv2,.int .i64 c.node,.bool true,.int .i64 c.f.kind,.int .i64 c.f.num,pv2,.bool c.shown,.int .i64 c.size])/\(∀kk:K β,qCall (ze t stdI m) (.fn 27 []) [.int .i64 c.f.num,u] h2 (.mk kk)=kk (.str (conP c.f.num ws)) h2)/\k (.str (conP c.f.num ws)) h2=R:=by
     intro u h2 ⟨g2,s2,pm2,q⟩;obtain⟨bv2,tv2,pv2,F2⟩:=zi9 pm2.stp pm2 hcc ha;have ga2:=F2.ga;rw[hd] at ga2;refine⟨⟨bv2,tv2,pv2,ga2⟩,λkk=>?_,hkk _ h2 ⟨g2,s2,pm2,rfl⟩⟩;have:=T.w27 L (m-2) c.f.num ws u h2 (q.un pm2.un) (by omega) (by omega) (by omega) (by omega) kk
     rw[show m-2+2=m by omega] at this;exact this
    unfold f162;simp (disch:=first|omega|simp only[zD]<;>omega|assumption) only[↓zR,↓zRM,zR,zRM,reduceAdd,reduceMul,reduceToNat,zN,ga,eq_false k3,eq_false k1,↓f162_J0];refine W _ _ ?_;intro u h2 hu;have P:=post u h2 hu;refine Exists.elim P.1 λbv2 hq=>Exists.elim hq λtv2 hq=>Exists.elim hq λpv2 ga2=>?_
    have w27:=P.2.1;have fin:=P.2.2;simp (disch:=first|omega|simp only[zD]<;>omega|assumption) only[↓zR,↓zRM,zR,zRM,reduceAdd,reduceMul,reduceToNat,zN,ga2,zcD,w27];exact fin
 rw[TN.c162];exact goal
theorem GN11.wText(TN:GN11 t)(T:GA t)(L:GI t):∀d n,14+2*d<=n->TextW β t p mb dv d n
 | 0,n,_=>λg h G M kc w pm hi hl hkl hw hwl=>by cases hw
 | d+1,n,hn=>by
  obtain⟨m,rfl⟩:∃m,n=m+2:=⟨n-2,by omega⟩
  exact TN.w162 T L (TN.w161 (GN11.wText TN T L d m (by omega)) (by omega)) (by omega)
theorem GN11.wTexts(TN:GN11 t)(T:GA t)(L:GI t)(d n:Nat)(hn:15+2*d<=n):zk7 β t p mb dv d n:=by
 obtain⟨m,rfl⟩:∃m,n=m+1:=⟨n-1,by omega⟩
 exact TN.w161 (GN11.wText TN T L d m (by omega)) (by omega)
end
end Am.F
end
section
namespace Am.F
open Go Am
def Lk(U:Nat->Prop)(c:Cl):Prop:=(∀q ∈ c.there,U q)/\∀q ∈ c.f.parts,U q
def Cz(U:Nat->Prop)(M:Mc):Prop:=∀(k:Nat) (c:Cl),U k->M.cells[k]?=some c->Lk U c
def Ac(M:Mc):Prop:=∀(k:Nat) (c:Cl),M.cells[k]?=some c->∃U,Cz U M/\¬ U k/\Lk U c
def nx(U:Nat->Prop)(M:Mc):Nat->Prop:=λj=>U j\/M.cells.length<=j
def bl(U:Nat->Prop)(M:Mc):Nat->Prop:=λj=>U j/\j<M.cells.length
structure Ar (U:Nat->Prop) (M M':Mc) (ps:List Nat):Prop where
 ac:Ac M'
 lo:∀j,j<M.cells.length->¬ U j->M'.cells[j]?=M.cells[j]?
 len:M.cells.length<=M'.cells.length
 cz:Cz (nx U M) M'
 pt:∀q ∈ ps,nx U M q
theorem Lk.mono{U V:Nat->Prop}{c:Cl}(h:Lk U c)(hs:∀j,U j->V j):Lk V c:=⟨λq hq=>hs q (h.1 q hq),λq hq=>hs q (h.2 q hq)⟩
theorem Cz.congr{U V:Nat->Prop}{M:Mc}(h:Cz U M)(hs:∀j,U j↔V j):Cz V M:=λk c hv hk=>(h k c ((hs k).2 hv) hk).mono λj=>(hs j).1
theorem Cz.and{U V:Nat->Prop}{M:Mc}(h:Cz U M)(g:Cz V M):Cz (λj=>U j/\V j) M:=λk c hv hk=>⟨λq hq=>⟨(h k c hv.1 hk).1 q hq,(g k c hv.2 hk).1 q hq⟩,λq hq=>⟨(h k c hv.1 hk).2 q hq,(g k c hv.2 hk).2 q hq⟩⟩
theorem Cz.nx{U:Nat->Prop}{M:Mc}(h:Cz U M):Cz (nx U M) M:=λk c hv hk=>by
 have hl:=(List.getElem?_eq_some_iff.1 hk).1;rcases hv with hv|hv
 ·exact (h k c hv hk).mono λj=>.inl
 ·omega
theorem Ar.refl{U:Nat->Prop}{M:Mc}(ha:Ac M)(hc:Cz U M){ps:List Nat}(hp:∀q ∈ ps,U q):Ar U M M ps:=⟨ha,λ_ _ _=>rfl,Nat.le_refl _,hc.nx,λq hq=>.inl (hp q hq)⟩
theorem Ar.trans{U:Nat->Prop}{M M' M'':Mc}{ps qs:List Nat}(h:Ar U M M' ps)(g:Ar (nx U M) M' M'' qs):Ar U M M'' qs:=by
 have e:∀j,nx (nx U M) M' j↔nx U M j:=λj=>by
  have:=h.len
  constructor
  ·rintro ((h|h)|h)
   ·exact .inl h
   ·exact .inr h
   ·exact .inr (by omega)
  ·exact .inl
 exact⟨g.ac,λj hj hu=>(g.lo j (by have:=h.len;omega) λhn=>hn.elim hu λhh=>by omega).trans (h.lo j hj hu),Nat.le_trans h.len g.len,g.cz.congr e,λq hq=>(e q).1 (g.pt q hq)⟩
theorem Ar.ps{U:Nat->Prop}{M M':Mc}{ps qs:List Nat}(h:Ar U M M' ps)(hq:∀q ∈ qs,nx U M q):Ar U M M' qs:=⟨h.ac,h.lo,h.len,h.cz,hq⟩
theorem Ar.up{W U:Nat->Prop}{M M':Mc}{ps:List Nat}(h:Ar W M M' ps)(hs:∀j,W j->U j)(hu:Cz U M):Ar U M M' ps:=by
 have hn:∀j,nx W M j->nx U M j:=λj hj=>hj.elim (λx=>.inl (hs j x)) .inr
 refine⟨h.ac,λj hj hn'=>h.lo j hj λhw=>hn' (hs j hw),h.len,λk c hv hk=>?_,λq hq=>hn q (h.pt q hq)⟩
 by_cases hw:nx W M k
 ·exact (h.cz k c hw hk).mono hn
 ·have hkl:k<M.cells.length:=Nat.lt_of_not_le λx=>hw (.inr x)
  rw[h.lo k hkl λx=>hw (.inl x)] at hk;rcases hv with hv|hv
  ·exact (hu k c hv hk).mono λj=>.inl
  ·omega
theorem Cz.left{U:Nat->Prop}{M:Mc}(h:Cz U M)(l:Nat)(o:Bool):Cz U { M with left:=l,out:=o }:=h
theorem Ac.left{M:Mc}(h:Ac M)(l:Nat)(o:Bool):Ac { M with left:=l,out:=o }:=h
theorem Cz.add{p:List Df}{U:Nat->Prop}{M:Mc}(hw:WFM p M)(h:Cz U M)(c:Cl):Cz (bl U M) (M.add c):=λk d hv hk=>by
 have hk:(M.cells++[c])[k]?=some d:=hk;rw[List.getElem?_append_left hv.2] at hk;have l:=h k d hv.1 hk;have w:=hw.cell d (List.mem_of_getElem? hk);exact⟨λq hq=>⟨l.1 q hq,w.1.lt q hq⟩,λq hq=>⟨l.2 q hq,w.2.lt q hq⟩⟩
theorem Ac.add{p:List Df}{U:Nat->Prop}{M:Mc}(hw:WFM p M)(ha:Ac M)(h:Cz U M){c:Cl}(hc:Lk (bl U M) c):Ac (M.add c):=λk d hk=>by
 have hk:(M.cells++[c])[k]?=some d:=hk
 by_cases hl:k<M.cells.length
 ·rw[List.getElem?_append_left hl] at hk;obtain⟨V,v1,v2,v3⟩:=ha k d hk;have w:=hw.cell d (List.mem_of_getElem? hk);exact⟨bl V M,v1.add hw c,λx=>v2 x.1,λq hq=>⟨v3.1 q hq,w.1.lt q hq⟩,λq hq=>⟨v3.2 q hq,w.2.lt q hq⟩⟩
 ·rw[List.getElem?_append_right (by omega)] at hk;have e:=List.mem_of_getElem? hk;rw[List.mem_singleton] at e;subst e;exact⟨bl U M,h.add hw d,λx=>hl x.2,hc⟩
theorem Ar.add{p:List Df}{U:Nat->Prop}{M:Mc}(hw:WFM p M)(ha:Ac M)(h:Cz U M){c:Cl}(hc:Lk (bl U M) c):Ar U M (M.add c) [M.cells.length]:=by
 refine⟨ha.add hw h hc,λj hj _=>by unfold Mc.add;rw[List.getElem?_append_left hj],by simp[Mc.add],λk d hv hk=>?_,λq hq=>.inr (by rw[List.mem_singleton.1 hq];exact Nat.le_refl _)⟩;have hk:(M.cells++[c])[k]?=some d:=hk
 by_cases hl:k<M.cells.length
 ·rw[List.getElem?_append_left hl] at hk;rcases hv with hv|hv
  ·exact (h k d hv hk).mono λj=>.inl
  ·omega
 ·rw[List.getElem?_append_right (by omega)] at hk;have e:=List.mem_of_getElem? hk;rw[List.mem_singleton] at e;subst e;exact hc.mono λj x=>.inl x.1
theorem zj0{M:Mc}{k:Nat}{x:Fd}{j:Nat}{d:Cl}(h:(M.put k x).cells[j]?=some d):(j≠k/\M.cells[j]?=some d)\/(j=k/\∃c,M.cells[k]?=some c/\d={ c with done:=true,f:=x }):=by
 unfold Mc.put at h;cases hk:M.cells[k]? with
 | none=>
  rw[hk] at h;refine .inl ⟨λe=>?_,h⟩;subst e;have h:M.cells[j]?=some d:=h;rw[hk] at h;cases h
 | some c=>
  rw[hk] at h;have h:(M.cells.set k { c with done:=true,f:=x })[j]?=some d:=h
  by_cases e:k=j
  ·subst e;rw[List.getElem?_set_self (List.getElem?_eq_some_iff.1 hk).1] at h;cases h;exact .inr ⟨rfl,c,rfl,rfl⟩
  ·rw[List.getElem?_set_ne e] at h;exact .inl ⟨λh=>e h.symm,h⟩
theorem Cz.put{V:Nat->Prop}{M:Mc}(h:Cz V M){k:Nat}{x:Fd}(hx:V k->∀q ∈ x.parts,V q):Cz V (M.put k x):=λj d hv hj=>by
 rcases zj0 hj with⟨_,hj⟩|⟨rfl,c,hc,rfl⟩
 ·exact h j d hv hj
 ·exact⟨(h _ c hv hc).1,hx hv⟩
theorem Ac.put{V:Nat->Prop}{M:Mc}(ha:Ac M){k:Nat}{x:Fd}(h:Cz V M)(hk:¬ V k)(hx:∀q ∈ x.parts,V q)(ht:∀c,M.cells[k]?=some c->∀q ∈ c.there,V q):Ac (M.put k x):=λj d hj=>by
 rcases zj0 hj with⟨hjk,hj⟩|⟨rfl,c,hc,rfl⟩
 ·obtain⟨W,w1,w2,w3⟩:=ha j d hj
  by_cases hv:V j
  ·have l:=h j d hv hj;exact⟨λi=>V i/\W i,(h.and w1).put λhh=>absurd hh.1 hk,λhh=>w2 hh.2,λq hq=>⟨l.1 q hq,w3.1 q hq⟩,λq hq=>⟨l.2 q hq,w3.2 q hq⟩⟩
  ·refine⟨λi=>V i\/W i,λi e hv' hi=>?_,λhh=>hh.elim hv w2,w3.mono λi=>.inr⟩;rcases zj0 hi with⟨_,hi⟩|⟨rfl,c,hc,rfl⟩
   ·rcases hv' with hv'|hv'
    ·exact (h i e hv' hi).mono λi=>.inl
    ·exact (w1 i e hv' hi).mono λi=>.inr
   ·refine⟨λq hq=>.inl (ht c hc q hq),λq hq=>.inl (hx q hq)⟩
 ·exact⟨V,h.put λhh=>absurd hh hk,hk,ht c hc,hx⟩
theorem Ar.put{U V:Nat->Prop}{M M':Mc}{ps:List Nat}(a:Ar U M M' ps){k:Nat}{x:Fd}(hU:nx U M k)(h:Cz V M')(hk:¬ V k)(hx:∀q ∈ x.parts,V q)(hs:∀j,V j->nx U M j)(ht:∀c,M'.cells[k]?=some c->∀q ∈ c.there,V q):Ar U M (M'.put k x) x.parts:=by
 refine⟨a.ac.put h hk hx ht,λj hj hn=>?_,?_,a.cz.put λ_ q hq=>hs q (hx q hq),λq hq=>hs q (hx q hq)⟩
 ·have hjk:¬ k=j:=λe=>by
   subst e;rcases hU with hU|hU
   ·exact hn hU
   ·omega
  rw[<- a.lo j hj hn];unfold Mc.put;split
  ·rfl
  ·show (M'.cells.set k _)[j]?=_;rw[List.getElem?_set_ne hjk]
 ·refine Nat.le_trans a.len ?_;unfold Mc.put;split
  ·exact Nat.le_refl _
  ·show _<=(M'.cells.set k _).length;rw[List.length_set];exact Nat.le_refl _
def ArP(p:List Df)(P:Pt):Prop:=∀M b t nd a U,WFM p M->zp p b t a->Gds p M t->Ac M->Cz U M->(∀q ∈ t,U q)->Ar U M (P M b t nd a).2 (P M b t nd a).1.parts
theorem ar_kid{p:List Df}{body:List Ex}{there:List Nat}{node a:Int}{M:Mc}{U:Nat->Prop}(hf:zp p body there a)(hg:Gds p M there)(hw:WFM p M)(ha:Ac M)(hc:Cz U M)(ht:∀q ∈ there,U q):Ar U M (kidM body there node a M).2 [(kidM body there node a M).1]:=by
 obtain⟨e,l,he,_,hp,hl,h0,_,_,_⟩:=hf.at_;unfold kidM;rw[he];show Ar U M (if e.kind=1 then _ else _:Nat × Mc).2 [(if e.kind=1 then _ else _:Nat × Mc).1];split
 ·rename_i c1;have hn:0<=e.num/\e.num<=l-1:=by unfold zq at hp;omega
  have:e.num.toNat<there.length:=by omega
  refine Ar.refl ha hc λq hq=>?_
  rw[List.mem_singleton.1 hq];show U (there.getD e.num.toNat 0);rw[List.getD_eq_getElem?_getD,List.getElem?_eq_getElem this];exact ht _ (List.getElem_mem this)
 ·exact Ar.add hw ha hc ⟨λq hq=>⟨ht q hq,hg.lt q hq⟩,λq hq=>by simp[cl0,fd0] at hq⟩
theorem zhB{p:List Df}{body:List Ex}{there:List Nat}{node:Int}:∀(as:List Int) {M:Mc} {U:Nat->Prop},(∀a ∈ as,zp p body there a)->Gds p M there->WFM p M->Ac M->Cz U M->(∀q ∈ there,U q)->Ar U M (zT body there node as M).2 (zT body there node as M).1
 | [],M,U,_,_,hw,ha,hc,_=>Ar.refl ha hc λq hq=>by cases hq
 | a::as,M,U,hf,hg,hw,ha,hc,ht=>by
  have a1:=ar_kid (node:=node) (hf a List.mem_cons_self) hg hw ha hc ht;obtain⟨w1,g1⟩:=zcj (node:=node) (hf a List.mem_cons_self) hg hw;have a2:=zhB (node:=node) as (U:=nx U M) (λx hx=>hf x (List.mem_cons_of_mem _ hx)) (hg.mono (Mono.kid body there node a M)) w1 a1.ac a1.cz λq hq=>.inl (ht q hq)
  have a3:=a1.trans a2;exact a3.ps λq hq=>by
   rcases List.mem_cons.1 hq with rfl|hq
   ·exact a1.pt _ (List.mem_singleton.2 rfl)
   ·exact a3.pt q hq
theorem ziE{p:List Df}{P:Pt}(hP:ArP p P)(hm:zev P){M:Mc}{k:Nat}{U:Nat->Prop}(hw:WFM p M)(hk:Fo p M k)(ha:Ac M)(hc:Cz U M)(hu:U k):Ar U M (zH P M k).2 (zH P M k).1.parts:=by
 obtain⟨c,hcc,hf⟩:=hk;have hcm:=List.mem_of_getElem? hcc;have hkl:=(List.getElem?_eq_some_iff.1 hcc).1;have lk:=hc k c hu hcc;unfold zH;rw[hcc];show Ar U M (if c.done=true then _ else _:Fd × Mc).2 (if c.done=true then _ else _:Fd × Mc).1.parts;split
 ·exact Ar.refl ha hc lk.2
 ·rename_i hd;obtain⟨V,v1,v2,v3⟩:=ha k c hcc;have h1:=hP M c.body c.there c.node c.at_ (λj=>V j/\U j) hw (hf (by simpa using hd)) (hw.cell c hcm).1 ha (v1.and hc) λq hq=>⟨v3.1 q hq,lk.1 q hq⟩
  have h2:=h1.up (U:=U) (λj hj=>hj.2) hc;have hkk:(P M c.body c.there c.node c.at_).2.cells[k]?=some c:=by rw[h1.lo k hkl λx=>v2 x.1];exact hcc
  show Ar U M (if _ then _ else _:Fd × Mc).2 (if _ then _ else _:Fd × Mc).1.parts;split
  ·refine h2.ps λq hq=>?_
   rw[hkk] at hq;exact .inl (lk.2 q hq)
  ·refine h2.put (V:=nx (λj=>V j/\U j) M) (.inl hu) h1.cz (λx=>?_) h1.pt (λj hj=>hj.elim (λx=>.inl x.2) .inr) λd hd q hq=>?_
   ·rcases x with x|x
    ·exact v2 x.1
    ·omega
   ·rw[hkk] at hd;cases hd;exact .inl ⟨v3.1 q hq,lk.1 q hq⟩
set_option maxHeartbeats 1000000 in
theorem ziF{p:List Df}{P:Pt}(hP:ArP p P){M:Mc}{fn parent:Int}{args:List Nat}{U:Nat->Prop}(hw:WFM p M)(hg:Gds p M args)(hf:zp p (zn p fn.toNat) args (((zn p fn.toNat).length:Int)-1))(ha:Ac M)(hc:Cz U M)(ht:∀q ∈ args,U q):Ar U M (callM p P M fn parent args).2 (callM p P M fn parent args).1.parts:=by
 have hlk:Lk (bl U M) (cl0 [] 0 [] 0):=⟨λq hq=>by simp[cl0] at hq,λq hq=>by simp[cl0,fd0] at hq⟩
 have a0:Ar U M (M.call fn parent args) [M.cells.length]:=let z:=Ar.add hw ha hc hlk;⟨z.ac,z.lo,z.len,z.cz,z.pt⟩
 have cz1:Cz (bl U M) (M.call fn parent args):=hc.add hw (cl0 [] 0 [] 0);have h1:=hP (M.call fn parent args) (zn p fn.toNat) args (M.calls.length:Int) _ (bl U M) (hw.call' fn parent hg) hf (hg.mono (Mono.call M fn parent args)) a0.ac cz1 λq hq=>⟨ht q hq,hg.lt q hq⟩
 have h2:=a0.trans (h1.up (U:=nx U M) (λj hj=>.inl hj.1) a0.cz);have hcl:(M.call fn parent args).cells[M.cells.length]?=some (cl0 [] 0 [] 0):=by unfold Mc.call;simp
 have hln:(M.call fn parent args).cells.length=M.cells.length+1:=by simp[Mc.call]
 have hkk:=h1.lo M.cells.length (by omega) λx=>Nat.lt_irrefl _ x.2
 rw[hcl] at hkk;show Ar U M (if _ then _ else _:Mc) _;split
 ·exact h2
 ·refine h2.put (V:=nx (bl U M) (M.call fn parent args)) (.inr (Nat.le_refl _)) h1.cz (λx=>?_) h1.pt (λj hj=>hj.elim (λx=>.inl x.1) λx=>.inr (by omega)) λd hd q hq=>?_
  ·rcases x with x|x
   ·exact Nat.lt_irrefl _ x.2
   ·omega
  ·rw[hkk] at hd;cases hd;simp[cl0] at hq
set_option maxHeartbeats 2000000 in
theorem zhA{p:List Df}(hp:zo p=true):∀N,ArP p (zm p N)
 | 0=>λM _ _ _ _ U _ _ _ ha hc _=>Ar.refl ha hc λq hq=>by cases hq
 | N+1=>λM body there node a U hw hf hg ha hc ht=>by
  have ih:=zhA hp N;have ok:=zbi hp N;have hm:=Mono.part p N;obtain⟨e,l,he,hl8,hpp,hl,h0,hmem,hbd,hkid⟩:=hf.at_;have m1:Mono M { M with left:=M.left-1 }:=Mono.left M _ _;have w1:WFM p { M with left:=M.left-1 }:=hw.left _ _;have g1:=hg.mono m1;have hk3:=hpp.kids;have ha':Ac { M with left:=M.left-1 }:=ha;have hc':Cz U { M with left:=M.left-1 }:=hc;have nil:∀{ps:List Nat},ps=[]->∀q ∈ ps,U q:=λh q hq=>by rw[h] at hq;cases hq
  have back:∀{M':Mc} {ps:List Nat},Ar U { M with left:=M.left-1 } M' ps->Ar U M M' ps:=λh=>⟨h.ac,h.lo,h.len,h.cz,h.pt⟩
  have red:∀r:Fd × Mc,zm p (N+1) M body there node a=r->Ar U M r.2 r.1.parts->Ar U M (zm p (N+1) M body there node a).2 (zm p (N+1) M body there node a).1.parts:=λr e h=>by rw[e];exact h
  by_cases ho:M.out=true
  ·refine red (fd0,M) ?_ (Ar.refl ha hc (nil rfl));show (if M.out=true then _ else _:Fd × Mc)=_;rw[if_pos ho]
  by_cases hz:M.left=0
  ·refine red (fd0,{ M with out:=true }) ?_ ?_
   ·show (if M.out=true then _ else _:Fd × Mc)=_;rw[if_neg ho];show (if M.left=0 then _ else _:Fd × Mc)=_;rw[if_pos hz]
   ·have z:=Ar.refl ha hc (nil rfl);exact⟨z.ac,z.lo,z.len,z.cz,z.pt⟩
  have st:=zcy (p:=p) (N:=N) (there:=there) (node:=node) (by simpa using ho) hz he;have allk:(e.kind≠5/\e.kind≠6)->∀x ∈ e.kids,zp p body there x:=λh x hx=>by
   obtain⟨q,hq⟩:=List.mem_iff_getElem?.1 hx;exact (hkid q x hq).2.2 there (by rw[zh (.inr h),hl];omega)
  by_cases c0:e.kind=0
  ·rw[if_pos c0] at st;exact red _ st (back (Ar.refl ha' hc' (nil rfl)))
  rw[if_neg c0] at st
  by_cases c1:e.kind=1
  ·rw[if_pos c1] at st;have hn:0<=e.num/\e.num<=l-1:=by unfold zq at hpp;omega
   have hlt:e.num.toNat<there.length:=by omega
   have hmm:there.getD e.num.toNat 0 ∈ there:=by
    rw[List.getD_eq_getElem?_getD,List.getElem?_eq_getElem hlt];exact List.getElem_mem hlt
   exact red _ st (back (ziE ih hm w1 (g1 _ hmm).fo ha' hc' (ht _ hmm)))
  rw[if_neg c1] at st
  by_cases c2:e.kind=2
  ·rw[if_pos c2] at st;obtain⟨w2,g2,l2⟩:=zaS (node:=node) e.kids (allk (by omega)) g1 w1;obtain⟨_,_,hfr⟩:=zaV hp hbd hmem c2 hpp l2;have a1:=zhB (node:=node) e.kids (allk (by omega)) g1 w1 ha' hc' ht;exact red _ st (back (a1.trans (ziF ih w2 g2 hfr a1.ac a1.cz a1.pt)))
  rw[if_neg c2] at st
  by_cases c3:e.kind=3
  ·rw[if_pos c3] at st;exact red _ st (back (zhB (node:=node) e.kids (allk (by omega)) g1 w1 ha' hc' ht))
  rw[if_neg c3] at st
  by_cases c4:e.kind=4
  ·rw[if_pos c4] at st;have hk2:=hpp.kids2 (.inl c4);have f0:=(hkid 0 _ (zt e (by omega))).2.2 there (by rw[zh (.inl (by omega)),hl];omega);have f1:=(hkid 1 _ (zt e (by omega))).2.2 there (by rw[zh (.inr (by omega)),hl];omega);have q1:=ih { M with left:=M.left-1 } body there node _ U w1 f0 g1 ha' hc' ht;obtain⟨w2,g2⟩:=ok { M with left:=M.left-1 } body there node _ w1 f0 g1;refine red _ st (back ?_);unfold zbc;show Ar U _ (if _ then _ else _:Fd × Mc).2 (if _ then _ else _:Fd × Mc).1.parts;split
   ·exact q1.ps λq hq=>by cases hq
   ·have q2:=q1.trans (ih _ body there node _ (nx U { M with left:=M.left-1 }) w2 f1 (g1.mono (hm _ _ _ _ _)) q1.ac q1.cz λq hq=>.inl (ht q hq));show Ar U _ (if _ then _ else _:Fd × Mc).2 (if _ then _ else _:Fd × Mc).1.parts;split
    ·exact q2.ps λq hq=>by cases hq
    ·exact q2.ps λq hq=>by cases hq
  rw[if_neg c4] at st
  by_cases c5:e.kind=5
  ·rw[if_pos c5] at st;have hk3':=hpp.kids3 c5;have f0:=(hkid 0 _ (zt e (by omega))).2.2 there (by rw[zh (.inl (by omega)),hl];omega);have f2:=(hkid 2 _ (zt e (by omega))).2.2 there (by rw[zh (.inl (by omega)),hl];omega);have q1:=ih { M with left:=M.left-1 } body there node _ U w1 f0 g1 ha' hc' ht;obtain⟨w2,g2⟩:=ok { M with left:=M.left-1 } body there node _ w1 f0 g1;have gt:=g1.mono (hm { M with left:=M.left-1 } body there node (e.kids.getD 0 0));refine red _ st (back ?_);show Ar U _ (if _ then _ else _:Fd × Mc).2 (if _ then _ else _:Fd × Mc).1.parts;split
   ·exact q1
   ·split
    ·rename_i c;have f1:=(hkid 1 _ (zt e (by omega))).2.2 (there++(zm p N { M with left:=M.left-1 } body there node (e.kids.getD 0 0)).1.parts) (by
      rw[List.length_append];have:more e (1:Nat)=e.bind:=by unfold more;rw[if_pos (by rfl),if_pos c5]
      rw[this];have:=c.2.2;omega)
     exact q1.trans (ih _ body _ node _ _ w2 f1 (gt.app g2) q1.ac q1.cz λq hq=>by
      rcases List.mem_append.1 hq with hq|hq
      ·exact .inl (ht q hq)
      ·exact q1.pt q hq)
    ·exact q1.trans (ih _ body there node _ _ w2 f2 gt q1.ac q1.cz λq hq=>.inl (ht q hq))
  rw[if_neg c5] at st
  by_cases c6:e.kind=6
  ·rw[if_pos c6] at st;have hk2:=hpp.kids2 (.inr c6);have f0:=(hkid 0 _ (zt e (by omega))).2.2 there (by rw[zh (.inl (by omega)),hl];omega);obtain⟨w2,g2⟩:=zcj (node:=node) f0 g1 w1;have q1:=ar_kid (node:=node) f0 g1 w1 ha' hc' ht;have gt:=g1.mono (Mono.kid body there node (e.kids.getD 0 0) { M with left:=M.left-1 });have f1:=(hkid 1 _ (zt e (by omega))).2.2 (there++[(kidM body there node (e.kids.getD 0 0) { M with left:=M.left-1 }).1]) (by
    rw[List.length_append];have:more e (1:Nat)=1:=by unfold more;rw[if_pos (by rfl),if_neg (by omega),if_pos c6]
    rw[this];simp;omega)
   refine red _ st (back (q1.trans (ih _ body _ node _ _ w2 f1 (gt.app (Gds.one g2)) q1.ac q1.cz λq hq=>?_)));rcases List.mem_append.1 hq with hq|hq
   ·exact .inl (ht q hq)
   ·exact q1.pt q hq
  rw[if_neg c6] at st;exact red _ st (back (Ar.refl ha' hc' (nil rfl)))
end Am.F
end
section
namespace Am.F
open Go Am
theorem Ac.same{M M':Mc}(h:Ac M)(hs:∀(k:Nat) (d:Cl),M'.cells[k]?=some d->∃c,M.cells[k]?=some c/\d.there=c.there/\d.f=c.f):Ac M':=λk d hk=>by
 obtain⟨c,h1,h2,h3⟩:=hs k d hk;obtain⟨U,u1,u2,u3⟩:=h k c h1;refine⟨U,λj e hu hj=>?_,u2,by unfold Lk;rw[h2,h3];exact u3⟩;obtain⟨x,x1,x2,x3⟩:=hs j e hj;unfold Lk;rw[x2,x3];exact u1 j x hu x1
theorem Ac.mark{M:Mc}(h:Ac M){k:Nat}{c:Cl}(hk:M.cells[k]?=some c):Ac (M.mark k c):=h.same λj d hj=>by
 have hj:(M.cells.set k { c with shown:=true })[j]?=some d:=hj
 by_cases e:k=j
 ·subst e;rw[List.getElem?_set_self (List.getElem?_eq_some_iff.1 hk).1] at hj;cases hj;exact⟨c,hk,rfl,rfl⟩
 ·rw[List.getElem?_set_ne e] at hj;exact⟨d,hj,rfl,rfl⟩
theorem Lq.ac{X:Nat->Prop}{M M':Mc}(h:Lq X M M')(ha:Ac M):Ac M':=ha.same λk d hk=>by
 have hl:=(List.getElem?_eq_some_iff.1 hk).1;rw[h.len] at hl;obtain⟨e,e1,e2,_⟩:=h.cell k M.cells[k] (List.getElem?_eq_getElem hl);rw[hk] at e1;cases e1;exact⟨_,List.getElem?_eq_getElem hl,by rw[e2],by rw[e2]⟩
theorem ac_force{p:List Df}(hp:zo p=true){M:Mc}{k:Nat}(hw:WFM p M)(hk:Fo p M k)(ha:Ac M)(N:Nat):Ac (zH (zm p N) M k).2 :=
 (ziE (U:=λj=>j<M.cells.length) (zhA hp N) (Mono.part p N) hw hk ha (λj c _ hc=>⟨λq hq=>(hw.cell c (List.mem_of_getElem? hc)).1.lt q hq,λq hq=>(hw.cell c (List.mem_of_getElem? hc)).2.lt q hq⟩) (by obtain⟨c,hc,_⟩:=hk;exact (List.getElem?_eq_some_iff.1 hc).1)).ac
theorem zhS{p:List Df}{S:Mc->Nat->Bool × Mc}(hS:∀M k,WFM p M->Gd p M k->Ac M->Kept p M (S M k).2/\Ac (S M k).2):∀(ks:List Nat) (M:Mc),WFM p M->Gds p M ks->Ac M->Ac (zRq9 S M ks).2
 | [],M,hw,_,h=>h
 | k::ks,M,hw,hg,h=>by
  have h1:=hS M k hw (hg k List.mem_cons_self) h;show Ac (if (S M k).1=true then _ else _:Bool × Mc).2;split
  ·exact zhS hS ks _ h1.1.wf (λq hq=>(hg q (List.mem_cons_of_mem _ hq)).mono h1.1.mo) h1.2
  ·exact h1.2
theorem zjH{p:List Df}(hp:zo p=true):∀n M k,WFM p M->Fo p M k->Ac M->Ac (zaM p n M k).2
 | 0,M,k,hw,_,h=>h
 | n+1,M,k,hw,hk,h=>by
  have ih:=zjH hp n;have hk0:=hk;obtain⟨c,hc,hf⟩:=hk;show Ac (match M.cells[k]? with|none=>_|some c=>_:Bool × Mc).2;rw[hc];show Ac (if c.shown=true then _ else _:Bool × Mc).2;split
  ·exact h
  ·have k2:=ac_force hp (hw.mark hc) (Fo.mark hc hk0) (h.mark hc) 1001;have w2:=zcc hp (hw.mark hc) (Fo.mark hc hk0) 1001;show Ac (if _ then _ else _:Bool × Mc).2;split
   ·exact k2
   ·exact zhS (λM k hw hg h=>⟨zcI hp n M k hw hg.fo,ih M k hw hg.fo h⟩) _ _ w2.wf (zbE w2.wf k) k2
theorem zdS{S T:Nat->Option (List UInt8)}(h:∀k w,S k=some w->T k=some w):∀(ks:List Nat) (ws:List (List UInt8)),zae S ks=some ws->zae T ks=some ws
 | [],ws,e=>e
 | k::ks,ws,e=>by
  have e:(match S k with|none=>none|some w=>match zae S ks with|none=>none|some ws=>some (w::ws))=some ws:=e;show (match T k with|none=>none|some w=>match zae T ks with|none=>none|some ws=>some (w::ws))=some ws;cases hS:S k with
  | none=>rw[hS] at e;cases e
  | some w=>
   rw[hS] at e;have e:(match zae S ks with|none=>none|some ws=>some (w::ws))=some ws:=e;rw[h k w hS];show (match zae T ks with|none=>none|some ws=>some (w::ws))=some ws;cases hT:zae S ks with
   | none=>rw[hT] at e;cases e
   | some ws'=>
    rw[hT] at e;rw[zdS h ks ws' hT];exact e
theorem zaj{M:Mc}{k:Nat}{c:Cl}(hc:M.cells[k]?=some c)(n:Nat):z8 (n+1) M k=if c.done=false then some [95] else if c.f.kind=3 then some [33] else if c.f.kind=1 then some (Lib.itoa c.f.num) else
   match zae (z8 n M) c.f.parts with
   | none=>none
   | some ws=>some (conP c.f.num ws):=by
 show (match M.cells[k]? with|none=>_|some c=>_:Option (List UInt8))=_;rw[hc]<;>rfl
theorem zhJ:∀(n:Nat) (M:Mc) (k:Nat) (w:List UInt8),z8 n M k=some w->z8 (n+1) M k=some w
 | 0,M,k,w,h=>by cases h
 | n+1,M,k,w,h=>by
  cases hk:M.cells[k]? with
  | none=>
   have h:(match M.cells[k]? with|none=>none|some c=>_:Option (List UInt8))=some w:=h;rw[hk] at h;cases h
  | some c=>
   rw[zaj hk] at h⊢;split
   ·rename_i c0;rw[if_pos c0] at h;exact h
   ·rename_i c0;rw[if_neg c0] at h;split
    ·rename_i c1;rw[if_pos c1] at h;exact h
    ·rename_i c1;rw[if_neg c1] at h;split
     ·rename_i c2;rw[if_pos c2] at h;exact h
     ·rename_i c2;rw[if_neg c2] at h;cases hT:zae (z8 n M) c.f.parts with
      | none=>rw[hT] at h;cases h
      | some ws=>
       rw[hT] at h;rw[zdS (λk w hw=>zhJ n M k w hw) _ _ hT];exact h
theorem zcw{n m:Nat}(h:n<=m){M:Mc}{k:Nat}{w:List UInt8}(hw:z8 n M k=some w):z8 m M k=some w:=by
 induction h with
 | refl=>exact hw
 | step _ ih=>exact zhJ _ _ _ _ ih
open Classical in
noncomputable def ctU(U:Nat->Prop):Nat->Nat
 | 0=>0
 | n+1=>ctU U n+if U n then 1 else 0
theorem ctU_le{U V:Nat->Prop}(h:∀j,U j->V j):∀n,ctU U n<=ctU V n
 | 0=>Nat.le_refl _
 | n+1=>by
  have:=ctU_le h n
  show ctU U n+_<=ctU V n+_
  by_cases hu:U n
  ·rw[if_pos hu,if_pos (h n hu)];omega
  ·rw[if_neg hu];omega
theorem zkS{U V:Nat->Prop}(h:∀j,U j->V j){q:Nat}(hu:¬ U q)(hv:V q):∀n,q<n->ctU U n<ctU V n
 | 0,hq=>by omega
 | n+1,hq=>by
  show ctU U n+_<ctU V n+_
  by_cases e:q=n
  ·subst e;have:=ctU_le h q
   rw[if_neg hu,if_pos hv];omega
  ·have:=zkS h hu hv n (by omega)
   by_cases hn:U n
   ·rw[if_pos hn,if_pos (h n hn)];omega
   ·rw[if_neg hn];omega
theorem zdC{M:Mc}{D:Nat}:∀(ks:List Nat),(∀k ∈ ks,∃w,z8 D M k=some w)->∃ws,zae (z8 D M) ks=some ws
 | [],_=>⟨[],rfl⟩
 | k::ks,h=>by
  obtain⟨w,hw⟩:=h k List.mem_cons_self;obtain⟨ws,hws⟩:=zdC ks λq hq=>h q (List.mem_cons_of_mem _ hq)
  refine⟨w::ws,?_⟩;show (match z8 D M k with|none=>none|some w=>match zae (z8 D M) ks with|none=>none|some ws=>some (w::ws))=_;rw[hw,hws]
theorem zfM{M:Mc}(ha:Ac M)(hp:Pin M):∀(D:Nat) (k:Nat) (U:Nat->Prop),k<M.cells.length->Cz U M->U k->ctU U M.cells.length<=D->∃w,z8 D M k=some w
 | 0,k,U,hk,hc,hu,hD=>by
  have:=zkS (U:=λ_=>False) (V:=U) (λj h=>h.elim) (q:=k) (λh=>h) hu M.cells.length hk
  omega
 | D+1,k,U,hk,hc,hu,hD=>by
  obtain⟨c,hcc⟩:∃c,M.cells[k]?=some c:=⟨_,List.getElem?_eq_getElem hk⟩
  obtain⟨V,v1,v2,v3⟩:=ha k c hcc;have lk:=hc k c hu hcc;have hlt:=zkS (U:=λj=>V j/\U j) (V:=U) (λj h=>h.2) (q:=k) (λh=>v2 h.1) hu M.cells.length hk;obtain⟨ws,hws⟩:=zdC (M:=M) (D:=D) c.f.parts λq hq=>zfM ha hp D q (λj=>V j/\U j) (hp c (List.mem_of_getElem? hcc) q hq) (v1.and hc) ⟨v3.2 q hq,lk.2 q hq⟩ (by omega)
  rw[zaj hcc];split
  ·exact⟨_,rfl⟩
  ·split
   ·exact⟨_,rfl⟩
   ·split
    ·exact⟨_,rfl⟩
    ·rw[hws];exact⟨_,rfl⟩
theorem zjq{M:Mc}(ha:Ac M)(hp:Pin M){k:Nat}(hk:k<M.cells.length):∃d w,z8 d M k=some w:=by
 obtain⟨w,hw⟩:=zfM ha hp _ k (λ_=>True) hk (λk c _ _=>⟨λ_ _=>trivial,λ_ _=>trivial⟩) trivial (Nat.le_refl _);exact⟨_,w,hw⟩
theorem zfN:∀(d:Nat) (M:Mc) (k:Nat) (w:List UInt8),PL M->z8 d M k=some w->0<w.length/\z8 w.length M k=some w
 | 0,M,k,w,_,h=>by cases h
 | d+1,M,k,w,hl,h=>by
  cases hk:M.cells[k]? with
  | none=>
   have h:(match M.cells[k]? with|none=>none|some c=>_:Option (List UInt8))=some w:=h;rw[hk] at h;cases h
  | some c=>
   rw[zaj hk] at h;have hn:=(hl c (List.mem_of_getElem? hk)).2.1;have fin:0<w.length->z8 (w.length-1+1) M k=some w->0<w.length/\z8 w.length M k=some w:=λh1 h2=>⟨h1,by rw[show w.length-1+1=w.length by omega] at h2;exact h2⟩
   by_cases c0:c.done=false
   ·rw[if_pos c0] at h;cases h;exact fin (by simp) (by rw[zaj hk,if_pos c0])
   rw[if_neg c0] at h
   by_cases c1:c.f.kind=3
   ·rw[if_pos c1] at h;cases h;exact fin (by simp) (by rw[zaj hk,if_neg c0,if_pos c1])
   rw[if_neg c1] at h
   by_cases c2:c.f.kind=1
   ·rw[if_pos c2] at h;cases h;exact fin (zbo hn).1 (by rw[zaj hk,if_neg c0,if_neg c1,if_pos c2])
   rw[if_neg c2] at h;cases hT:zae (z8 d M) c.f.parts with
   | none=>rw[hT] at h;cases h
   | some ws=>
    rw[hT] at h;cases h;obtain⟨e1,e2⟩:=zaP _ _ hT;have hlen:∀x ∈ ws,x.length+1<=(conP c.f.num ws).length:=λx hx=>by
     have:0<ws.length:=List.length_pos_of_mem hx
     have hj:=zfk hx;unfold conP;rw[if_pos this];simp only[List.length_append,List.length_cons,List.length_nil];omega
    have hpos:0<(conP c.f.num ws).length:=by unfold conP;simp
    refine fin hpos ?_;rw[zaj hk,if_neg c0,if_neg c1,if_neg c2];have:zae (z8 ((conP c.f.num ws).length-1) M) c.f.parts=some ws:=by
     obtain⟨us,hus⟩:=zdC (M:=M) (D:=(conP c.f.num ws).length-1) c.f.parts λq hq=>by
      obtain⟨j,hj⟩:=List.mem_iff_getElem?.1 hq;obtain⟨w,w1,w2⟩:=e2 j q hj;exact⟨w,zcw (by have:=hlen w (List.mem_of_getElem? w1);omega) (zfN d M q w hl w2).2⟩
     obtain⟨f1,f2⟩:=zaP _ _ hus;have:us=ws:=by
      apply List.ext_getElem?;intro j
      by_cases hj:j<c.f.parts.length
      ·obtain⟨u,u1,u2⟩:=f2 j _ (List.getElem?_eq_getElem hj);obtain⟨w,w1,w2⟩:=e2 j _ (List.getElem?_eq_getElem hj);rw[u1,w1];have a1:=zcw (Nat.le_max_left ((conP c.f.num ws).length-1) d) u2;have a2:=zcw (Nat.le_max_right ((conP c.f.num ws).length-1) d) w2;rw[a1] at a2;exact a2
      ·rw[List.getElem?_eq_none (by omega),List.getElem?_eq_none (by omega)]
     rw[hus,this]
    rw[this]
end Am.F
end
section
namespace Am.F
open Go Am
theorem zao{X:Nat->Prop}{M M':Mc}(h:Lq X M M'):∀d,z8 d M'=z8 d M
 | 0=>rfl
 | d+1=>by
  have ih:=zao h d
  funext k
  cases hk:M.cells[k]? with
  | none=>
   have hl:=List.getElem?_eq_none_iff.1 hk;have hk':M'.cells[k]?=none:=List.getElem?_eq_none (by rw[h.len];exact hl);show (match M'.cells[k]? with|none=>none|some c=>_:Option (List UInt8))=(match M.cells[k]? with|none=>none|some c=>_:Option (List UInt8));rw[hk,hk']
  | some c=>
   obtain⟨e,e1,e2,_⟩:=h.cell k c hk;rw[zaj hk,zaj e1,ih];have f1:e.done=c.done:=by rw[e2]
   have f2:e.f=c.f:=by rw[e2]
   rw[f1,f2]
theorem Lq.czs{X U:Nat->Prop}{M M':Mc}(h:Lq X M M')(hc:Cz U M):Cz U M':=λk d hu hk=>by
 have hl:=(List.getElem?_eq_some_iff.1 hk).1;rw[h.len] at hl;obtain⟨e,e1,e2,_⟩:=h.cell k M.cells[k] (List.getElem?_eq_getElem hl);rw[hk] at e1;cases e1;have:=hc k _ hu (List.getElem?_eq_getElem hl)
 unfold Lk at this ⊢;rw[e2];exact this
def ST(U:Nat->Prop)(M:Mc):Prop:=∀(j:Nat) (c:Cl) (d:Nat) (w:List UInt8),U j->M.cells[j]?=some c->0<c.size->z8 d M j=some w->c.size=min (w.length:Int) 1025
theorem sz_at{M:Mc}{k:Nat}{c:Cl}(hk:M.cells[k]?=some c)(s:Int){j:Nat}{d:Cl}(h:(M.sz k c s).cells[j]?=some d):(j=k/\d={ c with size:=s })\/(j≠k/\M.cells[j]?=some d):=by
 have h:(M.cells.set k { c with size:=s })[j]?=some d:=h
 by_cases e:k=j
 ·subst e;rw[List.getElem?_set_self (List.getElem?_eq_some_iff.1 hk).1] at h;cases h;exact .inl ⟨rfl,rfl⟩
 ·rw[List.getElem?_set_ne e] at h;exact .inr ⟨λx=>e x.symm,h⟩
theorem zjy{M:Mc}{k:Nat}{c:Cl}{s:Int}{j:Nat}(h:j≠k):(M.sz k c s).cells[j]?=M.cells[j]?:=by
 show (M.cells.set k _)[j]?=_;rw[List.getElem?_set_ne λe=>h e.symm]
theorem zkX{M:Mc}{k:Nat}{d:Int}{j:Nat}(h:j≠k):(M.bump k d).cells[j]?=M.cells[j]?:=by
 unfold Mc.bump;split
 ·rfl
 ·exact zjy h
theorem ST.sz{U:Nat->Prop}{M:Mc}(h:ST U M){k:Nat}{c:Cl}(hk:M.cells[k]?=some c)(hc:¬ 0<c.size){s:Int}(hs:0<s/\s<=1025)(hw:∀d w,z8 d M k=some w->s=min (w.length:Int) 1025):ST U (M.sz k c s):=λj e d w hu hj hp ht=>by
 have L:Lq (λj=>j=k) M (M.sz k c s):=Lq.sz hk (λh=>absurd h hc) λ_=>by omega
 rw[zao L d] at ht;rcases sz_at hk s hj with⟨rfl,rfl⟩|⟨_,hj⟩
 ·exact hw d w ht
 ·exact h j e d w hu hj hp ht
def sumL(ws:List (List UInt8)):Nat:=(ws.map λw=>w.length+1).sum
theorem joinS:∀ws:List (List UInt8),ws≠[]->(Lib.join ws [32]).length+1=sumL ws
 | [],h=>absurd rfl h
 | [w],_=>by simp[Lib.join,sumL]
 | w::v::vs,_=>by
  have ih:=joinS (v::vs) (by simp);have e:(Lib.join (w::v::vs) [32]).length=w.length+1+(Lib.join (v::vs) [32]).length:=by simp[Lib.join];omega
  have e2:sumL (w::v::vs)=w.length+1+sumL (v::vs):=by simp[sumL]
  rw[e,e2];omega
theorem con_len(x:Int){ws:List (List UInt8)}(h:ws≠[]):(conP x ws).length=(conP x []).length+1+sumL ws:=by
 have hp:=List.length_pos_iff.2 h;have:=joinS ws h
 unfold conP;rw[if_pos hp,if_neg (by simp)];simp only[List.length_append,List.length_cons,List.length_nil];omega
structure LT (U:Nat->Prop) (M M':Mc):Prop where
 st:ST U M'
 un:∀j,¬ U j->M'.cells[j]?=M.cells[j]?
def LongT(n:Nat)(S:Mc->Nat->Mc):Prop:=∀M k U,Cz U M->U k->k<M.cells.length->Ac M->Pin M->Sz M->PL M->zs M.cells<=n->ST U M->LT U M (S M k)/\∀d w,z8 d M k=some w->szAt (S M k) k=min (w.length:Int) 1025
theorem zga{n:Nat}(IH:LongT n (zz n)){W:Nat->Prop}{k:Nat}(hkW:¬ W k):∀(qs:List Nat) (ws:List (List UInt8)) (M:Mc) (a:Int) (d:Nat),Cz W M->k<M.cells.length->Ac M->Pin M->Sz M->PL M->zs M.cells<=n->ST W M->(∀q ∈ qs,W q/\q<M.cells.length)->zae (z8 d M) qs=some ws->szAt M k=min a 1025->0<=a ->
  ST W (zaD (zz n) k M qs)/\(∀j,¬ W j->j≠k->(zaD (zz n) k M qs).cells[j]?=M.cells[j]?)/\szAt (zaD (zz n) k M qs) k=min (a+(sumL ws:Int)) 1025
 | [],ws,M,a,d,hc,hkl,ha,hp,hs,hl,hz,st,hq,ht,e,ha0=>by
  cases ht;exact⟨st,λ_ _ _=>rfl,by rw[show (sumL []:Int)=0 from rfl,Int.add_zero];exact e⟩
 | q::qs,ws,M,a,d,hc,hkl,ha,hp,hs,hl,hz,st,hq,ht,e,ha0=>by
  have hq1:=hq q List.mem_cons_self;have ht0:(match z8 d M q with|none=>none|some w=>match zae (z8 d M) qs with|none=>none|some ws=>some (w::ws))=some ws:=ht;cases hw:z8 d M q with
  | none=>rw[hw] at ht0;cases ht0
  | some w=>
   rw[hw] at ht0;have ht0:(match zae (z8 d M) qs with|none=>none|some ws=>some (w::ws))=some ws:=ht0;cases hT:zae (z8 d M) qs with
   | none=>rw[hT] at ht0;cases ht0
   | some ws'=>
    rw[hT] at ht0;cases ht0;obtain⟨lt,hsz⟩:=IH M q W hc hq1.1 hq1.2 ha hp hs hl hz st;have L1:=zcL n M q hs hl hz;have hszq:=hsz d w hw;have rg:=zdf (L1.szs hs) q;have L2:=Lq.bump (M:=zz n M q) (k:=k) (L1.szs hs) rg.1;have hkq:(zz n M q).cells[k]?=M.cells[k]?:=lt.un k hkW;have szk:szAt (zz n M q) k=szAt M k:=by unfold szAt;rw[hkq]
    have hkl1:k<(zz n M q).cells.length:=by rw[L1.len];exact hkl
    have szk2:szAt ((zz n M q).bump k (szAt (zz n M q) q)) k=min (a+((w.length:Int)+1)) 1025:=by
     have hx:(zz n M q).cells[k]?=some (zz n M q).cells[k]:=List.getElem?_eq_getElem hkl1;have:(zz n M q).bump k (szAt (zz n M q) q)=(zz n M q).sz k (zz n M q).cells[k] (min (szAt (zz n M q) k+szAt (zz n M q) q+1) 1025):=by
      unfold Mc.bump;rw[hx,show szAt (zz n M q) k=(zz n M q).cells[k].size by unfold szAt;rw[hx];rfl]
     rw[this,show ∀s,szAt ((zz n M q).sz k (zz n M q).cells[k] s) k=s from λs=>by unfold szAt Mc.sz;rw[List.getElem?_set_self hkl1];rfl,szk,e,hszq];omega
    have L12:Lq (λj=>j=k) M ((zz n M q).bump k (szAt (zz n M q) q)):=(L1.mono λj h=>h.elim).trans L2;have st2:ST W ((zz n M q).bump k (szAt (zz n M q) q)):=λj c d w hu hj hp ht=>by
     rw[zao L2 d] at ht;rw[zkX λe=>by subst e;exact hkW hu] at hj;exact lt.st j c d w hu hj hp ht
    have ts:=zao L12 d;obtain⟨r1,r2,r3⟩:=zga IH hkW qs ws' _ (a+((w.length:Int)+1)) d (L12.czs hc) (by rw[L12.len];exact hkl) (L12.ac ha) (L12.pin hp) (L12.szs hs) (L12.pl hl) (Nat.le_trans L12.zs hz) st2 (λx hx=>⟨(hq x (List.mem_cons_of_mem _ hx)).1,by rw[L12.len];exact (hq x (List.mem_cons_of_mem _ hx)).2⟩) (by rw[ts];exact hT) szk2 (by omega);refine⟨r1,λj hj hjk=>?_,?_⟩
    ·show (zaD (zz n) k ((zz n M q).bump k (szAt (zz n M q) q)) qs).cells[j]?=_;rw[r2 j hj hjk,zkX hjk,lt.un j hj]
    ·show szAt (zaD (zz n) k ((zz n M q).bump k (szAt (zz n M q) q)) qs) k=_;rw[r3];have:(sumL (w::ws'):Int)=((w.length:Int)+1)+(sumL ws':Int):=by
      have:sumL (w::ws')=(w.length+1)+sumL ws':=by simp[sumL]
      rw[this];omega
     rw[this];omega
theorem zie:∀n,LongT n (zz n)
 | 0=>λM k U hc hu hkl ha hp hs hl hz st=>by
  refine⟨⟨st,λ_ _=>rfl⟩,λd w hw=>?_⟩;have hk:M.cells[k]?=some M.cells[k]:=List.getElem?_eq_getElem hkl;have hpos:0<M.cells[k].size:=by
   apply Classical.byContradiction;intro hn;have:=zs_pos hk hn
   omega
  show szAt M k=_;rw[zdg hk];exact st k _ d w hu hk hpos hw
 | n+1=>λM k U hc hu hkl ha hp hs hl hz st=>by
  have IH:=zie n;obtain⟨c,hk⟩:∃c,M.cells[k]?=some c:=⟨_,List.getElem?_eq_getElem hkl⟩
  have hcm:=List.mem_of_getElem? hk;have hn:=(hl c hcm).2.1;have i1:=zbo hn;have i2:=zen hn;have hlm:zz (n+1) M k=if 0<c.size then M else if c.done=false\/c.f.kind=3 then M.sz k c 1 else if c.f.kind=1 then M.sz k c ((Lib.itoa c.f.num).length:Int) else if c.f.parts=[] then M.sz k c ((conP c.f.num []).length:Int) else zaD (zz n) k (M.sz k c ((conP c.f.num []).length+1:Int)) c.f.parts:=by
   show (match M.cells[k]? with|none=>_|some c=>_:Mc)=_;rw[hk]
  have tx:∀d w,z8 d M k=some w->∃d',(if c.done=false then some [95] else if c.f.kind=3 then some [33] else if c.f.kind=1 then some (Lib.itoa c.f.num) else match zae (z8 d' M) c.f.parts with|none=>none|some ws=>some (conP c.f.num ws))=some w:=λd w hw=>by
   cases d with
   | zero=>cases hw
   | succ d=>rw[zaj hk] at hw;exact⟨d,hw⟩
  rw[hlm]
  by_cases hs0:0<c.size
  ·rw[if_pos hs0];exact⟨⟨st,λ_ _=>rfl⟩,λd w hw=>by rw[zdg hk];exact st k c d w hu hk hs0 hw⟩
  rw[if_neg hs0];have once:∀s:Int,0<s/\s<=1025->(∀d w,z8 d M k=some w->s=min (w.length:Int) 1025)->LT U M (M.sz k c s)/\∀d w,z8 d M k=some w->szAt (M.sz k c s) k=min (w.length:Int) 1025:=λs h1 h2=>
   ⟨⟨st.sz hk hs0 h1 h2,λj hj=>zjy λe=>hj (e ▸ hu)⟩,λd w hw=>by rw[ze3 hk];exact h2 d w hw⟩
  by_cases c0:c.done=false\/c.f.kind=3
  ·rw[if_pos c0];refine once 1 (by omega) λd w hw=>?_
   obtain⟨d',hw⟩:=tx d w hw;have:w.length=1:=by
    by_cases x0:c.done=false
    ·rw[if_pos x0] at hw;cases hw;rfl
    ·rw[if_neg x0,if_pos (c0.resolve_left x0)] at hw;cases hw;rfl
   rw[this];rfl
  rw[if_neg c0];have n0:¬ c.done=false:=λh=>c0 (.inl h)
  have n3:¬ c.f.kind=3:=λh=>c0 (.inr h)
  by_cases c1:c.f.kind=1
  ·rw[if_pos c1];refine once _ (by omega) λd w hw=>?_
   obtain⟨d',hw⟩:=tx d w hw;rw[if_neg n0,if_neg n3,if_pos c1] at hw;cases hw;omega
  rw[if_neg c1]
  by_cases cp:c.f.parts=[]
  ·rw[if_pos cp];refine once _ (by omega) λd w hw=>?_
   obtain⟨d',hw⟩:=tx d w hw;rw[if_neg n0,if_neg n3,if_neg c1,cp] at hw;have:w=conP c.f.num []:=by
    have hw:some (conP c.f.num [])=some w:=hw;cases hw;rfl
   rw[this];omega
  rw[if_neg cp];obtain⟨V,v1,v2,v3⟩:=ha k c hk;have lk:=hc k c hu hk;have L0:Lq (λj=>j=k) M (M.sz k c ((conP c.f.num []).length+1:Int)):=Lq.sz hk (λh=>absurd h hs0) λ_=>⟨by omega,by omega⟩
  have hzz:=zfI M.cells k c { c with size:=((conP c.f.num []).length+1:Int) } hk hs0 (by show (0:Int)<((conP c.f.num []).length+1:Int);omega);have hW:Cz (λj=>V j/\U j) M:=v1.and hc;have st0:ST (λj=>V j/\U j) (M.sz k c ((conP c.f.num []).length+1:Int)):=λj e d w hj he hp ht=>by
   rw[zao L0 d] at ht;rw[zjy λx:j=k=>v2 (by rw[<- x];exact hj.1)] at he;exact st j e d w hj.2 he hp ht
  obtain⟨D,w0,hw0⟩:=zjq ha hp hkl;obtain⟨d',hd'⟩:=tx D w0 hw0;rw[if_neg n0,if_neg n3,if_neg c1] at hd';cases hT:zae (z8 d' M) c.f.parts with
  | none=>rw[hT] at hd';cases hd'
  | some ws=>
   rw[hT] at hd';cases hd';obtain⟨wl,_⟩:=zaP _ _ hT;have hwne:ws≠[]:=λe=>cp (List.eq_nil_of_length_eq_zero (by rw[<- wl,e];rfl))
   have hcl:=con_len c.f.num hwne;obtain⟨r1,r2,r3⟩:=zga IH (W:=λj=>V j/\U j) (k:=k) (λh=>v2 h.1) c.f.parts ws (M.sz k c ((conP c.f.num []).length+1:Int)) ((conP c.f.num []).length+1:Int) d' (L0.czs hW) (by rw[L0.len];exact hkl) (L0.ac ha) (L0.pin hp) (L0.szs hs) (L0.pl hl) (by show zs (M.cells.set k _)<=n;omega) st0 (λq hq=>⟨⟨v3.2 q hq,lk.2 q hq⟩,by rw[L0.len];exact hp c hcm q hq⟩) (by rw[zao L0 d'];exact hT) (by rw[ze3 hk];omega) (by omega);have L1:=zdF (n:=n) (S:=zz n) (k:=k) (λM q a b c=>zcL n M q a b c) c.f.parts _ (L0.szs hs) (L0.pl hl) (by show zs (M.cells.set k _)<=n;omega);have LL:=L0.trans L1;have szk:∀d w,z8 d M k=some w->szAt (zaD (zz n) k (M.sz k c ((conP c.f.num []).length+1:Int)) c.f.parts) k=min (w.length:Int) 1025:=λd w hw=>by
    have e1:=zcw (Nat.le_max_left d D) hw;have e2:=zcw (Nat.le_max_right d D) hw0;rw[e1] at e2;cases e2;rw[r3,hcl];omega
   refine⟨⟨λj e d w hj he hpos ht=>?_,λj hj=>?_⟩,szk⟩
   ·rw[zao LL d] at ht
    by_cases hjk:j=k
    ·subst hjk;have:=szk d w ht
     rw[zdg he] at this;exact this
    ·by_cases hv:V j
     ·exact r1 j e d w ⟨hv,hj⟩ he hpos (by rw[zao LL d];exact ht)
     ·rw[r2 j (λh=>hv h.1) hjk,zjy hjk] at he;exact st j e d w hj he hpos ht
   ·have hjk:j≠k:=λe=>hj (e ▸ hu)
    rw[r2 j (λh=>hj h.2) hjk,zjy hjk]
end Am.F
end
section
namespace Am.F
open Go Am
def tooM(B:Nat):Mc->List Nat->Bool × Mc
 | M,[]=>(false,M)
 | M,q::qs=>if 1024<szAt (zz B M q) q then (true,zz B M q) else tooM B (zz B M q) qs
theorem zhF{B:Nat}:∀(qs:List Nat) (M:Mc),Sz M->PL M->zs M.cells<=B->Lq (λ_=>False) M (tooM B M qs).2
 | [],M,_,_,_=>Lq.refl _ M
 | q::qs,M,h1,h2,h3=>by
  have a:=zcL B M q h1 h2 h3;show Lq _ M (if _ then _ else _:Bool × Mc).2;split
  ·exact a
  ·exact a.trans (zhF qs _ (a.szs h1) (a.pl h2) (Nat.le_trans a.zs h3))
theorem zfJ{B:Nat}:∀(ks:List Nat) (M:Mc) (j:Nat) (k:Nat),ks[j]?=some k->(tooM B M (ks.take j)).1=false ->
  tooM B M (ks.take (j+1))=(if 1024<szAt (zz B (tooM B M (ks.take j)).2 k) k then (true,zz B (tooM B M (ks.take j)).2 k) else (false,zz B (tooM B M (ks.take j)).2 k))
 | [],M,j,k,h,_=>by simp at h
 | x::ks,M,0,k,h,_=>by
  cases h;rfl
 | x::ks,M,j+1,k,h,ht=>by
  have h:ks[j]?=some k:=by simpa using h
  have ht:(if 1024<szAt (zz B M x) x then (true,zz B M x) else tooM B (zz B M x) (ks.take j)).1=false:=ht
  by_cases hx:1024<szAt (zz B M x) x
  ·rw[if_pos hx] at ht;cases ht
  ·rw[if_neg hx] at ht;have ih:=zfJ ks (zz B M x) j k h ht;show (if 1024<szAt (zz B M x) x then (true,zz B M x) else tooM B (zz B M x) (ks.take (j+1)))=_;rw[if_neg hx,ih];have e:tooM B M ((x::ks).take (j+1))=tooM B (zz B M x) (ks.take j):=by
    show (if 1024<szAt (zz B M x) x then (true,zz B M x) else tooM B (zz B M x) (ks.take j))=_;rw[if_neg hx]
   rw[e]
theorem zfK{B:Nat}:∀(ks:List Nat) (M:Mc) (j:Nat),(tooM B M (ks.take j)).1=true->tooM B M ks=tooM B M (ks.take j)
 | ks,M,0,h=>by cases h
 | [],M,j+1,h=>by rw[List.take_nil]
 | x::ks,M,j+1,h=>by
  have h:(if 1024<szAt (zz B M x) x then (true,zz B M x) else tooM B (zz B M x) (ks.take j)).1=true:=h;show (if 1024<szAt (zz B M x) x then (true,zz B M x) else tooM B (zz B M x) ks)=(if 1024<szAt (zz B M x) x then (true,zz B M x) else tooM B (zz B M x) (ks.take j))
  by_cases hx:1024<szAt (zz B M x) x
  ·rw[if_pos hx,if_pos hx]
  ·rw[if_neg hx] at h⊢;rw[if_neg hx];exact zfK ks _ j h
section
variable {β:Type} {t:ETree} {p:List Df} {mb:Nat} {dv:AV} {g h:H} {G:Gst} {M:Mc}
set_option maxHeartbeats 1000000 in
theorem j160{B m:Nat}(IH:LongW β t p mb dv B m)(pm:PM p mb dv g h G M)(hi:Pin M)(hl:PL M)(hz:Sz M)(hb:zs M.cells<=B){ks:List Nat}{v:AV}(hs:SlAt g v (ptrs G.A ks))(hlt:∀q ∈ ks,q<M.cells.length)(hk8:ks.length<=9)(hm:12<=m)
  (k:K β) (R:Option β) (hk:∀h',Stq mb g h G g h' G->PM p mb dv g h' G (tooM B M ks).2->k (.bool (tooM B M ks).1) h'=R) {x0 x1 x2 x6:AV} :
  (zaR 7 m<|.mk (f160_L22 (ze t stdI m) k (f160_J0 k))) x0 x1 x2 v (.int .i64 (ks.length:Int)) (.int .i64 0) x6 h=R:=by
 have hroom:room=68719476736:=rfl;refine zaa 7 m _ _ (λi x0 x1 x2 x3 x4 x5 x6 h'=>x3=v/\x4 = .int .i64 (ks.length:Int)/\∃(j:Nat),x5 = .int .i64 (j:Int)/\j+i=ks.length/\Stq mb g h G g h' G/\PM p mb dv g h' G (tooM B M (ks.take j)).2/\(tooM B M (ks.take j)).1=false) ks.length (by omega) ?_ _ _ _ _ _ _ _ _
  ⟨rfl,rfl,0,rfl,by omega,pm.stp,pm,rfl⟩
 intro l i ih x0 x1 x2 x3 x4 x5 x6 h' ⟨p1,p2,j,p3,hj,st,pm',ht⟩;rw[p1,p2,p3];clear p1 p2 p3;have L1:=zhF (B:=B) (ks.take j) M hz hl hb;cases i with
 | zero=>
  have hjk:j=ks.length:=by omega
  subst hjk;rw[List.take_length] at pm' ht;have fin:=hk h' st pm';rw[ht] at fin;simp (disch:=first|omega|simp only[zD]<;>omega|assumption) only[↓zR,↓zRM,zR,zRM,reduceAdd,reduceMul,reduceToNat,↓f160_L22,↓f160_J0];exact fin
 | succ i=>
  have hjk:j<ks.length:=by omega
  have cj:(j:Int)<(ks.length:Int):=by omega
  obtain⟨q,hkq⟩:∃q,ks[j]?=some q:=⟨_,List.getElem?_eq_getElem hjk⟩
  have hqm:=List.mem_of_getElem? hkq;have hld:=λkc:VK β=>(hs.un pm'.un).load (kd:=.i64) (i:=(j:Int)) (by omega) (by rw[zC];omega) kc
  have hge:(ptrs G.A ks).getD j (.tup []) = .ptr (G.A.getD q 0) 0:=by
   rw[List.getD_eq_getElem?_getD,zbR (by omega),List.getD_eq_getElem?_getD (l:=ks),hkq];rfl
  have hgd:(ptrs G.A ks).getD ((j:Int)).toNat (.tup []) = .ptr (G.A.getD q 0) 0:=by rw[Int.toNat_natCast];exact hge
  have W:=IH g h' G _ q pm' (L1.pin hi) (L1.pl hl) (L1.szs hz) (by rw[L1.len];exact hlt q hqm) (Nat.le_trans L1.zs hb);have htk:=zfJ ks M j q hkq ht;obtain⟨M2,hM2⟩:∃M2,M2=zz B (tooM B M (ks.take j)).2 q:=⟨_,rfl⟩
  rw[<- hM2] at W htk;obtain⟨d,hd⟩:∃d,d=szAt M2 q:=⟨_,rfl⟩
  rw[<- hd] at W htk;have post:∀(u:AV) (h2:H),(Stq mb g h' G g h2 G/\PM p mb dv g h2 G M2/\u = .int .i64 d)->u = .int .i64 d/\Stq mb g h G g h2 G/\PM p mb dv g h2 G M2:=λu h2 ⟨s2,pm2,eu⟩=>⟨eu,st.trans s2,pm2⟩
  by_cases hc:1024<d
  ·rw[if_pos hc] at htk;have hst:=zfK (B:=B) ks M (j+1) (by rw[htk]);rw[hst,htk] at hk;have hc':d>1024:=hc;simp (disch:=first|omega|simp only[zD]<;>omega|assumption) only[↓zR,↓zRM,zR,zRM,reduceAdd,reduceMul,reduceToNat,↓f160_L22,↓f160_J24,hld,hgd,hge];refine W _ _ ?_;intro u h2 hu;have P:=post u h2 hu;have eu:=P.1;have fin:=hk h2 P.2.1 P.2.2;simp (disch:=first|omega|simp only[zD]<;>omega|assumption) only[↓zR,↓zRM,zR,zRM,reduceAdd,reduceMul,reduceToNat,eu];exact fin
  ·rw[if_neg hc] at htk;simp (disch:=first|omega|simp only[zD]<;>omega|assumption) only[↓zR,↓zRM,zR,zRM,reduceAdd,reduceMul,reduceToNat,↓f160_L22,↓f160_J24,hld,hgd,hge];refine W _ _ ?_;intro u h2 hu;have P:=post u h2 hu;have eu:=P.1;simp (disch:=first|omega|simp only[zD]<;>omega|assumption) only[↓zR,↓zRM,zR,zRM,reduceAdd,reduceMul,reduceToNat,↓f160_J25,eu];exact ih i (by omega) _ _ _ _ _ _ _ _ ⟨rfl,rfl,j+1,rfl,by omega,P.2.1,by rw[htk];exact P.2.2,by rw[htk]⟩
set_option maxHeartbeats 1000000 in
theorem GN11.w160(TN:GN11 t){B m:Nat}(IH:LongW β t p mb dv B m)(pm:PM p mb dv g h G M)(hi:Pin M)(hl:PL M)(hz:Sz M)(hb:zs M.cells<=B){j b:Nat}{c:Ca}(hj:M.calls[j]?=some c)(hbj:G.CA[j]?=some b)(hlt:∀q ∈ c.args,q<M.cells.length)(hrl:c.res<M.cells.length)(ha8:c.args.length<=8)(hm:12<=m) :
  Sp (β:=β) (ze t stdI (m+1) (.fn 160 []) [.ptr b 0] h) λu h'=>∃g',Stq mb g h G g' h' G/\PM p mb dv g' h' G (tooM B M (c.args++[c.res])).2/\u = .bool (tooM B M (c.args++[c.res])).1:=by
 intro k R hkk;have hroom:room=68719476736:=rfl;obtain⟨q1,av,q2,q3,q4⟩:=pm.call j c b hj hbj;have hbh:b<h.n:=by rw[<- pm.gn];exact q1
 have gb:(h.get b).cells=some [.int .i64 c.fn,.int .i64 c.parent,av,.ptr (G.A.getD c.res 0) 0]:=by rw[pm.un.get b q1 (by rw[q2];simp[Blk.cells]),q2];rfl
 have lav:∀kc:VK β,qLenL av (.mk kc)=kc (.int .i64 (c.args.length:Int)):=λkc=>by rw[q3.len,zC]
 obtain⟨v',w1,w2,w3⟩:=q4.sl3 (β:=β);obtain⟨pm1,s1⟩:=pm.pushV (.own 0 [.ptr (G.A.getD c.res 0) 0]);have w5:=w3 _ _ (zC _ _) ((q3.ext s1.eg).un pm1.un);have ck:=λkk:VK β=>SlAt.chk (β:=β) q3 kk
 have hx:SlAt (h.push (.own 0 [.ptr (G.A.getD c.res 0) 0])) (.sl h.n 0 1 1 none) [.ptr (G.A.getD c.res 0) 0]:=.inr ⟨h.n,0,1,none,[.ptr (G.A.getD c.res 0) 0],rfl,by rw[H.n_push];omega,by rw[zf rfl];rfl,rfl,by simp⟩;obtain⟨pm2,s2⟩:=pm1.pushV (.own 0 (ptrs G.A c.args++[.ptr (G.A.getD c.res 0) 0]));have hpp:ptrs G.A c.args++[.ptr (G.A.getD c.res 0) 0]=ptrs G.A (c.args++[c.res]):=by rw[zfd];rfl
 have hn1:(h.push (.own 0 [.ptr (G.A.getD c.res 0) 0])).n=h.n+1:=H.n_push _ _;have gn1:(g.push (.own 0 [.ptr (G.A.getD c.res 0) 0])).n=h.n+1:=by rw[H.n_push,pm.gn]
 have hs:SlAt ((g.push (.own 0 [.ptr (G.A.getD c.res 0) 0])).push (.own 0 (ptrs G.A c.args++[.ptr (G.A.getD c.res 0) 0]))) (.sl (h.push (.own 0 [.ptr (G.A.getD c.res 0) 0])).n 0 (c.args.length+1) (c.args.length+1) (some 1)) (ptrs G.A (c.args++[c.res])):=by
  refine .inr ⟨_,0,c.args.length+1,some 1,ptrs G.A (c.args++[c.res]),by rw[zC,List.length_append];rfl,by (simp only[H.n_push];have:=pm.gn;omega),by rw[zf (by omega),hpp];rfl,by rw[List.drop_zero,List.take_length],by rw[zC,List.length_append];simp⟩
 have hll:(c.args++[c.res]).length=c.args.length+1:=by rw[List.length_append];rfl
 have J:=λy0 y1 y2 y6=>j160 (β:=β) (B:=B) (m:=m) IH pm2 hi hl hz hb hs (λq hq=>by
  rcases List.mem_append.1 hq with hq|hq
  ·exact hlt q hq
  ·rw[List.mem_singleton.1 hq];exact hrl) (by omega) hm k R (λh' st pm'=>hkk _ h' ⟨_,(s1.trans s2).trans st,pm',rfl⟩) (x0:=y0) (x1:=y1) (x2:=y2) (x6:=y6)
 rw[hll] at J;rw[TN.c160];unfold f160;simp (disch:=first|omega|simp only[zD]<;>omega|assumption) only[↓zR,↓zRM,zR,zRM,reduceAdd,reduceMul,reduceToNat,zN,gb,lav,w1,ck];refine zgs w5 w2 (zC _ _) hx ⟨by rw[zC];simp;omega,by omega⟩ (λh0=>by cases h0) ?_;intro _;simp (disch:=first|omega|simp only[zD]<;>omega|assumption) only[↓zR,↓zRM,zR,zRM,reduceAdd,reduceMul,reduceToNat];exact J _ _ _ _
end
end Am.F
end
section
namespace Am.F
open Go Am
structure NC (M:Mc):Prop where
 z:∀c ∈ M.cells,c.size=0
 a:∀c ∈ M.calls,c.args.length<=3
theorem NC.add{M:Mc}(h:NC M){c:Cl}(hc:c.size=0):NC (M.add c):=⟨λd hd=>by
 rcases List.mem_append.1 hd with hd|hd
 ·exact h.z d hd
 ·rw[List.mem_singleton.1 hd];exact hc,h.a⟩
theorem NC.put{M:Mc}(h:NC M)(k:Nat)(x:Fd):NC (M.put k x):=by
 unfold Mc.put;cases hk:M.cells[k]? with
 | none=>exact h
 | some c=>exact⟨λd hd=>by
   rcases List.mem_or_eq_of_mem_set hd with hd|hd
   ·exact h.z d hd
   ·rw[hd];exact h.z c (List.mem_of_getElem? hk),h.a⟩
theorem NC.mark{M:Mc}(h:NC M){k:Nat}{c:Cl}(hk:M.cells[k]?=some c):NC (M.mark k c):=⟨λd hd=>by
   rcases List.mem_or_eq_of_mem_set hd with hd|hd
   ·exact h.z d hd
   ·rw[hd];exact h.z c (List.mem_of_getElem? hk),h.a⟩
theorem NC.kid{M:Mc}(h:NC M)(b:List Ex)(t:List Nat)(nd a:Int):NC (kidM b t nd a M).2:=by
 unfold kidM;split
 ·exact h
 ·split
  ·exact h
  ·exact h.add rfl
theorem NC.kids(b:List Ex)(t:List Nat)(nd:Int):∀(as:List Int) {M:Mc},NC M->NC (zT b t nd as M).2
 | [],M,h=>h
 | a::as,M,h=>NC.kids b t nd as (h.kid b t nd a)
theorem NC.call{M:Mc}(h:NC M)(fn parent:Int){args:List Nat}(ha:args.length<=3):NC (M.call fn parent args):=⟨(h.add (c:=cl0 [] 0 [] 0) rfl).z,λd hd=>by
 rcases List.mem_append.1 hd with hd|hd
 ·exact h.a d hd
 ·rw[List.mem_singleton.1 hd];exact ha⟩
def NcP(p:List Df)(P:Pt):Prop:=∀M b t nd a,WFM p M->zp p b t a->Gds p M t->NC M->NC (P M b t nd a).2
theorem zh7{p:List Df}{P:Pt}(hP:NcP p P){M:Mc}{k:Nat}(hw:WFM p M)(hk:Fo p M k)(h:NC M):NC (zH P M k).2:=by
 obtain⟨c,hc,hf⟩:=hk;have hcm:=List.mem_of_getElem? hc;unfold zH;rw[hc];show NC (if c.done=true then _ else _:Fd × Mc).2;split
 ·exact h
 ·rename_i hd;have h1:=hP M c.body c.there c.node c.at_ hw (hf (by simpa using hd)) (hw.cell c hcm).1 h;show NC (if _ then _ else _:Fd × Mc).2;split
  ·exact h1
  ·exact h1.put k _
theorem zh8{p:List Df}{P:Pt}(hP:NcP p P){M:Mc}{fn parent:Int}{args:List Nat}(hw:WFM p M)(ha:Gds p M args)(hf:zp p (zn p fn.toNat) args (((zn p fn.toNat).length:Int)-1))(h:NC M)(h3:args.length<=3):NC (callM p P M fn parent args).2:=by
 have h1:=hP (M.call fn parent args) (zn p fn.toNat) args (M.calls.length:Int) _ (hw.call' fn parent ha) hf (ha.mono (Mono.call M fn parent args)) (h.call fn parent h3);show NC (if _ then _ else _:Mc);split
 ·exact h1
 ·exact h1.put _ _
set_option maxHeartbeats 2000000 in
theorem zhi{p:List Df}(hp:zo p=true):∀N,NcP p (zm p N)
 | 0=>λM _ _ _ _ _ _ _ h=>h
 | N+1=>λM body there node a hw hf hg h=>by
  have ih:=zhi hp N;have ok:=zbi hp N;have hm:=Mono.part p N;obtain⟨e,l,he,hl8,hpp,hl,h0,hmem,hbd,hkid⟩:=hf.at_;have m1:Mono M { M with left:=M.left-1 }:=Mono.left M _ _;have w1:WFM p { M with left:=M.left-1 }:=hw.left _ _;have g1:=hg.mono m1;have hk3:=hpp.kids;have h':NC { M with left:=M.left-1 }:=⟨h.z,h.a⟩
  show NC (if _ then _ else _:Fd × Mc).2;split
  ·exact h
  split
  ·exact⟨h.z,h.a⟩
  show NC (match body[a.toNat]? with|none=>_|some e=>_:Fd × Mc).2;rw[he];show NC (if _ then _ else _:Fd × Mc).2;have allk:(e.kind≠5/\e.kind≠6)->∀x ∈ e.kids,zp p body there x:=λh x hx=>by
   obtain⟨q,hq⟩:=List.mem_iff_getElem?.1 hx;exact (hkid q x hq).2.2 there (by rw[zh (.inr h),hl];omega)
  split
  ·exact h'
  split
  ·rename_i c1;have hn:0<=e.num/\e.num<=l-1:=by unfold zq at hpp;omega
   have:e.num.toNat<there.length:=by omega
   refine zh7 ih w1 (Gd.fo ?_) h';rw[List.getD_eq_getElem?_getD,List.getElem?_eq_getElem this];exact g1 _ (List.getElem_mem this)
  split
  ·rename_i c2;obtain⟨w2,g2,l2⟩:=zaS (node:=node) e.kids (allk (by omega)) g1 w1;obtain⟨_,_,hfr⟩:=zaV hp hbd hmem c2 hpp l2;exact zh8 ih w2 g2 hfr (NC.kids body there node e.kids h') (by rw[l2];exact hk3)
  split
  ·exact NC.kids body there node e.kids h'
  split
  ·rename_i c4;have hk2:=hpp.kids2 (.inl c4);have f0:=(hkid 0 _ (zt e (by omega))).2.2 there (by rw[zh (.inl (by omega)),hl];omega);have f1:=(hkid 1 _ (zt e (by omega))).2.2 there (by rw[zh (.inr (by omega)),hl];omega);have q1:=ih { M with left:=M.left-1 } body there node _ w1 f0 g1 h';obtain⟨w2,g2⟩:=ok { M with left:=M.left-1 } body there node _ w1 f0 g1;unfold zbc;show NC (if _ then _ else _:Fd × Mc).2;split
   ·exact q1
   ·have q2:=ih _ body there node _ w2 f1 (g1.mono (hm _ _ _ _ _)) q1;show NC (if _ then _ else _:Fd × Mc).2;split
    ·exact q2
    ·exact q2
  split
  ·rename_i c5;have hk3':=hpp.kids3 c5;have f0:=(hkid 0 _ (zt e (by omega))).2.2 there (by rw[zh (.inl (by omega)),hl];omega);have f2:=(hkid 2 _ (zt e (by omega))).2.2 there (by rw[zh (.inl (by omega)),hl];omega);have q1:=ih { M with left:=M.left-1 } body there node _ w1 f0 g1 h';obtain⟨w2,g2⟩:=ok { M with left:=M.left-1 } body there node _ w1 f0 g1;have gt:=g1.mono (hm { M with left:=M.left-1 } body there node (e.kids.getD 0 0));show NC (if _ then _ else _:Fd × Mc).2;split
   ·exact q1
   ·split
    ·rename_i c;have f1:=(hkid 1 _ (zt e (by omega))).2.2 (there++(zm p N { M with left:=M.left-1 } body there node (e.kids.getD 0 0)).1.parts) (by
      rw[List.length_append];have:more e (1:Nat)=e.bind:=by unfold more;rw[if_pos (by rfl),if_pos c5]
      rw[this];have:=c.2.2;omega)
     exact ih _ body _ node _ w2 f1 (gt.app g2) q1
    ·exact ih _ body there node _ w2 f2 gt q1
  split
  ·rename_i c6;have hk2:=hpp.kids2 (.inr c6);have f0:=(hkid 0 _ (zt e (by omega))).2.2 there (by rw[zh (.inl (by omega)),hl];omega);obtain⟨w2,g2⟩:=zcj (node:=node) f0 g1 w1;have q1:=h'.kid body there node (e.kids.getD 0 0);have gt:=g1.mono (Mono.kid body there node (e.kids.getD 0 0) { M with left:=M.left-1 });have f1:=(hkid 1 _ (zt e (by omega))).2.2 (there++[(kidM body there node (e.kids.getD 0 0) { M with left:=M.left-1 }).1]) (by
    rw[List.length_append];have:more e (1:Nat)=1:=by unfold more;rw[if_pos (by rfl),if_neg (by omega),if_pos c6]
    rw[this];simp;omega)
   exact ih _ body _ node _ w2 f1 (gt.app (Gds.one g2)) q1
  ·exact h'
theorem zhQ{p:List Df}{S:Mc->Nat->Bool × Mc}(hS:∀M k,WFM p M->Gd p M k->NC M->Kept p M (S M k).2/\NC (S M k).2):∀(ks:List Nat) (M:Mc),WFM p M->Gds p M ks->NC M->NC (zRq9 S M ks).2
 | [],M,hw,_,h=>h
 | k::ks,M,hw,hg,h=>by
  have h1:=hS M k hw (hg k List.mem_cons_self) h;show NC (if (S M k).1=true then _ else _:Bool × Mc).2;split
  ·exact zhQ hS ks _ h1.1.wf (λq hq=>(hg q (List.mem_cons_of_mem _ hq)).mono h1.1.mo) h1.2
  ·exact h1.2
theorem zjF{p:List Df}(hp:zo p=true):∀n M k,WFM p M->Fo p M k->NC M->NC (zaM p n M k).2
 | 0,M,k,hw,_,h=>h
 | n+1,M,k,hw,hk,h=>by
  have ih:=zjF hp n;have hk0:=hk;obtain⟨c,hc,hf⟩:=hk;show NC (match M.cells[k]? with|none=>_|some c=>_:Bool × Mc).2;rw[hc];show NC (if c.shown=true then _ else _:Bool × Mc).2;split
  ·exact h
  ·have k2:=zh7 (zhi hp 1001) (hw.mark hc) (Fo.mark hc hk0) (h.mark hc);have w2:=zcc hp (hw.mark hc) (Fo.mark hc hk0) 1001;show NC (if _ then _ else _:Bool × Mc).2;split
   ·exact k2
   ·exact zhQ (λM k hw hg h=>⟨zcI hp n M k hw hg.fo,ih M k hw hg.fo h⟩) _ _ w2.wf (zbE w2.wf k) k2
end Am.F
end
section
namespace Am.F
open Go Am
structure LG (B:Nat) (M:Mc):Prop where
 ac:Ac M
 pin:Pin M
 sz:Sz M
 pl:PL M
 zb:zs M.cells<=B
 st:ST (λ_=>True) M
theorem czT(M:Mc):Cz (λ_=>True) M:=λk c _ _=>⟨λ_ _=>trivial,λ_ _=>trivial⟩
theorem LG.long{B:Nat}{M:Mc}(h:LG B M){q:Nat}(hq:q<M.cells.length):LG B (zz B M q)/\Lq (λ_=>False) M (zz B M q)/\∀d w,z8 d M q=some w->szAt (zz B M q) q=min (w.length:Int) 1025:=by
 have L:=zcL B M q h.sz h.pl h.zb;obtain⟨lt,hs⟩:=zie B M q (λ_=>True) (czT M) trivial hq h.ac h.pin h.sz h.pl h.zb h.st;exact⟨⟨L.ac h.ac,L.pin h.pin,L.szs h.sz,L.pl h.pl,Nat.le_trans L.zs h.zb,lt.st⟩,L,hs⟩
def zfH(M:Mc)(q:Nat):Prop:=∃w,z8 1024 M q=some w/\w.length<=1024
theorem zhG{B:Nat}:∀(ks:List Nat) (M:Mc),LG B M->(∀q ∈ ks,q<M.cells.length)->LG B (tooM B M ks).2/\((tooM B M ks).1=false↔∀q ∈ ks,zfH M q)
 | [],M,h,_=>⟨h,⟨λ_ q hq=>(List.not_mem_nil hq).elim,λ_=>rfl⟩⟩
 | q::ks,M,h,hk=>by
  obtain⟨h1,L,hs⟩:=h.long (hk q List.mem_cons_self);obtain⟨d,w,hw⟩:=zjq h.ac h.pin (hk q List.mem_cons_self);have e:=hs d w hw;have hd:=(zfN d M q w h.pl hw).2;have ih:=zhG ks (zz B M q) h1 λx hx=>by rw[L.len];exact hk x (List.mem_cons_of_mem _ hx)
  have sh:∀x,zfH (zz B M q) x↔zfH M x:=λx=>by unfold zfH;rw[zao L 1024]
  by_cases hc:1024<szAt (zz B M q) q
  ·have et:tooM B M (q::ks)=(true,zz B M q):=if_pos hc;rw[et];refine⟨h1,⟨λhh=>(by cases hh),λhh=>?_⟩⟩;obtain⟨w',w1,w2⟩:=hh q List.mem_cons_self;have:=hs 1024 w' w1
   omega
  ·have et:tooM B M (q::ks)=tooM B (zz B M q) ks:=if_neg hc;rw[et];refine⟨ih.1,ih.2.trans ⟨λhh x hx=>?_,λhh x hx=>(sh x).2 (hh x (List.mem_cons_of_mem _ hx))⟩⟩;rcases List.mem_cons.1 hx with rfl|hx
   ·have hl:w.length<=1024:=by omega
    exact⟨w,zcw hl hd,hl⟩
   ·exact (sh x).1 (hh x hx)
def zZ(B:Nat):Mc->List Ca->Bool × Mc
 | M,[]=>(false,M)
 | M,c::cs=>if (tooM B M (c.args++[c.res])).1=true then (true,(tooM B M (c.args++[c.res])).2) else zZ B (tooM B M (c.args++[c.res])).2 cs
theorem zdQ{B:Nat}:∀(ks:List Ca) (M:Mc) (j:Nat) (k:Ca),ks[j]?=some k->(zZ B M (ks.take j)).1=false ->
  zZ B M (ks.take (j+1))=(if (tooM B (zZ B M (ks.take j)).2 (k.args++[k.res])).1=true then (true,(tooM B (zZ B M (ks.take j)).2 (k.args++[k.res])).2) else (false,(tooM B (zZ B M (ks.take j)).2 (k.args++[k.res])).2))
 | [],M,j,k,h,_=>by simp at h
 | x::ks,M,0,k,h,_=>by
  cases h;rfl
 | x::ks,M,j+1,k,h,ht=>by
  have h:ks[j]?=some k:=by simpa using h
  have ht:(if (tooM B M (x.args++[x.res])).1=true then (true,(tooM B M (x.args++[x.res])).2) else zZ B (tooM B M (x.args++[x.res])).2 (ks.take j)).1=false:=ht
  by_cases hx:(tooM B M (x.args++[x.res])).1=true
  ·rw[if_pos hx] at ht;cases ht
  ·rw[if_neg hx] at ht;have ih:=zdQ ks _ j k h ht;show (if (tooM B M (x.args++[x.res])).1=true then (true,(tooM B M (x.args++[x.res])).2) else zZ B (tooM B M (x.args++[x.res])).2 (ks.take (j+1)))=_;rw[if_neg hx,ih];have e:zZ B M ((x::ks).take (j+1))=zZ B (tooM B M (x.args++[x.res])).2 (ks.take j):=by
    show (if (tooM B M (x.args++[x.res])).1=true then (true,(tooM B M (x.args++[x.res])).2) else zZ B (tooM B M (x.args++[x.res])).2 (ks.take j))=_;rw[if_neg hx]
   rw[e]
theorem zdR{B:Nat}:∀(ks:List Ca) (M:Mc) (j:Nat),(zZ B M (ks.take j)).1=true->zZ B M ks=zZ B M (ks.take j)
 | ks,M,0,h=>by cases h
 | [],M,j+1,h=>by rw[List.take_nil]
 | x::ks,M,j+1,h=>by
  have h:(if (tooM B M (x.args++[x.res])).1=true then (true,(tooM B M (x.args++[x.res])).2) else zZ B (tooM B M (x.args++[x.res])).2 (ks.take j)).1=true:=h;show (if (tooM B M (x.args++[x.res])).1=true then (true,(tooM B M (x.args++[x.res])).2) else zZ B (tooM B M (x.args++[x.res])).2 ks)=(if (tooM B M (x.args++[x.res])).1=true then (true,(tooM B M (x.args++[x.res])).2) else zZ B (tooM B M (x.args++[x.res])).2 (ks.take j))
  by_cases hx:(tooM B M (x.args++[x.res])).1=true
  ·rw[if_pos hx,if_pos hx]
  ·rw[if_neg hx] at h⊢;rw[if_neg hx];exact zdR ks _ j h
def CaIn(M:Mc)(c:Ca):Prop:=(∀q ∈ c.args,q<M.cells.length)/\c.res<M.cells.length
def zdr(M:Mc)(c:Ca):Prop:=(∀q ∈ c.args,zfH M q)/\zfH M c.res
theorem zbQ{B:Nat}:∀(cs:List Ca) (M:Mc),LG B M->(∀c ∈ cs,CaIn M c)->LG B (zZ B M cs).2/\Lq (λ_=>False) M (zZ B M cs).2/\((zZ B M cs).1=false↔∀c ∈ cs,zdr M c)
 | [],M,h,_=>⟨h,Lq.refl _ M,⟨λ_ c hc=>(List.not_mem_nil hc).elim,λ_=>rfl⟩⟩
 | c::cs,M,h,hk=>by
  have hc:=hk c List.mem_cons_self;have hin:∀q ∈ c.args++[c.res],q<M.cells.length:=λq hq=>by
   rcases List.mem_append.1 hq with hq|hq
   ·exact hc.1 q hq
   ·rw[List.mem_singleton.1 hq];exact hc.2
  obtain⟨h1,hs⟩:=zhG (c.args++[c.res]) M h hin;have L:=zhF (B:=B) (c.args++[c.res]) M h.sz h.pl h.zb;have hs':(tooM B M (c.args++[c.res])).1=false↔zdr M c:=hs.trans ⟨λhh=>⟨λq hq=>hh q (List.mem_append_left _ hq),hh c.res (by simp)⟩,λhh q hq=>by
   rcases List.mem_append.1 hq with hq|hq
   ·exact hh.1 q hq
   ·rw[List.mem_singleton.1 hq];exact hh.2⟩
  have sh:∀x,zfH (tooM B M (c.args++[c.res])).2 x↔zfH M x:=λx=>by unfold zfH;rw[zao L 1024]
  by_cases hx:(tooM B M (c.args++[c.res])).1=true
  ·have et:zZ B M (c::cs)=(true,(tooM B M (c.args++[c.res])).2):=if_pos hx;rw[et];refine⟨h1,L,⟨λhh=>(by cases hh),λhh=>?_⟩⟩;have:=hs'.2 (hh c List.mem_cons_self)
   rw[hx] at this;cases this
  ·have et:zZ B M (c::cs)=zZ B (tooM B M (c.args++[c.res])).2 cs:=if_neg hx;rw[et];obtain⟨i1,i2,i3⟩:=zbQ cs _ h1 λx hx=>by
    have:=hk x (List.mem_cons_of_mem _ hx)
    unfold CaIn at this ⊢;rw[L.len];exact this
   refine⟨i1,L.trans i2,i3.trans ⟨λhh x hx'=>?_,λhh x hx'=>?_⟩⟩
   ·rcases List.mem_cons.1 hx' with rfl|hx'
    ·exact hs'.1 (by simpa using hx)
    ·have:=hh x hx'
     exact⟨λq hq=>(sh q).1 (this.1 q hq),(sh _).1 this.2⟩
   ·have:=hh x (List.mem_cons_of_mem _ hx')
    exact⟨λq hq=>(sh q).2 (this.1 q hq),(sh _).2 this.2⟩
def ndM(M:Mc)(c:Ca):Nd:=⟨c.fn,c.parent,(zae (z8 1024 M) c.args).getD [],(z8 1024 M c.res).getD []⟩
theorem zdr.texts{M:Mc}{c:Ca}(h:zdr M c):(∃ws,zae (z8 1024 M) c.args=some ws/\(∀w ∈ ws,w.length<=1024)/\(ndM M c).args=ws)/\∃w,z8 1024 M c.res=some w/\w.length<=1024/\(ndM M c).res=w:=by
 obtain⟨ws,hws⟩:=zdC (M:=M) (D:=1024) c.args λq hq=>let ⟨w,h1,_⟩:=h.1 q hq;⟨w,h1⟩
 obtain⟨w,hw,hl⟩:=h.2;obtain⟨e1,e2⟩:=zaP _ _ hws;refine⟨⟨ws,hws,λx hx=>?_,by unfold ndM;rw[hws];rfl⟩,w,hw,hl,by unfold ndM;rw[hw];rfl⟩;obtain⟨j,hj⟩:=List.mem_iff_getElem?.1 hx;have hjl:=(List.getElem?_eq_some_iff.1 hj).1;rw[e1] at hjl;obtain⟨y,y1,y2⟩:=e2 j _ (List.getElem?_eq_getElem hjl);rw[hj] at y1;cases y1;obtain⟨z,z1,z2⟩:=h.1 _ (List.getElem_mem hjl);rw[y2] at z1;cases z1;exact z2
end Am.F
end
section
namespace Am.F
open Go Am
section
variable {β:Type} {t:ETree} {p:List Df} {mb:Nat} {dv:AV} {g h:H} {G:Gst} {M:Mc}
theorem PM.callsAt(pm:PM p mb dv g h G M):∃cv,(h.get mb).cells=some [dv,.int .i64 (M.left:Int),cv,.bool M.out]/\∀g' h' M',PM p mb dv g' h' G M'->SlAt h' cv (G.CA.map λx=>.ptr x 0):=by
 obtain⟨cv,hm,hx⟩:=pm.m;refine⟨cv,by rw[hm];rfl,λg' h' M' pm'=>?_⟩;rcases hx with⟨rfl,h2,h3⟩|⟨b,q1,rfl,q3,_⟩
 ·exact .inl ⟨rfl,by rw[h2];rfl⟩
 ·obtain⟨cv',hm',hx'⟩:=pm'.m;rcases hx' with⟨_,_,h3⟩|⟨b',r1,_,_,r4,_,_,_,r8⟩
  ·rw[q1] at h3;cases h3
  ·rw[q1] at r1;injection r1 with r1 _
   subst r1;have:=pm'.gn
   exact .inr ⟨b,0,G.CA.length,some 1,G.CA.map λx=>.ptr x 0,by rw[List.length_map],by omega,by rw[r8];rfl,by rw[List.drop_zero,List.take_length],by rw[List.length_map];omega⟩
theorem chk_pt(a b:Nat)(k:VK β):zaq (.ptr a b) (.ptr a b) (.mk k)=k (.ptr a b):=by
 show cond (AV.beq _ _) (k _) none=_;have:AV.beq (.ptr a b) (.ptr a b)=true:=by simp[AV.beq]
 rw[this];rfl
def RowAt(mb:Nat)(g h:H)(G:Gst)(h0:Nat)(x:AV)(nds:List Nd):Prop :=
 (nds=[]/\x = .nils)\/(0<nds.length/\∃b cs,Loc mb g h G b/\h0<=b/\x = .sl b 0 nds.length nds.length (some 4)/\h.get b = .own 0 cs/\cs.length=nds.length*4/\∀(j:Nat) (y:Nd),nds[j]?=some y->NdC g ((cs.drop (j*4)).take 4) y)
set_option maxHeartbeats 1000000 in
theorem j136{B m:Nat}(TN:GN11 t)(T:GA t)(L:GI t)(pm:PM p mb dv g h G M)(lg:LG B M)(hca:∀c ∈ M.calls,CaIn M c/\c.args.length<=3)(hcl:M.calls.length<=1000)(hm:2100+B<=m)
  (k:K β) (R:Option β)
  (Hlong:∀(g' h':H),(zZ B M M.calls).1=true->Un g' h'->Ext g g'->k (.tup [.nils,.int .i64 1102]) h'=R)
  (Hok:∀(g' h':H) (v:AV),(zZ B M M.calls).1=false->LAt 4 NdC g' v (M.calls.map (ndM M))->Un g' h'->Stq mb g h G g' h' G->k (.tup [v,.int .i64 0]) h'=R) {x0 x1 x2 x3 x4 x6 x7 x8 x9 x10 x11:AV} :
  f136_J7 m (ze t stdI m) k x0 x1 x2 x3 x4 (.ptr mb 0) x6 x7 x8 x9 x10 x11 h=R:=by
 have hroom:room=68719476736:=rfl;obtain⟨cv,hmb,hcv⟩:=pm.callsAt;have hs:=hcv g h M pm;have lcv:∀kc:VK β,qLenL cv (.mk kc)=kc (.int .i64 (M.calls.length:Int)):=λkc=>by rw[hs.len,List.length_map,pm.clen]
 unfold f136_J7;simp (disch:=first|omega|simp only[zD]<;>omega|assumption) only[↓zR,↓zRM,zR,zRM,reduceAdd,reduceMul,reduceToNat,zN,hmb,lcv];refine zaa 12 m _ _ (λi x0 x1 x2 x3 x4 x5 x6 x7 x8 x9 x10 x11 h'=>x8=cv/\x9 = .int .i64 (M.calls.length:Int)/\∃(j:Nat) (g':H),x10 = .int .i64 (j:Int)/\j+i=M.calls.length/\Stq mb g h G g' h' G/\PM p mb dv g' h' G (zZ B M (M.calls.take j)).2/\(zZ B M (M.calls.take j)).1=false/\RowAt mb g' h' G h.n x6 ((M.calls.take j).map (ndM M))) M.calls.length (by omega) ?_ _ _ _ _ _ _ _ _ _ _ _ _ _
  ⟨rfl,rfl,0,g,rfl,by omega,pm.stp,pm,rfl,.inl ⟨rfl,rfl⟩⟩
 intro l i ih x0 x1 x2 x3 x4 x5 x6 x7 x8 x9 x10 x11 h' ⟨p1,p2,j,g',p3,hj,st,pm',ht,ho⟩;rw[p1,p2,p3];clear p1 p2 p3;obtain⟨lgj,L1,hsh⟩:=zbQ (B:=B) (M.calls.take j) M lg λc hc=>(hca c (List.mem_of_mem_take hc)).1
 cases i with
 | zero=>
  have hjk:j=M.calls.length:=by omega
  subst hjk;rw[List.take_length] at pm' ht ho;have hx:∃g2,LAt 4 NdC g2 x6 (M.calls.map (ndM M))/\Un g2 h'/\Stq mb g h G g2 h' G:=by
   rcases ho with⟨h0,rfl⟩|⟨h0,b,cs,lb,hb,rfl,hbg,hcs,hrow⟩
   ·exact⟨g',.inl ⟨rfl,h0⟩,pm'.un,st⟩
   ·have pms:=pm'.show lb hbg
    have sts:=st.show pm.gn hb (.own 0 cs)
    refine⟨g'.set b (.own 0 cs),.inr ⟨b,0,_,some 4,cs,rfl,by rw[H.n_set,pm'.gn];exact lb.lt,by rw[zB rfl];rfl,by omega,λq y hq=>?_⟩,pms.un,sts⟩;obtain⟨w,w1,w2⟩:=hrow q y hq;exact⟨w,by rw[Nat.zero_add];exact w1,w2.un ((Un.refl g').set lb.hid _)⟩
  obtain⟨g2,r1,r2,r3⟩:=hx;have fin:=Hok g2 h' x6 ht r1 r2 r3;simp (disch:=first|omega|simp only[zD]<;>omega|assumption) only[↓zR,↓zRM,zR,zRM,reduceAdd,reduceMul,reduceToNat,↓f136_L13,↓f136_J8];exact fin
 | succ i=>
  have hjk:j<M.calls.length:=by omega
  have cj:(j:Int)<(M.calls.length:Int):=by omega
  obtain⟨c,hcj⟩:∃c,M.calls[j]?=some c:=⟨_,List.getElem?_eq_getElem hjk⟩
  have hcm:=List.mem_of_getElem? hcj;obtain⟨hci,hc3⟩:=hca c hcm;obtain⟨cb,hcb⟩:∃cb,G.CA[j]?=some cb:=⟨_,List.getElem?_eq_getElem (by rw[pm.clen];exact hjk)⟩
  have hcj':(zZ B M (M.calls.take j)).2.calls[j]?=some c:=by rw[L1.calls];exact hcj
  have hld:=λkc:VK β=>(hcv g' h' _ pm').load (kd:=.i64) (i:=(j:Int)) (by omega) (by rw[List.length_map,pm.clen];omega) kc
  have hge:(G.CA.map λx=>AV.ptr x 0).getD j (.tup []) = .ptr cb 0:=by rw[List.getD_eq_getElem?_getD,List.getElem?_map,hcb];rfl
  have hgd:(G.CA.map λx=>AV.ptr x 0).getD ((j:Int)).toNat (.tup []) = .ptr cb 0:=by rw[Int.toNat_natCast];exact hge
  have W:=TN.w160 (β:=β) (B:=B) (m:=m-1) (TN.w191 T L B (m-1) (by omega)) pm' lgj.pin lgj.pl lgj.sz lgj.zb hcj' hcb (λq hq=>by rw[L1.len];exact hci.1 q hq) (by rw[L1.len];exact hci.2) (by omega) (by omega);rw[show m-1+1=m by omega] at W;have htk:=zdQ M.calls M j c hcj ht;have L2:=zhF (B:=B) (c.args++[c.res]) _ lgj.sz lgj.pl lgj.zb;obtain⟨x,hx⟩:∃x,x=tooM B (zZ B M (M.calls.take j)).2 (c.args++[c.res]):=⟨_,rfl⟩
  rw[<- hx] at W htk L2;cases hb:x.1 with
  | true=>
   rw[hb] at htk;have htk:zZ B M (M.calls.take (j+1))=(true,x.2):=htk;have hst:=zdR (B:=B) M.calls M (j+1) (by rw[htk]);rw[hst,htk] at Hlong;simp (disch:=first|omega|simp only[zD]<;>omega|assumption) only[↓zR,↓zRM,zR,zRM,reduceAdd,reduceMul,reduceToNat,↓f136_L13,↓f136_J15,hld,hgd,hge];refine W _ _ ?_;intro u h2 hu;have fin:k (.tup [.nils,.int .i64 1102]) h2=R:=by obtain⟨g2,s2,pm2,eu⟩:=hu;exact Hlong g2 h2 rfl pm2.un (st.trans s2).eg
   have eu:u = .bool true:=by obtain⟨g2,s2,pm2,eu⟩:=hu;rw[eu,hb]
   simp (disch:=first|omega|simp only[zD]<;>omega|assumption) only[↓zR,↓zRM,zR,zRM,reduceAdd,reduceMul,reduceToNat,eu];exact fin
  | false=>
   rw[hb] at htk;have htk:zZ B M (M.calls.take (j+1))=(false,x.2):=htk;have LX:Lq (λ_=>False) M x.2:=L1.trans L2;have hsh1:=(zbQ (B:=B) (M.calls.take (j+1)) M lg λc hc=>(hca c (List.mem_of_mem_take hc)).1).2.2;rw[htk] at hsh1;have tk1:M.calls.take (j+1)=M.calls.take j++[c]:=by rw[List.take_add_one,hcj];rfl
   have hsc:zdr M c:=hsh1.1 rfl c (by rw[tk1];simp);obtain⟨⟨ws,hws,hwl,hwa⟩,w,hw,hwl2,hwr⟩:=hsc.texts;have hnd:(ndM M c).fn=c.fn/\(ndM M c).parent=c.parent:=⟨rfl,rfl⟩
   have lgx:=(zbQ (B:=B) (M.calls.take (j+1)) M lg λc hc=>(hca c (List.mem_of_mem_take hc)).1).1;rw[htk] at lgx;simp (disch:=first|omega|simp only[zD]<;>omega|assumption) only[↓zR,↓zRM,zR,zRM,reduceAdd,reduceMul,reduceToNat,↓f136_L13,↓f136_J15,hld,hgd,hge];refine W _ _ ?_;intro u h2 ⟨g2,s2,pm2,eu⟩;rw[hb] at eu;subst eu;have hcx:x.2.calls[j]?=some c:=by rw[LX.calls];exact hcj
   obtain⟨q1,av,q2,q3,q4⟩:=pm2.call j c cb hcx hcb;have gb2:(h2.get cb).cells=some [.int .i64 c.fn,.int .i64 c.parent,av,.ptr (G.A.getD c.res 0) 0]:=by rw[pm2.un.get cb q1 (by rw[q2];simp[Blk.cells]),q2];rfl
   have WT:=TN.wTexts (β:=β) T L 1024 m (by omega) g2 h2 G x.2 c.args ws av pm2 lgx.pin lgx.pl (λq hq=>by rw[LX.len];exact hci.1 q hq) (by rw[zao LX 1024];exact hws) (λy hy=>by have:=hwl y hy;omega) q3 (by omega);simp (disch:=first|omega|simp only[zD]<;>omega|assumption) only[↓zR,↓zRM,zR,zRM,reduceAdd,reduceMul,reduceToNat,↓f136_J20,zN,gb2,hgd,hge];refine WT _ _ ?_;intro u3 h3 ⟨g3,s3,pm3,hu3⟩;have gb3:(h3.get cb).cells=some [.int .i64 c.fn,.int .i64 c.parent,av,.ptr (G.A.getD c.res 0) 0]:=by
    rw[pm3.un.get cb (Nat.lt_of_lt_of_le q1 s3.eg.n) (by rw[s3.eg.get _ q1,q2];simp[Blk.cells]),s3.eg.get _ q1,q2];rfl
   have WR:=TN.wText (β:=β) T L 1024 m (by omega) g3 h3 G x.2 c.res w pm3 lgx.pin lgx.pl (by rw[LX.len];exact hci.2) (by rw[zao LX 1024];exact hw) (by omega);simp (disch:=first|omega|simp only[zD]<;>omega|assumption) only[↓zR,↓zRM,zR,zRM,reduceAdd,reduceMul,reduceToNat,zN,gb3,zcD,chk_pt,hgd,hge];refine WR _ _ ?_;intro u4 h4 ⟨g4,s4,pm4,eu4⟩;subst eu4;have gb4:(h4.get cb).cells=some [.int .i64 c.fn,.int .i64 c.parent,av,.ptr (G.A.getD c.res 0) 0]:=by
    have s34:=s3.trans s4;rw[pm4.un.get cb (Nat.lt_of_lt_of_le q1 s34.eg.n) (by rw[s34.eg.get _ q1,q2];simp[Blk.cells]),s34.eg.get _ q1,q2];rfl
   have hu4:=hu3.ext s4.eg;have hbu:∀kk:VK β,zy [.int .i64 c.fn,.int .i64 c.parent,.nils,.str []] [(2,1),(3,1)] [u3,.str w] (.mk kk)=kk (.agg [.int .i64 c.fn,.int .i64 c.parent,u3,.str w]):=λkk=>by
    rcases hu3 with⟨rfl,_⟩|⟨_,_,_,_,_,rfl,_⟩<;>rfl
   have hb4:∀(u v w z:AV) (hh:H) (kk:K β),zP 0 [.int .i64 0,.int .i64 0,.nils,.str []] 1 [(0,4)] [.agg [u,v,w,z]] hh (.mk kk)=kk (.sl hh.n 0 1 1 none) (hh.push (.own 0 [u,v,w,z])):=λu v w z hh kk=>fBslice_n (λ_=>rfl) hh kk
   simp (disch:=first|omega|simp only[zD]<;>omega|assumption) only[↓zR,↓zRM,zR,zRM,reduceAdd,reduceMul,reduceToNat,zN,gb4,zcD,hbu,↓hb4,hgd,hge];have sT:=s2.trans (s3.trans s4);obtain⟨pm5,s5⟩:=pm4.pushV (.own 0 [.int .i64 c.fn,.int .i64 c.parent,u3,.str w]);have hn5:(h4.push (.own 0 [.int .i64 c.fn,.int .i64 c.parent,u3,.str w])).n=h4.n+1:=H.n_push _ _;have hsn:=sT.hn;have hst0:=st.hn;have hsrc:∀cc:Nat->List AV->Option β,fSrc 4 (.sl h4.n 0 1 1 none) (h4.push (.own 0 [.int .i64 c.fn,.int .i64 c.parent,u3,.str w])) cc=cc 1 [.int .i64 c.fn,.int .i64 c.parent,u3,.str w]:=by
    intro cc;have:((h4.push (.own 0 [.int .i64 c.fn,.int .i64 c.parent,u3,.str w])).get h4.n).cells=some [.int .i64 c.fn,.int .i64 c.parent,u3,.str w]:=by rw[zf rfl];rfl
    show (cells _ h4.n λcs=>cond (Nat.ble (Nat.add 0 (Nat.mul 1 4)) (lenF cs)) (cc 1 (zbq (Nat.mul 1 4) (zbZ 0 cs))) none)=_;rw[zax,this];rfl
   have nl:((M.calls.take j).map (ndM M)).length=j:=by rw[List.length_map,List.length_take];omega
   have hrow:∃bb cs,(∀q,q=mb\/q ∈ G.A\/q ∈ G.CB->¬ q=bb)/\(bb<(g4.push (.own 0 [.int .i64 c.fn,.int .i64 c.parent,u3,.str w])).n->((g4.push (.own 0 [.int .i64 c.fn,.int .i64 c.parent,u3,.str w])).get bb).cells=none)/\h.n<=bb/\bb≠h4.n/\cs.length=j*4/\(∀(q:Nat) (y:Nd),((M.calls.take j).map (ndM M))[q]?=some y->NdC g' ((cs.drop (q*4)).take 4) y)/\∃lo hi,hi<=h4.n+1/\zbA (h4.push (.own 0 [.int .i64 c.fn,.int .i64 c.parent,u3,.str w])) lo hi 4 x6 cs/\∀q,¬ q=bb->q<lo\/hi<=q:=by
    rcases ho with⟨h0,rfl⟩|⟨h0,b,cs,lb,hb,rfl,hbg,hcs,hrw⟩
    ·refine⟨h4.n+1,[],λq hq=>?_,λhh=>?_,by omega,by omega,?_,λq y hy=>(by rw[h0] at hy;cases hy),0,0,by omega,.inl ⟨rfl,rfl⟩,λq _=>by omega⟩
     ·have hg2:=pm4.gn;intro e;subst e;rcases hq with hq|hq|hq
      ·have:=pm4.mlt;omega
      ·have:=pm4.lts _ hq;omega
      ·obtain⟨cv,_,h2|⟨b,q1,_,_,q4,_⟩⟩:=pm4.m
       ·rw[h2.2.2] at hq;simp at hq
       ·rw[q1,List.mem_singleton] at hq;omega
     ·rw[H.n_push] at hh;have:=pm4.gn;omega
     ·rw[h0] at nl;rw[<- nl];rfl
    ·obtain⟨lb2,hb2⟩:=lb.step pm'.gn sT;have hlt:=lb2.lt;rw[nl] at hcs h0;refine⟨b,cs,λq hq e=>?_,λhh=>?_,hb,by omega,hcs,hrw,b,b+1,by omega,.inr ⟨b,j,by rw[nl],Nat.le_refl _,by omega,by rw[zc (by omega),hb2];exact hbg,hcs,h0⟩,λq hq=>by omega⟩
     ·subst e;rcases hq with hq|hq|hq
      ·exact lb2.m hq
      ·exact lb2.a hq
      ·exact lb2.b hq
     ·rw[zc (by have:=pm4.gn;omega)];exact lb2.hid
   obtain⟨bb,cs,r1,r2,r3,r4,rc,rn,lo,hi',r7,r5,r6⟩:=hrow;refine zeh r5 (by omega) hsrc rfl (by omega) (by omega) (by omega) (by omega) ?_;intro l1 h6 i1 i2 i3 i4;obtain⟨pm6,lc6⟩:=pm5.grown (b:=bb) r1 r2 i2 λq hq hb=>i4 q hq (r6 q hb)
   have hll:l1=j+1:=by rw[List.length_append,rc] at i3;simp at i3;omega
   subst hll;have s23:=(st.trans sT).trans s5;have s6:Stq mb g h G ((g4.push (.own 0 [.int .i64 c.fn,.int .i64 c.parent,u3,.str w])).push .dead) h6 G:=by
    refine⟨s23.eg.push _,by omega,s23.A,s23.CA,s23.freshA,s23.freshB,λq h1 h2' h3 h4'=>?_,s23.lt,λa ha cs hc=>?_⟩
    ·rw[i4 q (by omega) (r6 q (by omega))];exact s23.keep q h1 h2' h3 h4'
    ·obtain⟨ds,e1,e2⟩:=s23.imm a ha cs hc;have:=s23.lt a ha
     exact⟨ds,by rw[i4 a (by omega) (r6 a (by omega))];exact e1,e2⟩
   have eg6:Ext g4 ((g4.push (.own 0 [.int .i64 c.fn,.int .i64 c.parent,u3,.str w])).push .dead):=(s5.eg).push _;have nd1:(M.calls.take (j+1)).map (ndM M)=(M.calls.take j).map (ndM M)++[ndM M c]:=by rw[tk1,List.map_append];rfl
   simp (disch:=first|omega|simp only[zD]<;>omega|assumption) only[↓zR,↓zRM,zR,zRM,reduceAdd,reduceMul,reduceToNat,↓f136_J16];refine ih i (by omega) _ _ _ _ _ _ _ _ _ _ _ _ _ ⟨rfl,rfl,j+1,_,rfl,by omega,s6,by rw[htk];exact pm6,by rw[htk],.inr ⟨by rw[nd1,List.length_append];simp,_,_,lc6,by omega,by rw[nd1,List.length_append,nl];rfl,i1,by (rw[i3,nd1,List.length_append,nl];rfl),λq y hq=>?_⟩⟩;rw[nd1,List.getElem?_append] at hq;rw[nl] at hq;split at hq
   ·rename_i hqj;obtain⟨w',w1,w2⟩:=rn q y hq;refine⟨w',?_,w2.ext (sT.eg.trans eg6)⟩;rw[List.drop_append_of_le_length (by omega),List.take_append_of_le_length (by rw[List.length_drop];omega)];exact w1
   ·rename_i hqj;have hq0:q-j=0:=by
     have:=(List.getElem?_eq_some_iff.1 hq).1
     simp at this;omega
    rw[hq0] at hq;cases hq;have hqe:q=j:=by omega
    subst hqe;refine⟨u3,?_,?_⟩
    ·rw[List.drop_append_of_le_length (by omega),List.drop_of_length_le (by omega)];unfold zhh;rw[hwr];rfl
    ·rw[hwa];exact hu4.ext eg6
end
end Am.F
end
