/- Texts that belong together: no condition. -/
import Derived.Test.YtlidemdbimpkaaaDoorAmJi
import Derived.Test.YtlidemdbimpkaaaDoorAmJc
import Derived.Test.YtlidemdbimpkaaaDoorAmJf
import Derived.Test.YtlidemdbimpkaaaDoorAmJh
open Nat (reduceAdd reduceMul)
open Int (reduceToNat)
set_option maxRecDepth 100000
set_option linter.unusedVariables false
set_option linter.unusedSimpArgs false
set_option linter.defProp false
section
namespace Am.F
open Go Am
structure Fd where
 kind:Int
 num:Int
 parts:List Nat
structure Cl where
 body:List Ex
 at_:Int
 there:List Nat
 node:Int
 done:Bool
 f:Fd
 shown:Bool
 size:Int
structure Ca where
 fn:Int
 parent:Int
 args:List Nat
 res:Nat
structure Mc where
 left:Nat
 out:Bool
 cells:List Cl
 calls:List Ca
def fd0:Fd:=⟨0,0,[]⟩
def zc7:Fd:=⟨3,0,[]⟩
def cl0(body:List Ex)(a:Int)(there:List Nat)(node:Int):Cl:=⟨body,a,there,node,false,fd0,false,0⟩
def Mc.add(M:Mc)(c:Cl):Mc:={ M with cells:=M.cells++[c] }
def Mc.put(M:Mc)(k:Nat)(x:Fd):Mc:=match M.cells[k]? with
 | none=>M
 | some c=>{ M with cells:=M.cells.set k { c with done:=true,f:=x } }
def kidM(body:List Ex)(there:List Nat)(node:Int)(a:Int)(M:Mc):Nat × Mc:=match body[a.toNat]? with
 | none=>(0,M)
 | some e=>if e.kind=1 then (there.getD e.num.toNat 0,M) else (M.cells.length,M.add (cl0 body a there node))
def zT(body:List Ex)(there:List Nat)(node:Int):List Int->Mc->List Nat × Mc
 | [],M=>([],M)
 | a::as,M=>((kidM body there node a M).1::(zT body there node as (kidM body there node a M).2).1,(zT body there node as (kidM body there node a M).2).2)
theorem zeP(body:List Ex)(there:List Nat)(node:Int)(a:Int):∀(as:List Int) (M:Mc),
  zT body there node (as++[a]) M=((zT body there node as M).1++[(kidM body there node a (zT body there node as M).2).1],(kidM body there node a (zT body there node as M).2).2)
 | [],M=>rfl
 | b::as,M=>by
  have ih:=zeP body there node a as (kidM body there node b M).2;show (_::(zT body there node (as++[a]) _).1,(zT body there node (as++[a]) _).2)=_;rw[ih];rfl
abbrev Pt:=Mc->List Ex->List Nat->Int->Int->Fd × Mc
def zH(P:Pt)(M:Mc)(k:Nat):Fd × Mc:=match M.cells[k]? with
 | none=>(fd0,M)
 | some c=>if c.done=true then (c.f,M) else
  let r:=P M c.body c.there c.node c.at_
  if r.2.out=true then (((r.2.cells[k]?).map Cl.f).getD fd0,r.2) else (r.1,r.2.put k r.1)
def Mc.call(M:Mc)(fn parent:Int)(args:List Nat):Mc:={ M with cells:=M.cells++[cl0 [] 0 [] 0],calls:=M.calls++[⟨fn,parent,args,M.cells.length⟩] }
def callM(p:List Df)(P:Pt)(M:Mc)(fn parent:Int)(args:List Nat):Fd × Mc :=
 let b:=zn p fn.toNat
 let r:=P (M.call fn parent args) b args (M.calls.length:Int) ((b.length:Int)-1)
 (r.1,if r.2.out=true then r.2 else r.2.put M.cells.length r.1)
def zbc(P:Pt)(M:Mc)(body:List Ex)(there:List Nat)(node:Int)(e:Ex):Fd × Mc :=
 let r:=P M body there node (e.kids.getD 0 0)
 if ¬ r.1.kind=1 then (zc7,r.2) else
  let q:=P r.2 body there node (e.kids.getD 1 0)
  if ¬ q.1.kind=1 then (zc7,q.2) else (⟨1,doV e.num r.1.num q.1.num,[]⟩,q.2)
def zm(p:List Df):Nat->Pt
 | 0,M,_,_,_,_=>(fd0,M)
 | N+1,M,body,there,node,a=>
  if M.out=true then (fd0,M) else if M.left=0 then (fd0,{ M with out:=true }) else
   let M1:Mc:={ M with left:=M.left-1 }
   match body[a.toNat]? with
   | none=>(fd0,M1)
   | some e=>
    if e.kind=0 then (⟨1,e.num,[]⟩,M1)
    else if e.kind=1 then zH (zm p N) M1 (there.getD e.num.toNat 0)
    else if e.kind=2 then callM p (zm p N) (zT body there node e.kids M1).2 e.num node (zT body there node e.kids M1).1
    else if e.kind=3 then (⟨2,e.num,(zT body there node e.kids M1).1⟩,(zT body there node e.kids M1).2)
    else if e.kind=4 then zbc (zm p N) M1 body there node e
    else if e.kind=5 then
     let r:=zm p N M1 body there node (e.kids.getD 0 0)
     if r.2.out=true\/r.1.kind=3 then r
     else if r.1.kind=2/\r.1.num=e.num/\(r.1.parts.length:Int)=e.bind then zm p N r.2 body (there++r.1.parts) node (e.kids.getD 1 0)
     else zm p N r.2 body there node (e.kids.getD 2 0)
    else if e.kind=6 then zm p N (kidM body there node (e.kids.getD 0 0) M1).2 body (there++[(kidM body there node (e.kids.getD 0 0) M1).1]) node (e.kids.getD 1 0)
    else (zc7,M1)
def zbh(c d:Cl):Prop:=d.body=c.body/\d.at_=c.at_/\d.there=c.there/\d.node=c.node
structure Mono (M M':Mc):Prop where
 len:M.cells.length<=M'.cells.length
 cell:∀(k:Nat) (c:Cl),M.cells[k]?=some c->∃d,M'.cells[k]?=some d/\zbh c d
 calls:M.calls <+: M'.calls
theorem zbh.refl(c:Cl):zbh c c:=⟨rfl,rfl,rfl,rfl⟩
theorem zbh.trans{a b c:Cl}(h:zbh a b)(g:zbh b c):zbh a c:=⟨g.1.trans h.1,g.2.1.trans h.2.1,g.2.2.1.trans h.2.2.1,g.2.2.2.trans h.2.2.2⟩
theorem Mono.refl(M:Mc):Mono M M:=⟨Nat.le_refl _,λk c h=>⟨c,h,zbh.refl c⟩,List.prefix_refl _⟩
theorem Mono.trans{a b c:Mc}(h:Mono a b)(g:Mono b c):Mono a c :=
 ⟨Nat.le_trans h.len g.len,λk x hx=>by
  obtain⟨d,h1,h2⟩:=h.cell k x hx;obtain⟨e,h3,h4⟩:=g.cell k d h1;exact⟨e,h3,h2.trans h4⟩,h.calls.trans g.calls⟩
theorem Mono.left(M:Mc)(l:Nat)(o:Bool):Mono M { M with left:=l,out:=o }:=⟨Nat.le_refl _,λk c h=>⟨c,h,zbh.refl c⟩,List.prefix_refl _⟩
theorem Mono.add(M:Mc)(c:Cl):Mono M (M.add c):=⟨by simp[Mc.add],λk x h=>⟨x,by unfold Mc.add;rw[List.getElem?_append_left (List.getElem?_eq_some_iff.1 h).1];exact h,zbh.refl x⟩,List.prefix_refl _⟩
theorem Mono.put(M:Mc)(k:Nat)(x:Fd):Mono M (M.put k x):=by
 unfold Mc.put;cases hk:M.cells[k]? with
 | none=>exact Mono.refl M
 | some c=>
  refine⟨by simp,λj d hd=>?_,List.prefix_refl _⟩
  by_cases hj:k=j
  ·subst hj;rw[hk] at hd;cases hd;exact⟨{ c with done:=true,f:=x },by rw[List.getElem?_set_self (List.getElem?_eq_some_iff.1 hk).1],rfl,rfl,rfl,rfl⟩
  ·exact⟨d,by rw[List.getElem?_set_ne hj];exact hd,zbh.refl d⟩
theorem Mono.call(M:Mc)(fn parent:Int)(args:List Nat):Mono M (M.call fn parent args):=⟨by simp[Mc.call],λk x h=>⟨x,by unfold Mc.call;rw[List.getElem?_append_left (List.getElem?_eq_some_iff.1 h).1];exact h,zbh.refl x⟩,List.prefix_append _ _⟩
theorem Mono.kid(body:List Ex)(there:List Nat)(node a:Int)(M:Mc):Mono M (kidM body there node a M).2:=by
 unfold kidM;split
 ·exact Mono.refl M
 ·split
  ·exact Mono.refl M
  ·exact Mono.add M _
theorem Mono.kids(body:List Ex)(there:List Nat)(node:Int):∀(as:List Int) (M:Mc),Mono M (zT body there node as M).2
 | [],M=>Mono.refl M
 | a::as,M=>(Mono.kid body there node a M).trans (Mono.kids body there node as _)
def zev(P:Pt):Prop:=∀M b t nd a,Mono M (P M b t nd a).2
theorem Mono.force{P:Pt}(hP:zev P)(M:Mc)(k:Nat):Mono M (zH P M k).2:=by
 unfold zH;split
 ·exact Mono.refl M
 ·rename_i c hc;split
  ·exact Mono.refl M
  ·show Mono M (if _ then _ else _:Fd × Mc).2;split
   ·exact hP _ _ _ _ _
   ·exact (hP _ _ _ _ _).trans (Mono.put _ _ _)
theorem Mono.callM{p:List Df}{P:Pt}(hP:zev P)(M:Mc)(fn parent:Int)(args:List Nat):Mono M (callM p P M fn parent args).2:=by
 refine (Mono.call M fn parent args).trans ?_;show Mono _ (if _ then _ else _:Mc);split
 ·exact hP _ _ _ _ _
 ·exact (hP _ _ _ _ _).trans (Mono.put _ _ _)
theorem Mono.prim{P:Pt}(hP:zev P)(M:Mc)(b:List Ex)(t:List Nat)(nd:Int)(e:Ex):Mono M (zbc P M b t nd e).2:=by
 unfold zbc;show Mono M (if _ then _ else _:Fd × Mc).2;split
 ·exact hP _ _ _ _ _
 ·show Mono M (if _ then _ else _:Fd × Mc).2;split
  ·exact (hP _ _ _ _ _).trans (hP _ _ _ _ _)
  ·exact (hP _ _ _ _ _).trans (hP _ _ _ _ _)
theorem Mono.part(p:List Df):∀N,zev (zm p N)
 | 0=>λM _ _ _ _=>Mono.refl M
 | N+1=>λM body there node a=>by
  have ih:=Mono.part p N;have h1:Mono M { M with left:=M.left-1 }:=Mono.left M _ _;show Mono M (if _ then _ else _:Fd × Mc).2;split
  ·exact Mono.refl M
  ·split
   ·exact Mono.left M _ _
   ·show Mono M (match body[a.toNat]? with|none=>_|some e=>_:Fd × Mc).2;split
    ·exact h1
    ·rename_i e he;split
     ·exact h1
     ·split
      ·exact h1.trans (Mono.force ih _ _)
      ·split
       ·exact (h1.trans (Mono.kids _ _ _ _ _)).trans (Mono.callM ih _ _ _ _)
       ·split
        ·exact h1.trans (Mono.kids _ _ _ _ _)
        ·split
         ·exact h1.trans (Mono.prim ih _ _ _ _ _)
         ·split
          ·show Mono M (if _ then _ else _:Fd × Mc).2;split
           ·exact h1.trans (ih _ _ _ _ _)
           ·split
            ·exact (h1.trans (ih _ _ _ _ _)).trans (ih _ _ _ _ _)
            ·exact (h1.trans (ih _ _ _ _ _)).trans (ih _ _ _ _ _)
          ·split
           ·exact (h1.trans (Mono.kid _ _ _ _ _)).trans (ih _ _ _ _ _)
           ·exact h1
end Am.F
end
section
namespace Am.F
open Go Am
def zp(p:List Df)(body:List Ex)(there:List Nat)(a:Int):Prop:=∃d ∈ p,d.body=body/\∃lv,Levels d lv/\0<=a/\a<(body.length:Int)/\(there.length:Int)=lv.getD a.toNat 0
def Gd(p:List Df)(M:Mc)(k:Nat):Prop:=∃c,M.cells[k]?=some c/\zp p c.body c.there c.at_
def Gds(p:List Df)(M:Mc)(ks:List Nat):Prop:=∀k ∈ ks,Gd p M k
structure WFM (p:List Df) (M:Mc):Prop where
 cell:∀c ∈ M.cells,Gds p M c.there/\Gds p M c.f.parts
 call:∀c ∈ M.calls,Gds p M c.args/\c.res<M.cells.length
theorem Gd.lt{p:List Df}{M:Mc}{k:Nat}(h:Gd p M k):k<M.cells.length:=by
 obtain⟨c,h1,_⟩:=h;exact (List.getElem?_eq_some_iff.1 h1).1
theorem Gd.mono{p:List Df}{M M':Mc}(m:Mono M M'){k:Nat}(h:Gd p M k):Gd p M' k:=by
 obtain⟨c,h1,h2⟩:=h;obtain⟨d,h3,h4,h5,h6,h7⟩:=m.cell k c h1;exact⟨d,h3,by rw[h4,h5,h6];exact h2⟩
theorem Gds.mono{p:List Df}{M M':Mc}(m:Mono M M'){ks:List Nat}(h:Gds p M ks):Gds p M' ks:=λk hk=>(h k hk).mono m
theorem Gds.nil(p:List Df)(M:Mc):Gds p M []:=λk hk=>by simp at hk
theorem Gds.app{p:List Df}{M:Mc}{a b:List Nat}(h:Gds p M a)(g:Gds p M b):Gds p M (a++b):=λk hk=>by
 rcases List.mem_append.1 hk with hk|hk
 ·exact h k hk
 ·exact g k hk
theorem Gds.one{p:List Df}{M:Mc}{k:Nat}(h:Gd p M k):Gds p M [k]:=λj hj=>by rw[List.mem_singleton.1 hj];exact h
theorem Gds.lt{p:List Df}{M:Mc}{ks:List Nat}(h:Gds p M ks):∀k ∈ ks,k<M.cells.length:=λk hk=>(h k hk).lt
theorem WFM.left{p:List Df}{M:Mc}(h:WFM p M)(l:Nat)(o:Bool):WFM p { M with left:=l,out:=o } :=
 ⟨λc hc=>⟨(h.cell c hc).1.mono (Mono.left M l o),(h.cell c hc).2.mono (Mono.left M l o)⟩,λc hc=>⟨(h.call c hc).1.mono (Mono.left M l o),(h.call c hc).2⟩⟩
theorem WFM.add{p:List Df}{M:Mc}(h:WFM p M){c:Cl}(h1:Gds p M c.there)(h2:c.f.parts=[]):WFM p (M.add c):=by
 have m:=Mono.add M c;refine⟨λd hd=>?_,λd hd=>⟨(h.call d hd).1.mono m,Nat.lt_of_lt_of_le (h.call d hd).2 m.len⟩⟩;rcases List.mem_append.1 (show d ∈ M.cells++[c] from hd) with hd|hd
 ·exact⟨(h.cell d hd).1.mono m,(h.cell d hd).2.mono m⟩
 ·rw[List.mem_singleton.1 hd];exact⟨h1.mono m,by rw[h2];exact Gds.nil p _⟩
theorem WFM.put{p:List Df}{M:Mc}(h:WFM p M)(k:Nat){x:Fd}(hx:Gds p M x.parts):WFM p (M.put k x):=by
 have m:=Mono.put M k x;cases hk:M.cells[k]? with
 | none=>unfold Mc.put;rw[hk];exact h
 | some c=>
  have e:M.put k x={ M with cells:=M.cells.set k { c with done:=true,f:=x } }:=by unfold Mc.put;rw[hk]
  rw[e] at m ⊢;refine⟨λd hd=>?_,λd hd=>⟨(h.call d hd).1.mono m,by have:=(h.call d hd).2;simpa using this⟩⟩;rcases List.mem_or_eq_of_mem_set hd with hd|hd
  ·exact⟨(h.cell d hd).1.mono m,(h.cell d hd).2.mono m⟩
  ·rw[hd];exact⟨(h.cell c (List.mem_of_getElem? hk)).1.mono m,hx.mono m⟩
theorem WFM.call'{p:List Df}{M:Mc}(h:WFM p M)(fn parent:Int){args:List Nat}(ha:Gds p M args):WFM p (M.call fn parent args):=by
 have m:=Mono.call M fn parent args;refine⟨λd hd=>?_,λd hd=>?_⟩
 ·rcases List.mem_append.1 (show d ∈ M.cells++[cl0 [] 0 [] 0] from hd) with hd|hd
  ·exact⟨(h.cell d hd).1.mono m,(h.cell d hd).2.mono m⟩
  ·rw[List.mem_singleton.1 hd];exact⟨Gds.nil p _,Gds.nil p _⟩
 ·rcases List.mem_append.1 (show d ∈ M.calls++[⟨fn,parent,args,M.cells.length⟩] from hd) with hd|hd
  ·exact⟨(h.call d hd).1.mono m,Nat.lt_of_lt_of_le (h.call d hd).2 m.len⟩
  ·rw[List.mem_singleton.1 hd];exact⟨ha.mono m,by show M.cells.length<(M.cells++[_]).length;simp⟩
theorem zp.at_{p:List Df}{body:List Ex}{there:List Nat}{a:Int}(h:zp p body there a) :
  ∃e l,body[a.toNat]?=some e/\l<=8/\zq e l/\(there.length:Int)=l/\0<=a/\e ∈ body/\(∃d ∈ p,d.body=body) /\
   ∀(q:Nat) (kid:Int),e.kids[q]?=some kid->0<=kid/\kid<a/\∀t':List Nat,(t'.length:Int)=l+more e q->zp p body t' kid:=by
 obtain⟨d,hd,rfl,lv,hlv,h0,h1,h2⟩:=h;obtain⟨e,he⟩:∃e,d.body[a.toNat]?=some e:=⟨_,List.getElem?_eq_getElem (by omega)⟩
 obtain⟨p1,p2,p3⟩:=hlv.part _ e he;refine⟨e,lv.getD a.toNat 0,he,p1.2,p2,h2,h0,List.mem_of_getElem? he,⟨d,hd,rfl⟩,λq kid hq=>?_⟩;obtain⟨k1,k2⟩:=p3 q kid hq;exact⟨k1.1,by omega,λt' ht=>⟨d,hd,rfl,lv,hlv,k1.1,by omega,by rw[ht,k2]⟩⟩
theorem zcj{p:List Df}{body:List Ex}{there:List Nat}{node a:Int}{M:Mc}(hf:zp p body there a)(hg:Gds p M there)(hw:WFM p M) :
  WFM p (kidM body there node a M).2/\Gd p (kidM body there node a M).2 (kidM body there node a M).1:=by
 obtain⟨e,l,he,_,hp,hl,h0,_,_,_⟩:=hf.at_;unfold kidM;rw[he];show WFM p (if e.kind=1 then _ else _:Nat × Mc).2/\Gd p (if e.kind=1 then _ else _:Nat × Mc).2 (if e.kind=1 then _ else _:Nat × Mc).1
 by_cases h1:e.kind=1
 ·rw[if_pos h1];refine⟨hw,?_⟩;have hn:0<=e.num/\e.num<=l-1:=by unfold zq at hp;omega
  have:e.num.toNat<there.length:=by omega
  show Gd p M (there.getD e.num.toNat 0);rw[List.getD_eq_getElem?_getD,List.getElem?_eq_getElem this];exact hg _ (List.getElem_mem this)
 ·rw[if_neg h1];refine⟨hw.add hg rfl,cl0 body a there node,by show (M.cells++[_])[M.cells.length]?=_;simp,hf⟩
theorem zaS{p:List Df}{body:List Ex}{there:List Nat}{node:Int}:∀(as:List Int) {M:Mc},(∀a ∈ as,zp p body there a)->Gds p M there->WFM p M ->
  WFM p (zT body there node as M).2/\Gds p (zT body there node as M).2 (zT body there node as M).1/\(zT body there node as M).1.length=as.length
 | [],M,_,_,hw=>⟨hw,Gds.nil p _,rfl⟩
 | a::as,M,hf,hg,hw=>by
  obtain⟨w1,g1⟩:=zcj (node:=node) (hf a List.mem_cons_self) hg hw;have m1:=Mono.kid body there node a M;obtain⟨w2,g2,l2⟩:=zaS as (λb hb=>hf b (List.mem_cons_of_mem _ hb)) (hg.mono m1) w1;refine⟨w2,λk hk=>?_,by show (_::_).length=_;rw[List.length_cons,l2,List.length_cons]⟩;rcases List.mem_cons.1 hk with rfl|hk
  ·exact g1.mono (Mono.kids body there node as _)
  ·exact g2 k hk
def WfP(p:List Df)(P:Pt):Prop:=∀M b t nd a,WFM p M->zp p b t a->Gds p M t->WFM p (P M b t nd a).2/\Gds p (P M b t nd a).2 (P M b t nd a).1.parts
theorem zil{p:List Df}{P:Pt}(hP:WfP p P)(hm:zev P){M:Mc}{k:Nat}(hw:WFM p M)(hk:Gd p M k):WFM p (zH P M k).2/\Gds p (zH P M k).2 (zH P M k).1.parts:=by
 obtain⟨c,hc,hf⟩:=hk;have hcm:=List.mem_of_getElem? hc;unfold zH;rw[hc];show WFM p (if c.done=true then _ else _:Fd × Mc).2/\Gds p (if c.done=true then _ else _:Fd × Mc).2 (if c.done=true then _ else _:Fd × Mc).1.parts
 by_cases hd:c.done=true
 ·rw[if_pos hd];exact⟨hw,(hw.cell c hcm).2⟩
 ·rw[if_neg hd];obtain⟨w1,g1⟩:=hP M c.body c.there c.node c.at_ hw hf (hw.cell c hcm).1;show WFM p (if _ then _ else _:Fd × Mc).2/\Gds p (if _ then _ else _:Fd × Mc).2 (if _ then _ else _:Fd × Mc).1.parts;split
  ·refine⟨w1,?_⟩;obtain⟨d,h3,_⟩:=(hm M c.body c.there c.node c.at_).cell k c hc;show Gds p _ (((_:Option Cl).map Cl.f).getD fd0).parts;rw[h3];exact (w1.cell d (List.mem_of_getElem? h3)).2
  ·exact⟨w1.put k g1,g1.mono (Mono.put _ _ _)⟩
theorem zaV{p:List Df}(hp:zo p=true){body:List Ex}(hb:∃d ∈ p,d.body=body){e:Ex}(he:e ∈ body)(h2:e.kind=2){l:Int}(hpart:zq e l){args:List Nat}(ha:args.length=e.kids.length) :
  0<=e.num/\e.num<(p.length:Int)/\zp p (zn p e.num.toNat) args (((zn p e.num.toNat).length:Int)-1):=by
 obtain⟨_,_,hall⟩:=zaC hp;obtain⟨d,hd,rfl⟩:=hb;have hodd:=(hall d hd).2;have hno:¬ Odd p e:=λho=>by
  have:zci p d.body=true:=List.any_eq_true.2 ⟨e,he,by simpa using ho⟩
  rw[hodd] at this;cases this
 have hn:=hpart.call h2;have hlt:e.num<(p.length:Int):=by
  rcases Int.lt_or_le e.num p.length with h|h
  ·exact h
  ·exact absurd ⟨h2,.inl h⟩ hno
 have hpar:(e.kids.length:Int)=zE p e.num:=Classical.byContradiction λh=>hno ⟨h2,.inr h⟩
 obtain⟨df,hdf⟩:∃df,p[e.num.toNat]?=some df:=⟨_,List.getElem?_eq_getElem (by omega)⟩
 have hmem:=List.mem_of_getElem? hdf;have hdm:=(hall df hmem).1;obtain⟨lv,hlv⟩:=zaU hdm;have hl:=zaK hdm;have hbo:zn p e.num.toNat=df.body:=by unfold zn;rw[hdf];rfl
 have hpo:zE p e.num=df.params:=by unfold zE;rw[hdf];rfl
 refine⟨hn.1,hlt,df,hmem,hbo.symm,lv,hlv,by rw[hbo];omega,by omega,?_⟩;rw[hbo,show (((df.body.length:Nat):Int)-1).toNat=df.body.length-1 by omega,hlv.last];omega
theorem ziC{p:List Df}{P:Pt}(hP:WfP p P){M:Mc}{fn parent:Int}{args:List Nat}(hw:WFM p M)(ha:Gds p M args)(hf:zp p (zn p fn.toNat) args (((zn p fn.toNat).length:Int)-1)) :
  WFM p (callM p P M fn parent args).2/\Gds p (callM p P M fn parent args).2 (callM p P M fn parent args).1.parts:=by
 obtain⟨w1,g1⟩:=hP (M.call fn parent args) (zn p fn.toNat) args (M.calls.length:Int) _ (hw.call' fn parent ha) hf (ha.mono (Mono.call M fn parent args));show WFM p (if _ then _ else _:Mc)/\Gds p (if _ then _ else _:Mc) _;split
 ·exact⟨w1,g1⟩
 ·exact⟨w1.put _ g1,g1.mono (Mono.put _ _ _)⟩
theorem zq.kids2{e:Ex}{l:Int}(h:zq e l)(h4:e.kind=4\/e.kind=6):e.kids.length=2:=by unfold zq Plain at h;omega
theorem zq.kids3{e:Ex}{l:Int}(h:zq e l)(h5:e.kind=5):e.kids.length=3:=by unfold zq Plain at h;omega
theorem zh{e:Ex}{q:Nat}(h:q≠1\/(e.kind≠5/\e.kind≠6)):more e q=0:=by
 unfold more;split
 ·split
  ·omega
  ·split
   ·omega
   ·rfl
 ·rfl
theorem zt(e:Ex){q:Nat}(h:q<e.kids.length):e.kids[q]?=some (e.kids.getD q 0):=by
 rw[List.getD_eq_getElem?_getD,List.getElem?_eq_getElem h];rfl
set_option maxHeartbeats 2000000 in
theorem zbi{p:List Df}(hp:zo p=true):∀N,WfP p (zm p N)
 | 0=>λM _ _ _ _ hw _ _=>⟨hw,Gds.nil p _⟩
 | N+1=>λM body there node a hw hf hg=>by
  have ih:=zbi hp N;have hm:=Mono.part p N;obtain⟨e,l,he,hl8,hpp,hl,h0,hmem,hbd,hkid⟩:=hf.at_;have m1:Mono M { M with left:=M.left-1 }:=Mono.left M _ _;have w1:WFM p { M with left:=M.left-1 }:=hw.left _ _;have g1:=hg.mono m1;show WFM p (if _ then _ else _:Fd × Mc).2/\Gds p (if _ then _ else _:Fd × Mc).2 (if _ then _ else _:Fd × Mc).1.parts;split
  ·exact⟨hw,Gds.nil p _⟩
  split
  ·exact⟨hw.left _ _,Gds.nil p _⟩
  show WFM p (match body[a.toNat]? with|none=>_|some e=>_:Fd × Mc).2/\Gds p (match body[a.toNat]? with|none=>_|some e=>_:Fd × Mc).2 (match body[a.toNat]? with|none=>_|some e=>_:Fd × Mc).1.parts;rw[he];show WFM p (if _ then _ else _:Fd × Mc).2/\Gds p (if _ then _ else _:Fd × Mc).2 (if _ then _ else _:Fd × Mc).1.parts;have allk:(e.kind≠5/\e.kind≠6)->∀x ∈ e.kids,zp p body there x:=λh x hx=>by
   obtain⟨q,hq⟩:=List.mem_iff_getElem?.1 hx;exact (hkid q x hq).2.2 there (by rw[zh (.inr h),hl];omega)
  split
  ·exact⟨w1,Gds.nil p _⟩
  split
  ·rename_i c1;refine zil ih hm w1 ?_;have hn:0<=e.num/\e.num<=l-1:=by unfold zq at hpp;omega
   have:e.num.toNat<there.length:=by omega
   rw[List.getD_eq_getElem?_getD,List.getElem?_eq_getElem this];exact g1 _ (List.getElem_mem this)
  split
  ·rename_i c2;obtain⟨w2,g2,l2⟩:=zaS (node:=node) e.kids (allk (by omega)) g1 w1;obtain⟨_,_,hfr⟩:=zaV hp hbd hmem c2 hpp l2;exact ziC ih w2 g2 hfr
  split
  ·obtain⟨w2,g2,l2⟩:=zaS (node:=node) e.kids (allk (by omega)) g1 w1;exact⟨w2,g2⟩
  split
  ·rename_i c4;have hk2:=hpp.kids2 (.inl c4);have f0:=(hkid 0 _ (zt e (by omega))).2.2 there (by rw[zh (.inl (by omega)),hl];omega);have f1:=(hkid 1 _ (zt e (by omega))).2.2 there (by rw[zh (.inr (by omega)),hl];omega);obtain⟨w2,g2⟩:=ih _ body there node _ w1 f0 g1;unfold zbc;show WFM p (if _ then _ else _:Fd × Mc).2/\Gds p (if _ then _ else _:Fd × Mc).2 (if _ then _ else _:Fd × Mc).1.parts;split
   ·exact⟨w2,Gds.nil p _⟩
   ·obtain⟨w3,g3⟩:=ih _ body there node _ w2 f1 (g1.mono (hm _ _ _ _ _));show WFM p (if _ then _ else _:Fd × Mc).2/\Gds p (if _ then _ else _:Fd × Mc).2 (if _ then _ else _:Fd × Mc).1.parts;split
    ·exact⟨w3,Gds.nil p _⟩
    ·exact⟨w3,Gds.nil p _⟩
  split
  ·rename_i c5;have hk3:=hpp.kids3 c5;have f0:=(hkid 0 _ (zt e (by omega))).2.2 there (by rw[zh (.inl (by omega)),hl];omega);have f2:=(hkid 2 _ (zt e (by omega))).2.2 there (by rw[zh (.inl (by omega)),hl];omega);obtain⟨w2,g2⟩:=ih _ body there node _ w1 f0 g1;have gt:=g1.mono (hm { M with left:=M.left-1 } body there node (e.kids.getD 0 0));show WFM p (if _ then _ else _:Fd × Mc).2/\Gds p (if _ then _ else _:Fd × Mc).2 (if _ then _ else _:Fd × Mc).1.parts;split
   ·exact⟨w2,g2⟩
   ·split
    ·rename_i c;have f1:=(hkid 1 _ (zt e (by omega))).2.2 (there++(zm p N { M with left:=M.left-1 } body there node (e.kids.getD 0 0)).1.parts) (by
      rw[List.length_append];have:more e (1:Nat)=e.bind:=by unfold more;rw[if_pos (by rfl),if_pos c5]
      rw[this];have:=c.2.2;omega)
     exact ih _ body _ node _ w2 f1 (gt.app g2)
    ·exact ih _ body there node _ w2 f2 gt
  split
  ·rename_i c6;have hk2:=hpp.kids2 (.inr c6);have f0:=(hkid 0 _ (zt e (by omega))).2.2 there (by rw[zh (.inl (by omega)),hl];omega);obtain⟨w2,g2⟩:=zcj (node:=node) f0 g1 w1;have gt:=g1.mono (Mono.kid body there node (e.kids.getD 0 0) { M with left:=M.left-1 });have f1:=(hkid 1 _ (zt e (by omega))).2.2 (there++[(kidM body there node (e.kids.getD 0 0) { M with left:=M.left-1 }).1]) (by
    rw[List.length_append];have:more e (1:Nat)=1:=by unfold more;rw[if_pos (by rfl),if_neg (by omega),if_pos c6]
    rw[this];simp;omega)
   exact ih _ body _ node _ w2 f1 (gt.app (Gds.one g2))
  ·exact⟨w1,Gds.nil p _⟩
end Am.F
end
section
namespace Am.T
open Go
def s136:SFn:=.src 83 [0,1,2,4,5,6,7,9,51,52,53,54] [.tmp 3,.tmp 4]<|.seq (.reg [.set 2 (.P 2 (.box 0) [.V 0]),.set 3 (.M 4 (.k .nils)),.set 4 (.M 5 (.I 0))])<|.seq (.ifr [] (.or 17 20 (.or 13 16 (.P 12 .notB [.P 11 (.call 157) [.P 10 (.loadN 1) [.V 2]]]) (.P 15 (.binI .lss) [.W 1 14,.I 0])) (.P 19 (.binI .gtr) [.W 1 18,.I 400])) (.seq (.reg [.set 3 (.M 4 (.k .nils)),.set 4 (.M 5 (.I 1100))])<|.ret) .skip)<|.seq (.reg [.set 5 (.M 6 (.P 25 (.box 0) [.P 24 (.build [.nils,.int .i64 0,.nils,.bool false] [(0 ,1),(1 ,1)]) [.P 22 .load1 [.P 21 (.fadr 0) [.V 2]],.W 1 23]]))])<|.seq (.seq (.reg [.ef (.P 27 (.call 158) [.W 5 26,.I 0,.I (-1),.k .nils])])<|.ifr [] (.P 32 .notB [.P 31 .load1 [.P 30 (.fadr 3) [.P 29 .nilCheck [.W 5 28]]]]) (.reg [.ef (.P 43 (.call 159) [.W 5 33,.P 42 .load1 [.P 41 (.fadr 3) [.P 40 .nilCheck [.P 39 .load1 [.P 38 (.iadr 1) [.P 37 .load1 [.P 36 (.fadr 2) [.P 35 .nilCheck [.W 5 34]]],.I 0]]]]]])]) .skip)<|.seq (.ifr [] (.P 47 .load1 [.P 46 (.fadr 3) [.P 45 .nilCheck [.W 5 44]]]) (.seq (.reg [.set 3 (.M 4 (.k .nils)),.set 4 (.M 5 (.I 1101))])<|.ret) .skip)<|.seq (.reg [.set 6 (.M 7 (.k .nils))])<|.seq (.seq (.reg [.set 8 (.P 51 .load1 [.P 50 (.fadr 2) [.P 49 .nilCheck [.W 5 48]]]),.set 9 (.P 52 .lenL [.V 8]),.set 10 (.M 53 (.I 0))])<|.block 0<|.loop [6,8,9,10]<|.seq (.reg [.set 11 (.P 54 (.binI .lss) [.V 10,.V 9])])<|.seq (.cond (.t 11) .skip (.exit 0))<|.seq (.block 1<|.seq (.reg [.set 7 (.M 9 (.P 56 .load1 [.P 55 (.iadr 1) [.V 8,.V 10]]))])<|.seq (.ifr [] (.P 58 (.call 160) [.W 7 57]) (.seq (.reg [.set 3 (.M 4 (.k .nils)),.set 4 (.M 5 (.I 1102))])<|.ret) .skip)<|.dreg [59,60,61,62,63,64,65,66,67,68,69,70,71,72,73,74,75,76,77,78,79,80] [⟨ (some 12),.mov,[.t 6],none⟩,⟨ (some 13),.mov,[.t 7],none⟩,⟨ (some 14),.nilCheck,[.t 13],none⟩,⟨ (some 15),.fadr 0,[.t 14],none⟩,⟨ (some 16),.load1,[.t 15],none⟩,⟨ (some 17),.mov,[.t 7],none⟩,⟨ (some 18),.nilCheck,[.t 17],none⟩,⟨ (some 19),.fadr 1,[.t 18],none⟩,⟨ (some 20),.load1,[.t 19],none⟩,⟨ (some 21),.mov,[.t 7],none⟩,⟨ (some 22),.nilCheck,[.t 21],none⟩,⟨ (some 23),.fadr 2,[.t 22],none⟩,⟨ (some 24),.load1,[.t 23],none⟩,⟨ (some 25),.call 161,[.t 24],none⟩,⟨ (some 26),.mov,[.t 7],none⟩,⟨ (some 27),.nilCheck,[.t 26],none⟩,⟨ (some 28),.fadr 3,[.t 27],none⟩,⟨ (some 29),.load1,[.t 28],none⟩,⟨ (some 30),.call 162,[.t 29],none⟩,⟨ (some 31),.build [.int .i64 0,.int .i64 0,.nils,.str []] [(0 ,1),(1 ,1),(2 ,1),(3 ,1)],[.t 16,.t 20,.t 25,.t 30],none⟩,⟨ (some 32),.bslice 0 [.int .i64 0,.int .i64 0,.nils,.str []] 1 [(0 ,4)],[.t 31],none⟩,⟨ (some 33),.app 0 4 56,[.t 12,.t 32],none⟩,⟨ (some 6),.mov,[.t 33],none⟩] [.op 0,.op 1,.op 2,.op 3,.op 4,.op 5,.op 6,.op 7,.op 8,.op 9,.op 10,.op 11,.op 12,.op 14,.op 15,.op 16,.op 17,.op 13,.chk 17,.chk 8,.chk 4,.op 18,.chk 8,.chk 4,.op 19,.op 20,.op 21,.op 22])<|.reg [.set 10 (.M 53 (.P 81 (.binI .add) [.V 10,.I 1]))])<|.seq (.reg [.set 3 (.M 4 (.W 6 82)),.set 4 (.M 5 (.I 0))])<|.ret
def s158:SFn:=.src 72 [0,1,2,3,8,9,10,11,12,25,52] [.cellN 4 3]<|.seq (.reg [.set 4 (.P 8 (.alloc 0 [.int .i64 0,.int .i64 0,.nils]) [])])<|.seq (.reg [.set 5 (.M 9 (.P 19 (.box 0) [.P 18 (.build [.int .i64 0,.int .i64 0,.nils,.nilp] [(0 ,1),(1 ,1),(2 ,1),(3 ,1)]) [.W 1 13,.W 2 14,.W 3 15,.P 17 (.box 0) [.P 16 (.build [.nils,.int .i64 0,.nils,.int .i64 0,.bool false,.int .i64 0,.int .i64 0,.nils,.bool false,.int .i64 0] []) []]]]))])<|.seq (.reg [.set 6 (.M 10 (.P 24 .lenL [.P 23 .load1 [.P 22 (.fadr 2) [.P 21 .nilCheck [.W 0 20]]]]))])<|.seq (.reg [.set 9 (.M 25 (.V 0)),.ef (.opr none (.store 1) (.P 34 (.fadr 2) [.P 33 .nilCheck [.V 9]]) (.P 32 (.app 0 1 8) [.P 29 .load1 [.P 28 (.fadr 2) [.P 27 .nilCheck [.W 0 26]]],.P 31 (.bslice 0 [.nilp] 1 [(0 ,1)]) [.W 5 30]]))])<|.seq (.reg [.set 7 (.M 11 (.P 42 .load1 [.P 41 (.fadr 1) [.P 40 (.iadr 2) [.P 38 .load1 [.P 37 (.fadr 0) [.P 36 .nilCheck [.W 0 35]]],.W 1 39]]]))])<|.seq (.reg [.set 10 (.P 52 (.call 189) [.W 0 43,.P 48 (.box 0) [.P 47 (.build [.nils,.nils,.int .i64 0] [(0 ,1),(1 ,1),(2 ,1)]) [.W 7 44,.W 3 45,.W 6 46]],.P 51 (.binI .sub) [.P 50 .lenL [.W 7 49],.I 1]]),.set 8 (.P 12 (.alloc 0 [.int .i64 0,.int .i64 0,.nils]) []),.ef (.op none (.store 3) [.V 8,.V 10])])<|.seq (.ifr [] (.P 57 .notB [.P 56 .load1 [.P 55 (.fadr 3) [.P 54 .nilCheck [.W 0 53]]]]) (.dreg [58,59,60,61,62,63,64,65,66,67,68,69,70] [⟨ (some 11),.mov,[.t 5],none⟩,⟨ (some 12),.nilCheck,[.t 11],none⟩,⟨ (some 13),.fadr 3,[.t 12],none⟩,⟨ (some 14),.load1,[.t 13],none⟩,⟨ (some 15),.mov,[.t 5],none⟩,⟨ (some 16),.nilCheck,[.t 15],none⟩,⟨ (some 17),.fadr 3,[.t 16],none⟩,⟨ (some 18),.load1,[.t 17],none⟩,⟨ (some 19),.loadN 3,[.t 8],none⟩,⟨ (some 20),.nilCheck,[.t 14],none⟩,⟨ (some 21),.fadr 5,[.t 20],none⟩,⟨none,.store 3,[.t 21,.t 19],none⟩,⟨ (some 22),.nilCheck,[.t 18],none⟩,⟨ (some 23),.fadr 4,[.t 22],none⟩,⟨none,.store 1,[.t 23,.c (.bool true)],none⟩] [.op 0,.op 1,.op 2,.op 3,.op 4,.op 5,.op 6,.op 7,.op 8,.op 9,.op 10,.op 11,.op 12,.op 13,.op 14]) .skip)<|.seq (.reg [.ef (.op none (.store 3) [.V 4,.P 71 (.loadN 3) [.V 8]])])<|.ret
def s159:SFn:=.src 42 [0,1,4,5,7,17,31,32,33,34] [.tmp 2]<|.seq (.reg [.set 2 (.M 4 (.k (.bool false)))])<|.seq (.ifr [] (.P 11 .load1 [.P 10 (.fadr 8) [.P 9 .nilCheck [.W 1 8]]]) (.seq (.reg [.set 2 (.M 4 (.k (.bool true)))])<|.ret) .skip)<|.seq (.reg [.ef (.op none (.store 1) [.P 14 (.fadr 8) [.P 13 .nilCheck [.W 1 12]],.k (.bool true)])])<|.seq (.seq (.reg [.set 5 (.P 17 (.call 190) [.W 0 15,.W 1 16]),.set 3 (.P 5 (.alloc 0 [.int .i64 0,.int .i64 0,.nils]) []),.ef (.op none (.store 3) [.V 3,.V 5])])<|.ifr [] (.or 22 26 (.P 21 .load1 [.P 20 (.fadr 3) [.P 19 .nilCheck [.W 0 18]]]) (.P 25 (.binI .eql) [.P 24 .load1 [.P 23 (.fadr 0) [.V 3]],.I 3])) (.seq (.reg [.set 2 (.M 4 (.k (.bool false)))])<|.ret) .skip)<|.seq (.seq (.reg [.set 6 (.P 31 .load1 [.P 30 (.fadr 2) [.P 29 (.fadr 5) [.P 28 .nilCheck [.W 1 27]]]]),.set 7 (.P 32 .lenL [.V 6]),.set 8 (.M 33 (.I 0))])<|.block 0<|.loop [0,6,7,8]<|.seq (.reg [.set 9 (.P 34 (.binI .lss) [.V 8,.V 7])])<|.seq (.cond (.t 9) .skip (.exit 0))<|.seq (.block 1<|.seq (.reg [.set 4 (.M 7 (.P 36 .load1 [.P 35 (.iadr 1) [.V 6,.V 8]]))])<|.ifr [] (.P 40 .notB [.P 39 (.call 159) [.W 0 37,.W 4 38]]) (.seq (.reg [.set 2 (.M 4 (.k (.bool false)))])<|.ret) .skip)<|.reg [.set 8 (.M 33 (.P 41 (.binI .add) [.V 8,.I 1]))])<|.seq (.reg [.set 2 (.M 4 (.k (.bool true)))])<|.ret
def s160:SFn:=.src 35 [0,2,4,25,26,27,28] [.tmp 1]<|.seq (.reg [.set 1 (.M 2 (.k (.bool false)))])<|.seq (.seq (.dreg [5,6,7,8,9,10,11,12,13,14,15,16,17,18,19,20,21,22,23,24] [⟨ (some 7),.mov,[.t 0],none⟩,⟨ (some 8),.nilCheck,[.t 7],none⟩,⟨ (some 9),.fadr 2,[.t 8],none⟩,⟨ (some 10),.load1,[.t 9],none⟩,⟨ (some 11),.mov,[.t 0],none⟩,⟨ (some 12),.nilCheck,[.t 11],none⟩,⟨ (some 13),.fadr 2,[.t 12],none⟩,⟨ (some 14),.load1,[.t 13],none⟩,⟨ (some 15),.lenL,[.t 14],none⟩,⟨ (some 16),.mov,[.t 0],none⟩,⟨ (some 17),.nilCheck,[.t 16],none⟩,⟨ (some 18),.fadr 2,[.t 17],none⟩,⟨ (some 19),.load1,[.t 18],none⟩,⟨ (some 20),.lenL,[.t 19],none⟩,⟨ (some 21),.slL 1 false true true,[.t 10,.t 15,.t 20],none⟩,⟨ (some 22),.mov,[.t 0],none⟩,⟨ (some 23),.nilCheck,[.t 22],none⟩,⟨ (some 24),.fadr 3,[.t 23],none⟩,⟨ (some 25),.load1,[.t 24],none⟩,⟨ (some 26),.bslice 0 [.nilp] 1 [(0 ,1)],[.t 25],none⟩,⟨ (some 3),.app 0 1 8,[.t 21,.t 26],none⟩,⟨ (some 4),.lenL,[.t 3],none⟩,⟨ (some 5),.mov,[.c (.int .i64 0)],none⟩] [.op 0,.op 1,.op 2,.op 3,.op 4,.op 5,.op 6,.op 7,.op 8,.op 9,.op 10,.op 11,.op 12,.op 13,.op 14,.op 15,.op 16,.op 17,.op 18,.op 22,.op 19,.chk 12,.chk 7,.chk 3,.op 20,.op 21])<|.block 0<|.loop [3,4,5]<|.seq (.reg [.set 6 (.P 28 (.binI .lss) [.V 5,.V 4])])<|.seq (.cond (.t 6) .skip (.exit 0))<|.seq (.block 1<|.seq (.reg [.set 2 (.M 4 (.P 30 .load1 [.P 29 (.iadr 1) [.V 3,.V 5]]))])<|.ifr [] (.P 33 (.binI .gtr) [.P 32 (.call 191) [.W 2 31],.I 1024]) (.seq (.reg [.set 1 (.M 2 (.k (.bool true)))])<|.ret) .skip)<|.reg [.set 5 (.M 27 (.P 34 (.binI .add) [.V 5,.I 1]))])<|.seq (.reg [.set 1 (.M 2 (.k (.bool false)))])<|.ret
def s161:SFn:=.src 19 [0,2,3,5,6,7,8,9] [.tmp 1]<|.seq (.reg [.set 1 (.M 2 (.k .nils))])<|.seq (.reg [.set 2 (.M 3 (.k .nils))])<|.seq (.seq (.reg [.set 4 (.M 6 (.V 0)),.set 5 (.P 7 .lenL [.V 4]),.set 6 (.M 8 (.I 0))])<|.block 0<|.loop [2,4,5,6]<|.seq (.reg [.set 7 (.P 9 (.binI .lss) [.V 6,.V 5])])<|.seq (.cond (.t 7) .skip (.exit 0))<|.seq (.block 1<|.seq (.reg [.set 3 (.M 5 (.P 11 .load1 [.P 10 (.iadr 1) [.V 4,.V 6]]))])<|.reg [.set 2 (.M 3 (.P 16 (.app 0 1 16) [.W 2 12,.P 15 (.bslice 0 [.str []] 1 [(0 ,1)]) [.P 14 (.call 162) [.W 3 13]]]))])<|.reg [.set 6 (.M 8 (.P 17 (.binI .add) [.V 6,.I 1]))])<|.seq (.reg [.set 1 (.M 2 (.W 2 18))])<|.ret
def s162:SFn:=.src 41 [0,2] [.tmp 1]<|.seq (.reg [.set 1 (.M 2 (.k (.str [])))])<|.seq (.block 0<|.ifr [] (.M 3 (.P 8 .notB [.P 7 .load1 [.P 6 (.fadr 4) [.P 5 .nilCheck [.W 0 4]]]])) (.seq (.reg [.set 1 (.M 2 (.k (.str [95])))])<|.ret) (.ifr [] (.M 9 (.P 15 (.binI .eql) [.P 14 .load1 [.P 13 (.fadr 0) [.P 12 (.fadr 5) [.P 11 .nilCheck [.W 0 10]]]],.I 3])) (.seq (.reg [.set 1 (.M 2 (.k (.str [33])))])<|.ret) (.ifr [] (.M 16 (.P 22 (.binI .eql) [.P 21 .load1 [.P 20 (.fadr 0) [.P 19 (.fadr 5) [.P 18 .nilCheck [.W 0 17]]]],.I 1])) (.seq (.reg [.set 1 (.M 2 (.P 28 (.call 29) [.P 27 .load1 [.P 26 (.fadr 1) [.P 25 (.fadr 5) [.P 24 .nilCheck [.W 0 23]]]]]))])<|.ret) .skip)))<|.seq (.dreg [29,30,31,32,33,34,35,36,37,38,39,40] [⟨ (some 2),.mov,[.t 0],none⟩,⟨ (some 3),.nilCheck,[.t 2],none⟩,⟨ (some 4),.fadr 5,[.t 3],none⟩,⟨ (some 5),.fadr 1,[.t 4],none⟩,⟨ (some 6),.load1,[.t 5],none⟩,⟨ (some 7),.mov,[.t 0],none⟩,⟨ (some 8),.nilCheck,[.t 7],none⟩,⟨ (some 9),.fadr 5,[.t 8],none⟩,⟨ (some 10),.fadr 2,[.t 9],none⟩,⟨ (some 11),.load1,[.t 10],none⟩,⟨ (some 12),.call 161,[.t 11],none⟩,⟨ (some 13),.call 27,[.t 6,.t 12],none⟩,⟨ (some 1),.mov,[.t 13],none⟩] [.op 0,.op 1,.op 2,.op 3,.op 4,.op 5,.op 6,.op 7,.op 8,.op 9,.op 10,.chk 4,.op 11,.op 12])<|.ret
def s189:SFn:=.src 183 [0,1,2,6,7,8,14,26,42,112,130] [.cellN 3 3]<|.seq (.reg [.set 3 (.P 6 (.alloc 0 [.int .i64 0,.int .i64 0,.nils]) [])])<|.seq (.block 0<|.loop [0,1,2,3]<|.seq (.ifr [] (.P 13 .notB [.P 12 .load1 [.P 11 (.fadr 3) [.P 10 .nilCheck [.W 0 9]]]]) .skip (.exit 0))<|.block 1<|.seq (.seq (.reg [.set 6 (.M 14 (.V 0)),.ef (.opr none (.store 1) (.P 21 (.fadr 3) [.P 20 .nilCheck [.V 6]]) (.P 19 (.binI .eql) [.P 18 .load1 [.P 17 (.fadr 1) [.P 16 .nilCheck [.W 0 15]]],.I 0]))])<|.ifr [] (.P 25 .load1 [.P 24 (.fadr 3) [.P 23 .nilCheck [.W 0 22]]]) (.exit 0) .skip)<|.seq (.reg [.set 7 (.M 26 (.V 0)),.ef (.opr none (.store 1) (.P 32 (.fadr 1) [.P 31 .nilCheck [.V 7]]) (.P 30 (.binI .sub) [.P 29 .load1 [.P 28 (.fadr 1) [.P 27 .nilCheck [.V 7]]],.I 1]))])<|.seq (.reg [.set 4 (.M 7 (.P 38 (.iadr 4) [.P 36 .load1 [.P 35 (.fadr 0) [.P 34 .nilCheck [.W 1 33]]],.W 2 37]))])<|.seq (.reg [.set 8 (.P 42 .load1 [.P 41 (.fadr 0) [.P 40 .nilCheck [.W 4 39]]])])<|.block 2<|.ifr [] (.M 44 (.P 45 (.binI .eql) [.V 8,.I 0])) (.seq (.reg [.ef (.op none (.store 3) [.V 3,.P 50 (.build [.int .i64 0,.int .i64 0,.nils] [(0 ,1),(1 ,1)]) [.I 1,.P 49 .load1 [.P 48 (.fadr 1) [.P 47 .nilCheck [.W 4 46]]]]])])<|.ret) (.ifr [] (.M 51 (.P 52 (.binI .eql) [.V 8,.I 1])) (.seq (.dreg [53,54,55,56,57,58,59,60,61,62,63,64] [⟨ (some 11),.mov,[.t 0],none⟩,⟨ (some 12),.mov,[.t 1],none⟩,⟨ (some 13),.nilCheck,[.t 12],none⟩,⟨ (some 14),.fadr 1,[.t 13],none⟩,⟨ (some 15),.load1,[.t 14],none⟩,⟨ (some 16),.mov,[.t 4],none⟩,⟨ (some 17),.nilCheck,[.t 16],none⟩,⟨ (some 18),.fadr 1,[.t 17],none⟩,⟨ (some 19),.load1,[.t 18],none⟩,⟨ (some 20),.iadr 1,[.t 15,.t 19],none⟩,⟨ (some 21),.load1,[.t 20],none⟩,⟨ (some 22),.call 190,[.t 11,.t 21],none⟩,⟨none,.store 3,[.t 3,.t 22],none⟩] [.op 0,.op 1,.op 2,.op 3,.op 4,.op 5,.op 6,.op 7,.op 8,.op 9,.op 10,.op 11,.op 12])<|.ret) (.ifr [] (.M 65 (.P 66 (.binI .eql) [.V 8,.I 2])) (.seq (.dreg [67,68,69,70,71,72,73,74,75,76,77,78,79,80,81,82] [⟨ (some 11),.mov,[.t 0],none⟩,⟨ (some 12),.mov,[.t 4],none⟩,⟨ (some 13),.nilCheck,[.t 12],none⟩,⟨ (some 14),.fadr 1,[.t 13],none⟩,⟨ (some 15),.load1,[.t 14],none⟩,⟨ (some 16),.mov,[.t 1],none⟩,⟨ (some 17),.nilCheck,[.t 16],none⟩,⟨ (some 18),.fadr 2,[.t 17],none⟩,⟨ (some 19),.load1,[.t 18],none⟩,⟨ (some 20),.mov,[.t 1],none⟩,⟨ (some 21),.mov,[.t 4],none⟩,⟨ (some 22),.nilCheck,[.t 21],none⟩,⟨ (some 23),.fadr 3,[.t 22],none⟩,⟨ (some 24),.load1,[.t 23],none⟩,⟨ (some 25),.call 216,[.t 20,.t 24],none⟩,⟨ (some 26),.call 158,[.t 11,.t 15,.t 19,.t 25],none⟩,⟨none,.store 3,[.t 3,.t 26],none⟩] [.op 0,.op 1,.op 2,.op 3,.op 4,.op 5,.op 6,.op 7,.op 8,.op 9,.op 10,.op 11,.op 12,.op 13,.op 14,.chk 8,.chk 4,.op 15,.op 16])<|.ret) (.ifr [] (.M 83 (.P 84 (.binI .eql) [.V 8,.I 3])) (.seq (.dreg [85,86,87,88,89,90,91,92,93,94,95] [⟨ (some 11),.mov,[.t 4],none⟩,⟨ (some 12),.nilCheck,[.t 11],none⟩,⟨ (some 13),.fadr 1,[.t 12],none⟩,⟨ (some 14),.load1,[.t 13],none⟩,⟨ (some 15),.mov,[.t 1],none⟩,⟨ (some 16),.mov,[.t 4],none⟩,⟨ (some 17),.nilCheck,[.t 16],none⟩,⟨ (some 18),.fadr 3,[.t 17],none⟩,⟨ (some 19),.load1,[.t 18],none⟩,⟨ (some 20),.call 216,[.t 15,.t 19],none⟩,⟨ (some 21),.build [.int .i64 0,.int .i64 0,.nils] [(0 ,1),(1 ,1),(2 ,1)],[.c (.int .i64 2),.t 14,.t 20],none⟩,⟨none,.store 3,[.t 3,.t 21],none⟩] [.op 0,.op 1,.op 2,.op 3,.op 4,.op 5,.op 6,.op 7,.op 8,.op 9,.chk 3,.op 10,.op 11])<|.ret) (.ifr [] (.M 96 (.P 97 (.binI .eql) [.V 8,.I 4])) (.seq (.reg [.ef (.op none (.store 3) [.V 3,.P 101 (.call 217) [.W 0 98,.W 1 99,.W 4 100]])])<|.ret) (.ifr [] (.M 102 (.P 103 (.binI .eql) [.V 8,.I 5])) (.seq (.reg [.set 9 (.P 112 (.call 189) [.W 0 104,.W 1 105,.P 111 .load1 [.P 110 (.iadr 1) [.P 109 .load1 [.P 108 (.fadr 3) [.P 107 .nilCheck [.W 4 106]]],.I 0]]]),.set 5 (.P 8 (.alloc 0 [.int .i64 0,.int .i64 0,.nils]) []),.ef (.op none (.store 3) [.V 5,.V 9])])<|.block 3<|.ifr [] (.M 119 (.or 124 128 (.P 123 .load1 [.P 122 (.fadr 3) [.P 121 .nilCheck [.W 0 120]]]) (.P 127 (.binI .eql) [.P 126 .load1 [.P 125 (.fadr 0) [.V 5]],.I 3]))) (.seq (.reg [.ef (.op none (.store 3) [.V 3,.P 129 (.loadN 3) [.V 5]])])<|.ret) (.seq (.dreg [131,132,133,134,135,136,137,138,139,140,141,142,143,144,145,146,147,148,149,150,151,152] [⟨ (some 11),.fadr 0,[.t 5],none⟩,⟨ (some 12),.load1,[.t 11],none⟩,⟨ (some 13),.binI .eql,[.t 12,.c (.int .i64 2)],none⟩,⟨ (some 14),.mov,[.t 13],none⟩,⟨ (some 15),.fadr 1,[.t 5],(some (14 ,true)) ⟩,⟨ (some 16),.load1,[.t 15],(some (14 ,true)) ⟩,⟨ (some 17),.mov,[.t 4],(some (14 ,true)) ⟩,⟨ (some 18),.nilCheck,[.t 17],(some (14 ,true)) ⟩,⟨ (some 19),.fadr 1,[.t 18],(some (14 ,true)) ⟩,⟨ (some 20),.load1,[.t 19],(some (14 ,true)) ⟩,⟨ (some 21),.binI .eql,[.t 16,.t 20],(some (14 ,true)) ⟩,⟨ (some 22),.pick,[.t 14,.t 21,.c (.bool false)],none⟩,⟨ (some 23),.mov,[.t 22],none⟩,⟨ (some 24),.fadr 2,[.t 5],(some (23 ,true)) ⟩,⟨ (some 25),.load1,[.t 24],(some (23 ,true)) ⟩,⟨ (some 26),.lenL,[.t 25],(some (23 ,true)) ⟩,⟨ (some 27),.mov,[.t 4],(some (23 ,true)) ⟩,⟨ (some 28),.nilCheck,[.t 27],(some (23 ,true)) ⟩,⟨ (some 29),.fadr 2,[.t 28],(some (23 ,true)) ⟩,⟨ (some 30),.load1,[.t 29],(some (23 ,true)) ⟩,⟨ (some 31),.binI .eql,[.t 26,.t 30],(some (23 ,true)) ⟩,⟨ (some 32),.pick,[.t 23,.t 31,.c (.bool false)],none⟩,⟨ (some 10),.mov,[.t 32],none⟩] [.op 0,.op 1,.op 2,.op 3,.op 4,.op 5,.op 6,.op 7,.op 8,.op 9,.op 10,.op 11,.op 12,.op 13,.op 14,.op 15,.op 16,.op 17,.op 18,.op 19,.op 20,.op 21,.op 22])<|.cond (.t 10) (.dreg [153,154,155,156,157,158,159,160,161,162] [⟨ (some 11),.mov,[.t 1],none⟩,⟨ (some 12),.fadr 2,[.t 5],none⟩,⟨ (some 13),.load1,[.t 12],none⟩,⟨ (some 14),.call 218,[.t 11,.t 13],none⟩,⟨ (some 15),.mov,[.t 4],none⟩,⟨ (some 16),.nilCheck,[.t 15],none⟩,⟨ (some 17),.fadr 3,[.t 16],none⟩,⟨ (some 18),.load1,[.t 17],none⟩,⟨ (some 19),.iadr 1,[.t 18,.c (.int .i64 1)],none⟩,⟨ (some 20),.load1,[.t 19],none⟩,⟨ (some 1),.mov,[.t 14],none⟩,⟨ (some 2),.mov,[.t 20],none⟩] [.op 0,.op 1,.op 2,.op 4,.op 5,.op 6,.op 7,.op 8,.op 9,.op 3,.chk 9,.chk 7,.op 10,.op 11]) (.reg [.set 2 (.M 2 (.P 118 .load1 [.P 117 (.iadr 1) [.P 116 .load1 [.P 115 (.fadr 3) [.P 114 .nilCheck [.W 4 113]]],.I 2]]))]))) (.ifr [] (.M 163 (.P 164 (.binI .eql) [.V 8,.I 6])) (.dreg [165,166,167,168,169,170,171,172,173,174,175,176,177,178,179,180,181] [⟨ (some 11),.mov,[.t 1],none⟩,⟨ (some 12),.mov,[.t 1],none⟩,⟨ (some 13),.mov,[.t 4],none⟩,⟨ (some 14),.nilCheck,[.t 13],none⟩,⟨ (some 15),.fadr 3,[.t 14],none⟩,⟨ (some 16),.load1,[.t 15],none⟩,⟨ (some 17),.iadr 1,[.t 16,.c (.int .i64 0)],none⟩,⟨ (some 18),.load1,[.t 17],none⟩,⟨ (some 19),.call 219,[.t 12,.t 18],none⟩,⟨ (some 20),.bslice 0 [.nilp] 1 [(0 ,1)],[.t 19],none⟩,⟨ (some 21),.call 218,[.t 11,.t 20],none⟩,⟨ (some 22),.mov,[.t 4],none⟩,⟨ (some 23),.nilCheck,[.t 22],none⟩,⟨ (some 24),.fadr 3,[.t 23],none⟩,⟨ (some 25),.load1,[.t 24],none⟩,⟨ (some 26),.iadr 1,[.t 25,.c (.int .i64 1)],none⟩,⟨ (some 27),.load1,[.t 26],none⟩,⟨ (some 1),.mov,[.t 21],none⟩,⟨ (some 2),.mov,[.t 27],none⟩] [.op 0,.op 1,.op 2,.op 3,.op 4,.op 5,.op 6,.op 7,.op 11,.op 12,.op 13,.op 14,.op 15,.op 16,.op 8,.chk 16,.chk 14,.op 9,.chk 16,.chk 14,.op 10,.chk 16,.chk 14,.op 17,.op 18]) (.seq (.reg [.ef (.op none (.store 3) [.V 3,.P 43 (.build [.int .i64 0,.int .i64 0,.nils] [(0 ,1)]) [.I 3]])])<|.ret))))))))<|.seq (.reg [.ef (.op none (.store 3) [.V 3,.P 182 (.build [.int .i64 0,.int .i64 0,.nils] []) []])])<|.ret
def s190:SFn:=.src 47 [0,1,4,5,36,37] [.cellN 2 3]<|.seq (.reg [.set 2 (.P 4 (.alloc 0 [.int .i64 0,.int .i64 0,.nils]) [])])<|.seq (.ifr [] (.P 10 .notB [.P 9 .load1 [.P 8 (.fadr 4) [.P 7 .nilCheck [.W 1 6]]]]) (.seq (.dreg [11,12,13,14,15,16,17,18,19,20,21,22,23,24,25,26,27,28,29,30] [⟨ (some 6),.mov,[.t 0],none⟩,⟨ (some 7),.mov,[.t 1],none⟩,⟨ (some 8),.nilCheck,[.t 7],none⟩,⟨ (some 9),.fadr 0,[.t 8],none⟩,⟨ (some 10),.load1,[.t 9],none⟩,⟨ (some 11),.mov,[.t 1],none⟩,⟨ (some 12),.nilCheck,[.t 11],none⟩,⟨ (some 13),.fadr 2,[.t 12],none⟩,⟨ (some 14),.load1,[.t 13],none⟩,⟨ (some 15),.mov,[.t 1],none⟩,⟨ (some 16),.nilCheck,[.t 15],none⟩,⟨ (some 17),.fadr 3,[.t 16],none⟩,⟨ (some 18),.load1,[.t 17],none⟩,⟨ (some 19),.build [.nils,.nils,.int .i64 0] [(0 ,1),(1 ,1),(2 ,1)],[.t 10,.t 14,.t 18],none⟩,⟨ (some 20),.box 0,[.t 19],none⟩,⟨ (some 21),.mov,[.t 1],none⟩,⟨ (some 22),.nilCheck,[.t 21],none⟩,⟨ (some 23),.fadr 1,[.t 22],none⟩,⟨ (some 24),.load1,[.t 23],none⟩,⟨ (some 25),.call 189,[.t 6,.t 20,.t 24],none⟩,⟨ (some 3),.alloc 0 [.int .i64 0,.int .i64 0,.nils],[],none⟩,⟨none,.store 3,[.t 3,.t 25],none⟩] [.op 0,.op 1,.op 2,.op 3,.op 4,.op 5,.op 6,.op 7,.op 8,.op 9,.op 10,.op 11,.op 12,.op 13,.op 15,.op 16,.op 17,.op 18,.op 14,.chk 18,.op 19,.op 20,.chk 18,.chk 12,.chk 8,.chk 4,.op 21])<|.ifr [] (.P 35 .notB [.P 34 .load1 [.P 33 (.fadr 3) [.P 32 .nilCheck [.W 0 31]]]]) (.reg [.set 4 (.M 36 (.V 1)),.set 5 (.M 37 (.V 1)),.ef (.opr none (.store 3) (.P 40 (.fadr 5) [.P 39 .nilCheck [.V 4]]) (.P 38 (.loadN 3) [.V 3])),.ef (.op none (.store 1) [.P 42 (.fadr 4) [.P 41 .nilCheck [.V 5]],.k (.bool true)])]) .skip) .skip)<|.seq (.reg [.ef (.op none (.store 3) [.V 2,.P 46 (.loadN 3) [.P 45 (.fadr 5) [.P 44 .nilCheck [.W 1 43]]]])])<|.ret
def s191:SFn:=.src 97 [0,2,4,5,20,21,22,23,46,83] [.tmp 1]<|.seq (.reg [.set 1 (.M 2 (.I 0))])<|.seq (.block 0<|.ifr [] (.M 53 (.P 58 (.binI .gtr) [.P 57 .load1 [.P 56 (.fadr 9) [.P 55 .nilCheck [.W 0 54]]],.I 0])) .skip (.ifr [] (.M 59 (.or 65 72 (.P 64 .notB [.P 63 .load1 [.P 62 (.fadr 4) [.P 61 .nilCheck [.W 0 60]]]]) (.P 71 (.binI .eql) [.P 70 .load1 [.P 69 (.fadr 0) [.P 68 (.fadr 5) [.P 67 .nilCheck [.W 0 66]]]],.I 3]))) (.reg [.ef (.op none (.store 1) [.P 75 (.fadr 9) [.P 74 .nilCheck [.W 0 73]],.I 1])]) (.ifr [] (.M 76 (.P 82 (.binI .eql) [.P 81 .load1 [.P 80 (.fadr 0) [.P 79 (.fadr 5) [.P 78 .nilCheck [.W 0 77]]]],.I 1])) (.reg [.set 9 (.M 83 (.V 0)),.ef (.opr none (.store 1) (.P 92 (.fadr 9) [.P 91 .nilCheck [.V 9]]) (.P 90 .lenS [.P 89 (.call 29) [.P 88 .load1 [.P 87 (.fadr 1) [.P 86 (.fadr 5) [.P 85 .nilCheck [.W 0 84]]]]]]))]) (.seq (.reg [.set 3 (.M 5 (.V 0)),.ef (.opr none (.store 1) (.P 15 (.fadr 9) [.P 14 .nilCheck [.V 3]]) (.P 13 (.binI .add) [.P 12 .lenS [.P 11 (.call 27) [.P 10 .load1 [.P 9 (.fadr 1) [.P 8 (.fadr 5) [.P 7 .nilCheck [.W 0 6]]]],.k .nils]],.I 1]))])<|.seq (.seq (.reg [.set 4 (.P 20 .load1 [.P 19 (.fadr 2) [.P 18 (.fadr 5) [.P 17 .nilCheck [.W 0 16]]]]),.set 5 (.P 21 .lenL [.V 4]),.set 6 (.M 22 (.I 0))])<|.block 1<|.loop [0,4,5,6]<|.seq (.reg [.set 7 (.P 23 (.binI .lss) [.V 6,.V 5])])<|.seq (.cond (.t 7) .skip (.exit 1))<|.seq (.block 2<|.seq (.reg [.set 2 (.M 4 (.P 25 .load1 [.P 24 (.iadr 1) [.V 4,.V 6]]))])<|.dreg [26,27,28,29,30,31,32,33,34,35,36,37] [⟨ (some 10),.mov,[.t 0],none⟩,⟨ (some 11),.mov,[.t 0],none⟩,⟨ (some 12),.nilCheck,[.t 11],none⟩,⟨ (some 13),.fadr 9,[.t 12],none⟩,⟨ (some 14),.load1,[.t 13],none⟩,⟨ (some 15),.mov,[.t 2],none⟩,⟨ (some 16),.call 191,[.t 15],none⟩,⟨ (some 17),.binI .add,[.t 14,.t 16],none⟩,⟨ (some 18),.binI .add,[.t 17,.c (.int .i64 1)],none⟩,⟨ (some 19),.minI,[.t 18,.c (.int .i64 1025)],none⟩,⟨ (some 20),.nilCheck,[.t 10],none⟩,⟨ (some 21),.fadr 9,[.t 20],none⟩,⟨none,.store 1,[.t 21,.t 19],none⟩] [.op 0,.op 1,.op 2,.op 3,.op 4,.op 5,.op 6,.chk 4,.op 7,.op 8,.op 9,.op 10,.op 11,.op 12])<|.reg [.set 6 (.M 22 (.P 38 (.binI .add) [.V 6,.I 1]))])<|.ifr [] (.P 45 (.binI .eql) [.P 44 .lenL [.P 43 .load1 [.P 42 (.fadr 2) [.P 41 (.fadr 5) [.P 40 .nilCheck [.W 0 39]]]]],.I 0]) (.reg [.set 8 (.M 46 (.V 0)),.ef (.opr none (.store 1) (.P 52 (.fadr 9) [.P 51 .nilCheck [.V 8]]) (.P 50 (.binI .sub) [.P 49 .load1 [.P 48 (.fadr 9) [.P 47 .nilCheck [.V 8]]],.I 1]))]) .skip))))<|.seq (.reg [.set 1 (.M 2 (.P 96 .load1 [.P 95 (.fadr 9) [.P 94 .nilCheck [.W 0 93]]]))])<|.ret
def s216:SFn:=.src 22 [0,1,4,5,7,8,9,10,11] [.tmp 2]<|.seq (.reg [.set 2 (.M 4 (.k .nils))])<|.seq (.reg [.set 3 (.M 5 (.k .nils))])<|.seq (.seq (.reg [.set 5 (.M 8 (.V 1)),.set 6 (.P 9 .lenL [.V 5]),.set 7 (.M 10 (.I 0))])<|.block 0<|.loop [0,3,5,6,7]<|.seq (.reg [.set 8 (.P 11 (.binI .lss) [.V 7,.V 6])])<|.seq (.cond (.t 8) .skip (.exit 0))<|.seq (.block 1<|.seq (.reg [.set 4 (.M 7 (.P 13 .load1 [.P 12 (.iadr 1) [.V 5,.V 7]]))])<|.reg [.set 3 (.M 5 (.P 19 (.app 0 1 8) [.W 3 14,.P 18 (.bslice 0 [.nilp] 1 [(0 ,1)]) [.P 17 (.call 219) [.W 0 15,.W 4 16]]]))])<|.reg [.set 7 (.M 10 (.P 20 (.binI .add) [.V 7,.I 1]))])<|.seq (.reg [.set 2 (.M 4 (.W 3 21))])<|.ret
def s217:SFn:=.src 50 [0,1,2,6,7,8,9,10,11,16,17,18,19,20,22,26,31] [.cellN 3 3]<|.seq (.reg [.set 3 (.P 6 (.alloc 0 [.int .i64 0,.int .i64 0,.nils]) [])])<|.seq (.reg [.set 4 (.P 7 (.alloc 0 [.int .i64 0,.int .i64 0]) [])])<|.seq (.seq (.reg [.set 9 (.P 16 .load1 [.P 15 (.fadr 3) [.P 14 .nilCheck [.W 2 13]]]),.set 10 (.P 17 .lenL [.V 9]),.set 11 (.M 18 (.I 0))])<|.block 0<|.loop [0,1,2,3,4,9,10,11]<|.seq (.reg [.set 12 (.P 19 (.binI .lss) [.V 11,.V 10])])<|.seq (.cond (.t 12) .skip (.exit 0))<|.seq (.block 1<|.seq (.reg [.set 13 (.M 20 (.V 11)),.set 14 (.P 22 .load1 [.P 21 (.iadr 1) [.V 9,.V 11]]),.set 5 (.M 8 (.V 13)),.set 6 (.M 9 (.V 14))])<|.seq (.reg [.set 15 (.P 26 (.call 189) [.W 0 23,.W 1 24,.W 6 25]),.set 7 (.P 10 (.alloc 0 [.int .i64 0,.int .i64 0,.nils]) []),.ef (.op none (.store 3) [.V 7,.V 15])])<|.seq (.ifr [] (.P 29 (.binI .neq) [.P 28 .load1 [.P 27 (.fadr 0) [.V 7]],.I 1]) (.seq (.reg [.ef (.op none (.store 3) [.V 3,.P 30 (.build [.int .i64 0,.int .i64 0,.nils] [(0 ,1)]) [.I 3]])])<|.ret) .skip)<|.reg [.set 16 (.M 31 (.V 5)),.ef (.opr none (.store 1) (.P 34 (.iadrA 2 1) [.V 4,.V 16]) (.P 33 .load1 [.P 32 (.fadr 1) [.V 7]]))])<|.reg [.set 11 (.M 18 (.P 35 (.binI .add) [.V 11,.I 1]))])<|.seq (.dreg [12,36,37,38,39,40,41,42,43,44,45,46,47] [⟨ (some 19),.mov,[.t 2],none⟩,⟨ (some 20),.nilCheck,[.t 19],none⟩,⟨ (some 21),.fadr 1,[.t 20],none⟩,⟨ (some 22),.load1,[.t 21],none⟩,⟨ (some 23),.iadrA 2 1,[.t 4,.c (.int .i64 0)],none⟩,⟨ (some 24),.load1,[.t 23],none⟩,⟨ (some 25),.iadrA 2 1,[.t 4,.c (.int .i64 1)],none⟩,⟨ (some 26),.load1,[.t 25],none⟩,⟨ (some 27),.call 226,[.t 22,.t 24,.t 26],none⟩,⟨ (some 18),.mov,[.t 27],none⟩,⟨ (some 28),.ext 0,[.t 18],none⟩,⟨ (some 29),.ext 1,[.t 18],none⟩,⟨ (some 8),.mov,[.t 28],none⟩,⟨ (some 17),.mov,[.t 29],none⟩] [.op 0,.op 1,.op 2,.op 3,.op 4,.op 5,.op 6,.op 7,.op 8,.op 9,.op 10,.op 11,.op 12,.op 13])<|.seq (.reg [.ef (.op none (.store 3) [.V 3,.P 49 (.build [.int .i64 0,.int .i64 0,.nils] [(0 ,1),(1 ,1)]) [.I 1,.W 8 48]])])<|.ret
def s218:SFn:=.src 34 [0,1,4,5] [.tmp 2]<|.seq (.reg [.set 2 (.M 4 (.k .nilp))])<|.seq (.dreg [6,7,8,9,10,11,12,13,14,15,16,17,18,19,20,21,22] [⟨ (some 4),.mov,[.t 0],none⟩,⟨ (some 5),.nilCheck,[.t 4],none⟩,⟨ (some 6),.fadr 1,[.t 5],none⟩,⟨ (some 7),.load1,[.t 6],none⟩,⟨ (some 8),.mov,[.t 0],none⟩,⟨ (some 9),.nilCheck,[.t 8],none⟩,⟨ (some 10),.fadr 1,[.t 9],none⟩,⟨ (some 11),.load1,[.t 10],none⟩,⟨ (some 12),.lenL,[.t 11],none⟩,⟨ (some 13),.mov,[.t 0],none⟩,⟨ (some 14),.nilCheck,[.t 13],none⟩,⟨ (some 15),.fadr 1,[.t 14],none⟩,⟨ (some 16),.load1,[.t 15],none⟩,⟨ (some 17),.lenL,[.t 16],none⟩,⟨ (some 18),.slL 1 false true true,[.t 7,.t 12,.t 17],none⟩,⟨ (some 19),.mov,[.t 1],none⟩,⟨ (some 20),.app 0 1 8,[.t 18,.t 19],none⟩,⟨ (some 3),.mov,[.t 20],none⟩] [.op 0,.op 1,.op 2,.op 3,.op 4,.op 5,.op 6,.op 7,.op 8,.op 9,.op 10,.op 11,.op 12,.op 13,.op 14,.op 15,.op 16,.op 17])<|.seq (.dreg [23,24,25,26,27,28,29,30,31,32,33] [⟨ (some 4),.mov,[.t 0],none⟩,⟨ (some 5),.nilCheck,[.t 4],none⟩,⟨ (some 6),.fadr 0,[.t 5],none⟩,⟨ (some 7),.load1,[.t 6],none⟩,⟨ (some 8),.mov,[.t 3],none⟩,⟨ (some 9),.mov,[.t 0],none⟩,⟨ (some 10),.nilCheck,[.t 9],none⟩,⟨ (some 11),.fadr 2,[.t 10],none⟩,⟨ (some 12),.load1,[.t 11],none⟩,⟨ (some 13),.build [.nils,.nils,.int .i64 0] [(0 ,1),(1 ,1),(2 ,1)],[.t 7,.t 8,.t 12],none⟩,⟨ (some 14),.box 0,[.t 13],none⟩,⟨ (some 2),.mov,[.t 14],none⟩] [.op 0,.op 1,.op 2,.op 3,.op 4,.op 5,.op 6,.op 7,.op 8,.op 9,.op 10,.op 11])<|.ret
def s219:SFn:=.src 42 [0,1,4,5] [.tmp 2]<|.seq (.reg [.set 2 (.M 4 (.k .nilp))])<|.seq (.seq (.reg [.set 3 (.M 5 (.P 11 (.iadr 4) [.P 9 .load1 [.P 8 (.fadr 0) [.P 7 .nilCheck [.W 0 6]]],.W 1 10]))])<|.ifr [] (.P 16 (.binI .eql) [.P 15 .load1 [.P 14 (.fadr 0) [.P 13 .nilCheck [.W 3 12]]],.I 1]) (.seq (.dreg [17,18,19,20,21,22,23,24,25,26] [⟨ (some 4),.mov,[.t 0],none⟩,⟨ (some 5),.nilCheck,[.t 4],none⟩,⟨ (some 6),.fadr 1,[.t 5],none⟩,⟨ (some 7),.load1,[.t 6],none⟩,⟨ (some 8),.mov,[.t 3],none⟩,⟨ (some 9),.nilCheck,[.t 8],none⟩,⟨ (some 10),.fadr 1,[.t 9],none⟩,⟨ (some 11),.load1,[.t 10],none⟩,⟨ (some 12),.iadr 1,[.t 7,.t 11],none⟩,⟨ (some 13),.load1,[.t 12],none⟩,⟨ (some 2),.mov,[.t 13],none⟩] [.op 0,.op 1,.op 2,.op 3,.op 4,.op 5,.op 6,.op 7,.op 8,.op 9,.op 10])<|.ret) .skip)<|.seq (.dreg [27,28,29,30,31,32,33,34,35,36,37,38,39,40,41] [⟨ (some 4),.mov,[.t 0],none⟩,⟨ (some 5),.nilCheck,[.t 4],none⟩,⟨ (some 6),.fadr 0,[.t 5],none⟩,⟨ (some 7),.load1,[.t 6],none⟩,⟨ (some 8),.mov,[.t 1],none⟩,⟨ (some 9),.mov,[.t 0],none⟩,⟨ (some 10),.nilCheck,[.t 9],none⟩,⟨ (some 11),.fadr 1,[.t 10],none⟩,⟨ (some 12),.load1,[.t 11],none⟩,⟨ (some 13),.mov,[.t 0],none⟩,⟨ (some 14),.nilCheck,[.t 13],none⟩,⟨ (some 15),.fadr 2,[.t 14],none⟩,⟨ (some 16),.load1,[.t 15],none⟩,⟨ (some 17),.build [.nils,.int .i64 0,.nils,.int .i64 0,.bool false,.int .i64 0,.int .i64 0,.nils,.bool false,.int .i64 0] [(0 ,1),(1 ,1),(2 ,1),(3 ,1)],[.t 7,.t 8,.t 12,.t 16],none⟩,⟨ (some 18),.box 0,[.t 17],none⟩,⟨ (some 2),.mov,[.t 18],none⟩] [.op 0,.op 1,.op 2,.op 3,.op 4,.op 5,.op 6,.op 7,.op 8,.op 9,.op 10,.op 11,.op 12,.op 13,.op 14,.op 15])<|.ret
end Am.T
end
section
namespace Am.F
open Go Am
noncomputable section
variable {β:Type} (I:FI) (N:Nat) (call:zi β) (a:List AV) (h:H) (k:K β)
def f136_J8{β:Type}(k:K β)(x0 x1 x2 x3 x4 x5 x6 x7 x8 x9 x10 x11:AV)(h:H):Option β :=
 k (.tup [x6,(.int .i64 0)]) h
def f136_J16{β:Type}(l13:Cur β 12)(x0 x1 x2 x3 x4 x5 x6 x7 x8 x9 x10 x11:AV)(h:H):Option β :=
 qAdd x10 (.int .i64 1)<|.mk λv17=>
 l13 x0 x1 x2 x3 x4 x5 x6 x7 x8 x9 v17 x11 h
def f136_J20{β:Type}(call:zi β)(j16:Cur β 12)(x0 x1 x2 x3 x4 x5 x6 x7 x8 x9 x10 x11:AV)(h:H):Option β :=
 qNil x7<|.mk λv21=>
 zd 0 v21<|.mk λv22=>
 za v22 h<|.mk λv23=>
 qNil x7<|.mk λv24=>
 zd 1 v24<|.mk λv25=>
 za v25 h<|.mk λv26=>
 qNil x7<|.mk λv27=>
 zd 2 v27<|.mk λv28=>
 za v28 h<|.mk λv29=>
 qNil x7<|.mk λv30=>
 zd 3 v30<|.mk λv31=>
 za v31 h<|.mk λv32=>
 qCall call (.fn 161 []) [v29] h<|.mk λv33 h=>
 za v31 h<|.mk λv34=>
 zaq v34 v32<|.mk λ_=>
 za v25 h<|.mk λv35=>
 zaq v35 v26<|.mk λ_=>
 za v22 h<|.mk λv36=>
 zaq v36 v23<|.mk λ_=>
 qCall call (.fn 162 []) [v32] h<|.mk λv37 h=>
 za v25 h<|.mk λv38=>
 zaq v38 v26<|.mk λ_=>
 za v22 h<|.mk λv39=>
 zaq v39 v23<|.mk λ_=>
 zy [(.int .i64 0),(.int .i64 0),.nils,(.str [])] [(0,1),(1,1),(2,1),(3,1)] [v23,v26,v33,v37]<|.mk λv40=>
 zP 0 [(.int .i64 0),(.int .i64 0),.nils,(.str [])] 1 [(0,4)] [v40] h<|.mk λv41 h=>
 qApp 0 4 56 x6 v41 h<|.mk λv42 h=>
 j16 x0 x1 x2 x3 x4 x5 v42 x7 x8 x9 x10 x11 h
def f136_J15{β:Type}(call:zi β)(k:K β)(l13:Cur β 12)(x0 x1 x2 x3 x4 x5 x6 x7 x8 x9 x10 x11:AV)(h:H):Option β :=
 zx 12 (.mk (
 f136_J16 l13))<|.mk λj16=>
 zO 1 x8 x10<|.mk λv18=>
 za v18 h<|.mk λv19=>
 zx 12 (.mk (
 f136_J20 call j16))<|.mk λj20=>
 qCall call (.fn 160 []) [v19] h<|.mk λv43 h=>
 qIf v43 (.mk (
 k (.tup [.nils,(.int .i64 1102)]) h))<|.mk (
 j20 x0 x1 x2 x3 x4 x5 x6 v19 x8 x9 x10 x11 h)
def f136_L13{β:Type}(call:zi β)(k:K β)(j8:Cur β 12)(l13:Cur β 12)(x0 x1 x2 x3 x4 x5 x6 x7 x8 x9 x10 x11:AV)(h:H):Option β :=
 qLss x10 x9<|.mk λv14=>
 zx 12 (.mk (
 f136_J15 call k l13))<|.mk λj15=>
 qIf v14 (.mk (
 j15 .any .any .any .any .any .any x6 .any x8 x9 x10 v14 h))<|.mk (
 j8 .any .any .any .any .any .any x6 .any x8 x9 x10 v14 h)
def f136_J7{β:Type}(N:Nat)(call:zi β)(k:K β)(x0 x1 x2 x3 x4 x5 x6 x7 x8 x9 x10 x11:AV)(h:H):Option β :=
 zx 12 (.mk (
 f136_J8 k))<|.mk λj8=>
 qNil x5<|.mk λv9=>
 zd 2 v9<|.mk λv10=>
 za v10 h<|.mk λv11=>
 qLenL v11<|.mk λv12=>
 (zaR 12 N<|.mk (
 f136_L13 call k j8)) x0 x1 x2 x3 x4 x5 .nils x7 v11 v12 (.int .i64 0) x11 h
def f136_J6{β:Type}(N:Nat)(call:zi β)(k:K β)(x0 x1 x2 x3 x4 x5 x6 x7 x8 x9 x10 x11:AV)(h:H):Option β :=
 zx 12 (.mk (
 f136_J7 N call k))<|.mk λj7=>
 qNil x5<|.mk λv44=>
 zd 3 v44<|.mk λv45=>
 za v45 h<|.mk λv46=>
 qIf v46 (.mk (
 k (.tup [.nils,(.int .i64 1101)]) h))<|.mk (
 j7 x0 x1 x2 x3 x4 x5 x6 x7 x8 x9 x10 x11 h)
def f136_J1{β:Type}(N:Nat)(call:zi β)(k:K β)(x0 x1 x2 x3 x4 x5 x6 x7 x8 x9 x10 x11:AV)(h:H):Option β :=
 zd 0 x2<|.mk λv2=>
 za v2 h<|.mk λv3=>
 zy [.nils,(.int .i64 0),.nils,(.bool false)] [(0,1),(1,1)] [v3,x1]<|.mk λv4=>
 qBox 0 v4 h<|.mk λv5 h=>
 zx 12 (.mk (
 f136_J6 N call k))<|.mk λj6=>
 qCall call (.fn 158 []) [v5,(.int .i64 0),(.int .i64 (-1)),.nils] h<|.mk λv47 h=>
 qNil v5<|.mk λv48=>
 zd 3 v48<|.mk λv49=>
 za v49 h<|.mk λv50=>
 qNot v50<|.mk λv51=>
 qIf v51 (.mk (
 qNil v5<|.mk λv52=>
 zd 2 v52<|.mk λv53=>
 za v53 h<|.mk λv54=>
 zO 1 v54 (.int .i64 0)<|.mk λv55=>
 za v55 h<|.mk λv56=>
 qNil v56<|.mk λv57=>
 zd 3 v57<|.mk λv58=>
 za v58 h<|.mk λv59=>
 qCall call (.fn 159 []) [v5,v59] h<|.mk λv60 h=>
 j6 x0 x1 x2 x3 x4 v5 x6 x7 x8 x9 x10 x11 h))<|.mk (
 j6 x0 x1 x2 x3 x4 v5 x6 x7 x8 x9 x10 x11 h)
def f136{β:Type}(N:Nat)(call:zi β)(a:List AV)(h:H)(k:K β):Option β :=
 qBox 0 (nth a 0) h<|.mk λv0 h=>
 zx 12 (.mk (
 f136_J1 N call k))<|.mk λj1=>
 zM 1 v0 h<|.mk λv61=>
 qCall call (.fn 157 []) [v61] h<|.mk λv62 h=>
 qNot v62<|.mk λv63=>
 qOr v63 h (.mk λh k=>
 qLss (nth a 1) (.int .i64 0)<|.mk λv64=>
 k v64 h)<|.mk λv65 h=>
 qOr v65 h (.mk λh k=>
 qGtr (nth a 1) (.int .i64 400)<|.mk λv66=>
 k v66 h)<|.mk λv67 h=>
 qIf v67 (.mk (
 k (.tup [.nils,(.int .i64 1100)]) h))<|.mk (
 j1 (nth a 0) (nth a 1) v0 .nils (.int .i64 0) (nth a 6) (nth a 7) (nth a 9) (nth a 51) (nth a 52) (nth a 53) (nth a 54) h)
theorem y136:zah I 136 T.s136 N call a h k=f136 N call a h k:=by kernel_rfl
def f158_J28{β:Type}(k:K β)(x0 x1 x2 x3 x4 x5 x6 x7 x8 x9 x10:AV)(h:H):Option β :=
 zM 3 x8 h<|.mk λv29=>
 zu 3 x4 v29 h<|.mk λh=>
 zM 3 x4 h<|.mk λv30=>
 k v30 h
def f158{β:Type}(N:Nat)(call:zi β)(a:List AV)(h:H)(k:K β):Option β :=
 zaJ 0 [(.int .i64 0),(.int .i64 0),.nils] h<|.mk λv0 h=>
 zy [.nils,(.int .i64 0),.nils,(.int .i64 0),(.bool false),(.int .i64 0),(.int .i64 0),.nils,(.bool false),(.int .i64 0)] [] []<|.mk λv1=>
 qBox 0 v1 h<|.mk λv2 h=>
 zy [(.int .i64 0),(.int .i64 0),.nils,.nilp] [(0,1),(1,1),(2,1),(3,1)] [(nth a 1),(nth a 2),(nth a 3),v2]<|.mk λv3=>
 qBox 0 v3 h<|.mk λv4 h=>
 qNil (nth a 0)<|.mk λv5=>
 zd 2 v5<|.mk λv6=>
 za v6 h<|.mk λv7=>
 qLenL v7<|.mk λv8=>
 qNil (nth a 0)<|.mk λv9=>
 zd 2 v9<|.mk λv10=>
 za v10 h<|.mk λv11=>
 zP 0 [.nilp] 1 [(0,1)] [v4] h<|.mk λv12 h=>
 qApp 0 1 8 v11 v12 h<|.mk λv13 h=>
 qNil (nth a 0)<|.mk λv14=>
 zd 2 v14<|.mk λv15=>
 zu 1 v15 v13 h<|.mk λh=>
 qNil (nth a 0)<|.mk λv16=>
 zd 0 v16<|.mk λv17=>
 za v17 h<|.mk λv18=>
 zO 2 v18 (nth a 1)<|.mk λv19=>
 zd 1 v19<|.mk λv20=>
 za v20 h<|.mk λv21=>
 zy [.nils,.nils,(.int .i64 0)] [(0,1),(1,1),(2,1)] [v21,(nth a 3),v8]<|.mk λv22=>
 qBox 0 v22 h<|.mk λv23 h=>
 qLenL v21<|.mk λv24=>
 qSub v24 (.int .i64 1)<|.mk λv25=>
 qCall call (.fn 189 []) [(nth a 0),v23,v25] h<|.mk λv26 h=>
 zaJ 0 [(.int .i64 0),(.int .i64 0),.nils] h<|.mk λv27 h=>
 zu 3 v27 v26 h<|.mk λh=>
 zx 11 (.mk (
 f158_J28 k))<|.mk λj28=>
 qNil (nth a 0)<|.mk λv31=>
 zd 3 v31<|.mk λv32=>
 za v32 h<|.mk λv33=>
 qNot v33<|.mk λv34=>
 qIf v34 (.mk (
 qNil v4<|.mk λv35=>
 zd 3 v35<|.mk λv36=>
 za v36 h<|.mk λv37=>
 qNil v4<|.mk λv38=>
 zd 3 v38<|.mk λv39=>
 za v39 h<|.mk λv40=>
 zM 3 v27 h<|.mk λv41=>
 qNil v37<|.mk λv42=>
 zd 5 v42<|.mk λv43=>
 zu 3 v43 v41 h<|.mk λh=>
 qNil v40<|.mk λv44=>
 zd 4 v44<|.mk λv45=>
 zu 1 v45 (.bool true) h<|.mk λh=>
 j28 (nth a 0) (nth a 1) (nth a 2) (nth a 3) v0 v4 v8 v21 v27 (nth a 0) v26 h))<|.mk (
 j28 (nth a 0) (nth a 1) (nth a 2) (nth a 3) v0 v4 v8 v21 v27 (nth a 0) v26 h)
theorem y158:zah I 158 T.s158 N call a h k=f158 N call a h k:=by kernel_rfl
def f159_J4{β:Type}(k:K β)(x0 x1 x2 x3 x4 x5 x6 x7 x8 x9:AV)(h:H):Option β :=
 k (.bool true) h
def f159_J13{β:Type}(l10:Cur β 10)(x0 x1 x2 x3 x4 x5 x6 x7 x8 x9:AV)(h:H):Option β :=
 qAdd x8 (.int .i64 1)<|.mk λv14=>
 l10 x0 x1 x2 x3 x4 x5 x6 x7 v14 x9 h
def f159_J12{β:Type}(call:zi β)(k:K β)(l10:Cur β 10)(x0 x1 x2 x3 x4 x5 x6 x7 x8 x9:AV)(h:H):Option β :=
 zx 10 (.mk (
 f159_J13 l10))<|.mk λj13=>
 zO 1 x6 x8<|.mk λv15=>
 za v15 h<|.mk λv16=>
 qCall call (.fn 159 []) [x0,v16] h<|.mk λv17 h=>
 qNot v17<|.mk λv18=>
 qIf v18 (.mk (
 k (.bool false) h))<|.mk (
 j13 x0 x1 x2 x3 v16 x5 x6 x7 x8 x9 h)
def f159_L10{β:Type}(call:zi β)(k:K β)(j4:Cur β 10)(l10:Cur β 10)(x0 x1 x2 x3 x4 x5 x6 x7 x8 x9:AV)(h:H):Option β :=
 qLss x8 x7<|.mk λv11=>
 zx 10 (.mk (
 f159_J12 call k l10))<|.mk λj12=>
 qIf v11 (.mk (
 j12 x0 .any .any .any .any .any x6 x7 x8 v11 h))<|.mk (
 j4 x0 .any .any .any .any .any x6 x7 x8 v11 h)
def f159_J3{β:Type}(N:Nat)(call:zi β)(k:K β)(x0 x1 x2 x3 x4 x5 x6 x7 x8 x9:AV)(h:H):Option β :=
 zx 10 (.mk (
 f159_J4 k))<|.mk λj4=>
 qNil x1<|.mk λv5=>
 zd 5 v5<|.mk λv6=>
 zd 2 v6<|.mk λv7=>
 za v7 h<|.mk λv8=>
 qLenL v8<|.mk λv9=>
 (zaR 10 N<|.mk (
 f159_L10 call k j4)) x0 x1 x2 x3 x4 x5 v8 v9 (.int .i64 0) x9 h
def f159_J0{β:Type}(N:Nat)(call:zi β)(k:K β)(x0 x1 x2 x3 x4 x5 x6 x7 x8 x9:AV)(h:H):Option β :=
 qNil x1<|.mk λv1=>
 zd 8 v1<|.mk λv2=>
 zu 1 v2 (.bool true) h<|.mk λh=>
 zx 10 (.mk (
 f159_J3 N call k))<|.mk λj3=>
 qCall call (.fn 190 []) [x0,x1] h<|.mk λv19 h=>
 zaJ 0 [(.int .i64 0),(.int .i64 0),.nils] h<|.mk λv20 h=>
 zu 3 v20 v19 h<|.mk λh=>
 qNil x0<|.mk λv21=>
 zd 3 v21<|.mk λv22=>
 za v22 h<|.mk λv23=>
 qOr v23 h (.mk λh k=>
 zd 0 v20<|.mk λv24=>
 za v24 h<|.mk λv25=>
 qEql v25 (.int .i64 3)<|.mk λv26=>
 k v26 h)<|.mk λv27 h=>
 qIf v27 (.mk (
 k (.bool false) h))<|.mk (
 j3 x0 x1 x2 v20 x4 v19 x6 x7 x8 x9 h)
def f159{β:Type}(N:Nat)(call:zi β)(a:List AV)(h:H)(k:K β):Option β :=
 zx 10 (.mk (
 f159_J0 N call k))<|.mk λj0=>
 qNil (nth a 1)<|.mk λv28=>
 zd 8 v28<|.mk λv29=>
 za v29 h<|.mk λv30=>
 qIf v30 (.mk (
 k (.bool true) h))<|.mk (
 j0 (nth a 0) (nth a 1) (.bool false) (nth a 5) (nth a 7) (nth a 17) (nth a 31) (nth a 32) (nth a 33) (nth a 34) h)
theorem y159:zah I 159 T.s159 N call a h k=f159 N call a h k:=by kernel_rfl
def f160_J0{β:Type}(k:K β)(x0 x1 x2 x3 x4 x5 x6:AV)(h:H):Option β :=
 k (.bool false) h
def f160_J25{β:Type}(l22:Cur β 7)(x0 x1 x2 x3 x4 x5 x6:AV)(h:H):Option β :=
 qAdd x5 (.int .i64 1)<|.mk λv26=>
 l22 x0 x1 x2 x3 x4 v26 x6 h
def f160_J24{β:Type}(call:zi β)(k:K β)(l22:Cur β 7)(x0 x1 x2 x3 x4 x5 x6:AV)(h:H):Option β :=
 zx 7 (.mk (
 f160_J25 l22))<|.mk λj25=>
 zO 1 x3 x5<|.mk λv27=>
 za v27 h<|.mk λv28=>
 qCall call (.fn 191 []) [v28] h<|.mk λv29 h=>
 qGtr v29 (.int .i64 1024)<|.mk λv30=>
 qIf v30 (.mk (
 k (.bool true) h))<|.mk (
 j25 x0 x1 v28 x3 x4 x5 x6 h)
def f160_L22{β:Type}(call:zi β)(k:K β)(j0:Cur β 7)(l22:Cur β 7)(x0 x1 x2 x3 x4 x5 x6:AV)(h:H):Option β :=
 qLss x5 x4<|.mk λv23=>
 zx 7 (.mk (
 f160_J24 call k l22))<|.mk λj24=>
 qIf v23 (.mk (
 j24 .any .any .any x3 x4 x5 v23 h))<|.mk (
 j0 .any .any .any x3 x4 x5 v23 h)
def f160{β:Type}(N:Nat)(call:zi β)(a:List AV)(h:H)(k:K β):Option β :=
 zx 7 (.mk (
 f160_J0 k))<|.mk λj0=>
 qNil (nth a 0)<|.mk λv1=>
 zd 2 v1<|.mk λv2=>
 za v2 h<|.mk λv3=>
 qNil (nth a 0)<|.mk λv4=>
 zd 2 v4<|.mk λv5=>
 za v5 h<|.mk λv6=>
 qLenL v6<|.mk λv7=>
 qNil (nth a 0)<|.mk λv8=>
 zd 2 v8<|.mk λv9=>
 za v9 h<|.mk λv10=>
 qLenL v10<|.mk λv11=>
 qSlL 1 false true true v3 [v7,v11]<|.mk λv12=>
 qNil (nth a 0)<|.mk λv13=>
 zd 3 v13<|.mk λv14=>
 za v14 h<|.mk λv15=>
 zP 0 [.nilp] 1 [(0,1)] [v15] h<|.mk λv16 h=>
 za v9 h<|.mk λv17=>
 zaq v17 v10<|.mk λ_=>
 za v5 h<|.mk λv18=>
 zaq v18 v6<|.mk λ_=>
 za v2 h<|.mk λv19=>
 zaq v19 v3<|.mk λ_=>
 qApp 0 1 8 v12 v16 h<|.mk λv20 h=>
 qLenL v20<|.mk λv21=>
 (zaR 7 N<|.mk (
 f160_L22 call k j0)) (nth a 0) (.bool false) (nth a 4) v20 v21 (.int .i64 0) (nth a 28) h
theorem y160:zah I 160 T.s160 N call a h k=f160 N call a h k:=by kernel_rfl
def f161_J0{β:Type}(k:K β)(x0 x1 x2 x3 x4 x5 x6 x7:AV)(h:H):Option β :=
 k x2 h
def f161_J5{β:Type}(l2:Cur β 8)(x0 x1 x2 x3 x4 x5 x6 x7:AV)(h:H):Option β :=
 qAdd x6 (.int .i64 1)<|.mk λv6=>
 l2 x0 x1 x2 x3 x4 x5 v6 x7 h
def f161_J4{β:Type}(call:zi β)(l2:Cur β 8)(x0 x1 x2 x3 x4 x5 x6 x7:AV)(h:H):Option β :=
 zx 8 (.mk (
 f161_J5 l2))<|.mk λj5=>
 zO 1 x4 x6<|.mk λv7=>
 za v7 h<|.mk λv8=>
 qCall call (.fn 162 []) [v8] h<|.mk λv9 h=>
 zP 0 [(.str [])] 1 [(0,1)] [v9] h<|.mk λv10 h=>
 qApp 0 1 16 x2 v10 h<|.mk λv11 h=>
 j5 x0 x1 v11 v8 x4 x5 x6 x7 h
def f161_L2{β:Type}(call:zi β)(j0:Cur β 8)(l2:Cur β 8)(x0 x1 x2 x3 x4 x5 x6 x7:AV)(h:H):Option β :=
 qLss x6 x5<|.mk λv3=>
 zx 8 (.mk (
 f161_J4 call l2))<|.mk λj4=>
 qIf v3 (.mk (
 j4 .any .any x2 .any x4 x5 x6 v3 h))<|.mk (
 j0 .any .any x2 .any x4 x5 x6 v3 h)
def f161{β:Type}(N:Nat)(call:zi β)(a:List AV)(h:H)(k:K β):Option β :=
 zx 8 (.mk (
 f161_J0 k))<|.mk λj0=>
 qLenL (nth a 0)<|.mk λv1=>
 (zaR 8 N<|.mk (
 f161_L2 call j0)) (nth a 0) .nils .nils (nth a 5) (nth a 0) v1 (.int .i64 0) (nth a 9) h
theorem y161:zah I 161 T.s161 N call a h k=f161 N call a h k:=by kernel_rfl
def f162_J0{β:Type}(call:zi β)(k:K β)(x0 x1:AV)(h:H):Option β :=
 qNil x0<|.mk λv1=>
 zd 5 v1<|.mk λv2=>
 zd 1 v2<|.mk λv3=>
 za v3 h<|.mk λv4=>
 qNil x0<|.mk λv5=>
 zd 5 v5<|.mk λv6=>
 zd 2 v6<|.mk λv7=>
 za v7 h<|.mk λv8=>
 qCall call (.fn 161 []) [v8] h<|.mk λv9 h=>
 za v3 h<|.mk λv10=>
 zaq v10 v4<|.mk λ_=>
 qCall call (.fn 27 []) [v4,v9] h<|.mk λv11 h=>
 k v11 h
def f162{β:Type}(N:Nat)(call:zi β)(a:List AV)(h:H)(k:K β):Option β :=
 zx 2 (.mk (
 f162_J0 call k))<|.mk λj0=>
 qNil (nth a 0)<|.mk λv12=>
 zd 4 v12<|.mk λv13=>
 za v13 h<|.mk λv14=>
 qNot v14<|.mk λv15=>
 qIf v15 (.mk (
 k (.str [95]) h))<|.mk (
 qNil (nth a 0)<|.mk λv16=>
 zd 5 v16<|.mk λv17=>
 zd 0 v17<|.mk λv18=>
 za v18 h<|.mk λv19=>
 qEql v19 (.int .i64 3)<|.mk λv20=>
 qIf v20 (.mk (
 k (.str [33]) h))<|.mk (
 qNil (nth a 0)<|.mk λv21=>
 zd 5 v21<|.mk λv22=>
 zd 0 v22<|.mk λv23=>
 za v23 h<|.mk λv24=>
 qEql v24 (.int .i64 1)<|.mk λv25=>
 qIf v25 (.mk (
 qNil (nth a 0)<|.mk λv26=>
 zd 5 v26<|.mk λv27=>
 zd 1 v27<|.mk λv28=>
 za v28 h<|.mk λv29=>
 qCall call (.fn 29 []) [v29] h<|.mk λv30 h=>
 k v30 h))<|.mk (
 j0 (nth a 0) (.str []) h)))
theorem y162:zah I 162 T.s162 N call a h k=f162 N call a h k:=by kernel_rfl
def f189_J1{β:Type}(k:K β)(x0 x1 x2 x3 x4 x5 x6 x7 x8 x9 x10:AV)(h:H):Option β :=
 zy [(.int .i64 0),(.int .i64 0),.nils] [] []<|.mk λv2=>
 zu 3 x3 v2 h<|.mk λh=>
 zM 3 x3 h<|.mk λv3=>
 k v3 h
def f189_J6{β:Type}(call:zi β)(k:K β)(l4:Cur β 11)(x0 x1 x2 x3 x4 x5 x6 x7 x8 x9 x10:AV)(h:H):Option β :=
 qNil x0<|.mk λv7=>
 zd 1 v7<|.mk λv8=>
 za v8 h<|.mk λv9=>
 qSub v9 (.int .i64 1)<|.mk λv10=>
 qNil x0<|.mk λv11=>
 zd 1 v11<|.mk λv12=>
 zu 1 v12 v10 h<|.mk λh=>
 qNil x1<|.mk λv13=>
 zd 0 v13<|.mk λv14=>
 za v14 h<|.mk λv15=>
 zO 4 v15 x2<|.mk λv16=>
 qNil v16<|.mk λv17=>
 zd 0 v17<|.mk λv18=>
 za v18 h<|.mk λv19=>
 qEql v19 (.int .i64 0)<|.mk λv20=>
 qIf v20 (.mk (
 qNil v16<|.mk λv21=>
 zd 1 v21<|.mk λv22=>
 za v22 h<|.mk λv23=>
 zy [(.int .i64 0),(.int .i64 0),.nils] [(0,1),(1,1)] [(.int .i64 1),v23]<|.mk λv24=>
 zu 3 x3 v24 h<|.mk λh=>
 zM 3 x3 h<|.mk λv25=>
 k v25 h))<|.mk (
 qEql v19 (.int .i64 1)<|.mk λv26=>
 qIf v26 (.mk (
 qNil x1<|.mk λv27=>
 zd 1 v27<|.mk λv28=>
 za v28 h<|.mk λv29=>
 qNil v16<|.mk λv30=>
 zd 1 v30<|.mk λv31=>
 za v31 h<|.mk λv32=>
 zO 1 v29 v32<|.mk λv33=>
 za v33 h<|.mk λv34=>
 qCall call (.fn 190 []) [x0,v34] h<|.mk λv35 h=>
 zu 3 x3 v35 h<|.mk λh=>
 zM 3 x3 h<|.mk λv36=>
 k v36 h))<|.mk (
 qEql v19 (.int .i64 2)<|.mk λv37=>
 qIf v37 (.mk (
 qNil v16<|.mk λv38=>
 zd 1 v38<|.mk λv39=>
 za v39 h<|.mk λv40=>
 qNil x1<|.mk λv41=>
 zd 2 v41<|.mk λv42=>
 za v42 h<|.mk λv43=>
 qNil v16<|.mk λv44=>
 zd 3 v44<|.mk λv45=>
 za v45 h<|.mk λv46=>
 qCall call (.fn 216 []) [x1,v46] h<|.mk λv47 h=>
 za v42 h<|.mk λv48=>
 zaq v48 v43<|.mk λ_=>
 za v39 h<|.mk λv49=>
 zaq v49 v40<|.mk λ_=>
 qCall call (.fn 158 []) [x0,v40,v43,v47] h<|.mk λv50 h=>
 zu 3 x3 v50 h<|.mk λh=>
 zM 3 x3 h<|.mk λv51=>
 k v51 h))<|.mk (
 qEql v19 (.int .i64 3)<|.mk λv52=>
 qIf v52 (.mk (
 qNil v16<|.mk λv53=>
 zd 1 v53<|.mk λv54=>
 za v54 h<|.mk λv55=>
 qNil v16<|.mk λv56=>
 zd 3 v56<|.mk λv57=>
 za v57 h<|.mk λv58=>
 qCall call (.fn 216 []) [x1,v58] h<|.mk λv59 h=>
 za v54 h<|.mk λv60=>
 zaq v60 v55<|.mk λ_=>
 zy [(.int .i64 0),(.int .i64 0),.nils] [(0,1),(1,1),(2,1)] [(.int .i64 2),v55,v59]<|.mk λv61=>
 zu 3 x3 v61 h<|.mk λh=>
 zM 3 x3 h<|.mk λv62=>
 k v62 h))<|.mk (
 qEql v19 (.int .i64 4)<|.mk λv63=>
 qIf v63 (.mk (
 qCall call (.fn 217 []) [x0,x1,v16] h<|.mk λv64 h=>
 zu 3 x3 v64 h<|.mk λh=>
 zM 3 x3 h<|.mk λv65=>
 k v65 h))<|.mk (
 qEql v19 (.int .i64 5)<|.mk λv66=>
 qIf v66 (.mk (
 qNil v16<|.mk λv67=>
 zd 3 v67<|.mk λv68=>
 za v68 h<|.mk λv69=>
 zO 1 v69 (.int .i64 0)<|.mk λv70=>
 za v70 h<|.mk λv71=>
 qCall call (.fn 189 []) [x0,x1,v71] h<|.mk λv72 h=>
 zaJ 0 [(.int .i64 0),(.int .i64 0),.nils] h<|.mk λv73 h=>
 zu 3 v73 v72 h<|.mk λh=>
 qNil x0<|.mk λv74=>
 zd 3 v74<|.mk λv75=>
 za v75 h<|.mk λv76=>
 qOr v76 h (.mk λh k=>
 zd 0 v73<|.mk λv77=>
 za v77 h<|.mk λv78=>
 qEql v78 (.int .i64 3)<|.mk λv79=>
 k v79 h)<|.mk λv80 h=>
 qIf v80 (.mk (
 zM 3 v73 h<|.mk λv81=>
 zu 3 x3 v81 h<|.mk λh=>
 zM 3 x3 h<|.mk λv82=>
 k v82 h))<|.mk (
 zd 0 v73<|.mk λv83=>
 za v83 h<|.mk λv84=>
 qEql v84 (.int .i64 2)<|.mk λv85=>
 qGrd v85 true h (.mk λh k=>
 zd 1 v73<|.mk λv86=>
 k v86 h)<|.mk λv87 h=>
 qGrd v85 true h (.mk λh k=>
 za v87 h<|.mk λv88=>
 k v88 h)<|.mk λv89 h=>
 qGrd v85 true h (.mk λh k=>
 k v16 h)<|.mk λv90 h=>
 qGrd v85 true h (.mk λh k=>
 qNil v90<|.mk λv91=>
 k v91 h)<|.mk λv92 h=>
 qGrd v85 true h (.mk λh k=>
 zd 1 v92<|.mk λv93=>
 k v93 h)<|.mk λv94 h=>
 qGrd v85 true h (.mk λh k=>
 za v94 h<|.mk λv95=>
 k v95 h)<|.mk λv96 h=>
 qGrd v85 true h (.mk λh k=>
 qEql v89 v96<|.mk λv97=>
 k v97 h)<|.mk λv98 h=>
 zd0 v85 v98 (.bool false)<|.mk λv99=>
 qGrd v99 true h (.mk λh k=>
 zd 2 v73<|.mk λv100=>
 k v100 h)<|.mk λv101 h=>
 qGrd v99 true h (.mk λh k=>
 za v101 h<|.mk λv102=>
 k v102 h)<|.mk λv103 h=>
 qGrd v99 true h (.mk λh k=>
 qLenL v103<|.mk λv104=>
 k v104 h)<|.mk λv105 h=>
 qGrd v99 true h (.mk λh k=>
 k v16 h)<|.mk λv106 h=>
 qGrd v99 true h (.mk λh k=>
 qNil v106<|.mk λv107=>
 k v107 h)<|.mk λv108 h=>
 qGrd v99 true h (.mk λh k=>
 zd 2 v108<|.mk λv109=>
 k v109 h)<|.mk λv110 h=>
 qGrd v99 true h (.mk λh k=>
 za v110 h<|.mk λv111=>
 k v111 h)<|.mk λv112 h=>
 qGrd v99 true h (.mk λh k=>
 qEql v105 v112<|.mk λv113=>
 k v113 h)<|.mk λv114 h=>
 zd0 v99 v114 (.bool false)<|.mk λv115=>
 qIf v115 (.mk (
 zd 2 v73<|.mk λv116=>
 za v116 h<|.mk λv117=>
 qNil v16<|.mk λv118=>
 zd 3 v118<|.mk λv119=>
 za v119 h<|.mk λv120=>
 zO 1 v120 (.int .i64 1)<|.mk λv121=>
 za v121 h<|.mk λv122=>
 qCall call (.fn 218 []) [x1,v117] h<|.mk λv123 h=>
 za v121 h<|.mk λv124=>
 zaq v124 v122<|.mk λ_=>
 za v119 h<|.mk λv125=>
 zaq v125 v120<|.mk λ_=>
 l4 x0 v123 v122 x3 v16 v73 x6 x0 v19 v72 v115 h))<|.mk (
 qNil v16<|.mk λv126=>
 zd 3 v126<|.mk λv127=>
 za v127 h<|.mk λv128=>
 zO 1 v128 (.int .i64 2)<|.mk λv129=>
 za v129 h<|.mk λv130=>
 l4 x0 x1 v130 x3 v16 v73 x6 x0 v19 v72 v115 h))))<|.mk (
 qEql v19 (.int .i64 6)<|.mk λv131=>
 qIf v131 (.mk (
 qNil v16<|.mk λv132=>
 zd 3 v132<|.mk λv133=>
 za v133 h<|.mk λv134=>
 zO 1 v134 (.int .i64 0)<|.mk λv135=>
 za v135 h<|.mk λv136=>
 qNil v16<|.mk λv137=>
 zd 3 v137<|.mk λv138=>
 za v138 h<|.mk λv139=>
 zO 1 v139 (.int .i64 1)<|.mk λv140=>
 za v140 h<|.mk λv141=>
 qCall call (.fn 219 []) [x1,v136] h<|.mk λv142 h=>
 za v140 h<|.mk λv143=>
 zaq v143 v141<|.mk λ_=>
 za v138 h<|.mk λv144=>
 zaq v144 v139<|.mk λ_=>
 zP 0 [.nilp] 1 [(0,1)] [v142] h<|.mk λv145 h=>
 za v140 h<|.mk λv146=>
 zaq v146 v141<|.mk λ_=>
 za v138 h<|.mk λv147=>
 zaq v147 v139<|.mk λ_=>
 qCall call (.fn 218 []) [x1,v145] h<|.mk λv148 h=>
 za v140 h<|.mk λv149=>
 zaq v149 v141<|.mk λ_=>
 za v138 h<|.mk λv150=>
 zaq v150 v139<|.mk λ_=>
 l4 x0 v148 v141 x3 v16 x5 x6 x0 v19 x9 x10 h))<|.mk (
 zy [(.int .i64 0),(.int .i64 0),.nils] [(0,1)] [(.int .i64 3)]<|.mk λv151=>
 zu 3 x3 v151 h<|.mk λh=>
 zM 3 x3 h<|.mk λv152=>
 k v152 h)))))))
def f189_J5{β:Type}(call:zi β)(k:K β)(j1:Cur β 11)(l4:Cur β 11)(x0 x1 x2 x3 x4 x5 x6 x7 x8 x9 x10:AV)(h:H):Option β :=
 zx 11 (.mk (
 f189_J6 call k l4))<|.mk λj6=>
 qNil x0<|.mk λv153=>
 zd 1 v153<|.mk λv154=>
 za v154 h<|.mk λv155=>
 qEql v155 (.int .i64 0)<|.mk λv156=>
 qNil x0<|.mk λv157=>
 zd 3 v157<|.mk λv158=>
 zu 1 v158 v156 h<|.mk λh=>
 qNil x0<|.mk λv159=>
 zd 3 v159<|.mk λv160=>
 za v160 h<|.mk λv161=>
 qIf v161 (.mk (
 j1 x0 x1 x2 x3 x4 x5 x0 x7 x8 x9 x10 h))<|.mk (
 j6 x0 x1 x2 x3 x4 x5 x0 x7 x8 x9 x10 h)
def f189_L4{β:Type}(call:zi β)(k:K β)(j1:Cur β 11)(l4:Cur β 11)(x0 x1 x2 x3 x4 x5 x6 x7 x8 x9 x10:AV)(h:H):Option β :=
 zx 11 (.mk (
 f189_J5 call k j1 l4))<|.mk λj5=>
 qNil x0<|.mk λv162=>
 zd 3 v162<|.mk λv163=>
 za v163 h<|.mk λv164=>
 qNot v164<|.mk λv165=>
 qIf v165 (.mk (
 j5 x0 x1 x2 x3 .any .any .any .any .any .any .any h))<|.mk (
 j1 x0 x1 x2 x3 .any .any .any .any .any .any .any h)
def f189{β:Type}(N:Nat)(call:zi β)(a:List AV)(h:H)(k:K β):Option β :=
 zaJ 0 [(.int .i64 0),(.int .i64 0),.nils] h<|.mk λv0 h=>
 zx 11 (.mk (
 f189_J1 k))<|.mk λj1=>
 (zaR 11 N<|.mk (
 f189_L4 call k j1)) (nth a 0) (nth a 1) (nth a 2) v0 (nth a 7) (nth a 8) (nth a 14) (nth a 26) (nth a 42) (nth a 112) (nth a 130) h
theorem y189:zah I 189 T.s189 N call a h k=f189 N call a h k:=by kernel_rfl
def f190_J1{β:Type}(k:K β)(x0 x1 x2 x3 x4 x5:AV)(h:H):Option β :=
 qNil x1<|.mk λv2=>
 zd 5 v2<|.mk λv3=>
 zM 3 v3 h<|.mk λv4=>
 zu 3 x2 v4 h<|.mk λh=>
 zM 3 x2 h<|.mk λv5=>
 k v5 h
def f190{β:Type}(N:Nat)(call:zi β)(a:List AV)(h:H)(k:K β):Option β :=
 zaJ 0 [(.int .i64 0),(.int .i64 0),.nils] h<|.mk λv0 h=>
 zx 6 (.mk (
 f190_J1 k))<|.mk λj1=>
 qNil (nth a 1)<|.mk λv6=>
 zd 4 v6<|.mk λv7=>
 za v7 h<|.mk λv8=>
 qNot v8<|.mk λv9=>
 qIf v9 (.mk (
 qNil (nth a 1)<|.mk λv10=>
 zd 0 v10<|.mk λv11=>
 za v11 h<|.mk λv12=>
 qNil (nth a 1)<|.mk λv13=>
 zd 2 v13<|.mk λv14=>
 za v14 h<|.mk λv15=>
 qNil (nth a 1)<|.mk λv16=>
 zd 3 v16<|.mk λv17=>
 za v17 h<|.mk λv18=>
 zy [.nils,.nils,(.int .i64 0)] [(0,1),(1,1),(2,1)] [v12,v15,v18]<|.mk λv19=>
 qNil (nth a 1)<|.mk λv20=>
 zd 1 v20<|.mk λv21=>
 za v21 h<|.mk λv22=>
 qBox 0 v19 h<|.mk λv23 h=>
 za v21 h<|.mk λv24=>
 zaq v24 v22<|.mk λ_=>
 qCall call (.fn 189 []) [(nth a 0),v23,v22] h<|.mk λv25 h=>
 zaJ 0 [(.int .i64 0),(.int .i64 0),.nils] h<|.mk λv26 h=>
 za v21 h<|.mk λv27=>
 zaq v27 v22<|.mk λ_=>
 za v17 h<|.mk λv28=>
 zaq v28 v18<|.mk λ_=>
 za v14 h<|.mk λv29=>
 zaq v29 v15<|.mk λ_=>
 za v11 h<|.mk λv30=>
 zaq v30 v12<|.mk λ_=>
 zu 3 v26 v25 h<|.mk λh=>
 qNil (nth a 0)<|.mk λv31=>
 zd 3 v31<|.mk λv32=>
 za v32 h<|.mk λv33=>
 qNot v33<|.mk λv34=>
 qIf v34 (.mk (
 zM 3 v26 h<|.mk λv35=>
 qNil (nth a 1)<|.mk λv36=>
 zd 5 v36<|.mk λv37=>
 zu 3 v37 v35 h<|.mk λh=>
 qNil (nth a 1)<|.mk λv38=>
 zd 4 v38<|.mk λv39=>
 zu 1 v39 (.bool true) h<|.mk λh=>
 j1 (nth a 0) (nth a 1) v0 v26 (nth a 1) (nth a 1) h))<|.mk (
 j1 (nth a 0) (nth a 1) v0 v26 (nth a 36) (nth a 37) h)))<|.mk (
 j1 (nth a 0) (nth a 1) v0 (nth a 5) (nth a 36) (nth a 37) h)
theorem y190:zah I 190 T.s190 N call a h k=f190 N call a h k:=by kernel_rfl
def f191_J0{β:Type}(k:K β)(x0 x1 x2 x3 x4 x5 x6 x7 x8 x9:AV)(h:H):Option β :=
 qNil x0<|.mk λv1=>
 zd 9 v1<|.mk λv2=>
 za v2 h<|.mk λv3=>
 k v3 h
def f191_J42{β:Type}(j0:Cur β 10)(x0 x1 x2 x3 x4 x5 x6 x7 x8 x9:AV)(h:H):Option β :=
 qNil x0<|.mk λv43=>
 zd 5 v43<|.mk λv44=>
 zd 2 v44<|.mk λv45=>
 za v45 h<|.mk λv46=>
 qLenL v46<|.mk λv47=>
 qEql v47 (.int .i64 0)<|.mk λv48=>
 qIf v48 (.mk (
 qNil x0<|.mk λv49=>
 zd 9 v49<|.mk λv50=>
 za v50 h<|.mk λv51=>
 qSub v51 (.int .i64 1)<|.mk λv52=>
 qNil x0<|.mk λv53=>
 zd 9 v53<|.mk λv54=>
 zu 1 v54 v52 h<|.mk λh=>
 j0 x0 x1 x2 x3 x4 x5 x6 x7 x0 x9 h))<|.mk (
 j0 x0 x1 x2 x3 x4 x5 x6 x7 x8 x9 h)
def f191_J63{β:Type}(l60:Cur β 10)(x0 x1 x2 x3 x4 x5 x6 x7 x8 x9:AV)(h:H):Option β :=
 qAdd x6 (.int .i64 1)<|.mk λv64=>
 l60 x0 x1 x2 x3 x4 x5 v64 x7 x8 x9 h
def f191_J62{β:Type}(call:zi β)(l60:Cur β 10)(x0 x1 x2 x3 x4 x5 x6 x7 x8 x9:AV)(h:H):Option β :=
 zx 10 (.mk (
 f191_J63 l60))<|.mk λj63=>
 zO 1 x4 x6<|.mk λv65=>
 za v65 h<|.mk λv66=>
 qNil x0<|.mk λv67=>
 zd 9 v67<|.mk λv68=>
 za v68 h<|.mk λv69=>
 qCall call (.fn 191 []) [v66] h<|.mk λv70 h=>
 za v68 h<|.mk λv71=>
 zaq v71 v69<|.mk λ_=>
 qAdd v69 v70<|.mk λv72=>
 qAdd v72 (.int .i64 1)<|.mk λv73=>
 qMin v73 (.int .i64 1025)<|.mk λv74=>
 qNil x0<|.mk λv75=>
 zd 9 v75<|.mk λv76=>
 zu 1 v76 v74 h<|.mk λh=>
 j63 x0 x1 v66 x3 x4 x5 x6 x7 x8 x9 h
def f191_L60{β:Type}(call:zi β)(j42:Cur β 10)(l60:Cur β 10)(x0 x1 x2 x3 x4 x5 x6 x7 x8 x9:AV)(h:H):Option β :=
 qLss x6 x5<|.mk λv61=>
 zx 10 (.mk (
 f191_J62 call l60))<|.mk λj62=>
 qIf v61 (.mk (
 j62 x0 .any .any .any x4 x5 x6 v61 .any .any h))<|.mk (
 j42 x0 .any .any .any x4 x5 x6 v61 .any .any h)
def f191{β:Type}(N:Nat)(call:zi β)(a:List AV)(h:H)(k:K β):Option β :=
 zx 10 (.mk (
 f191_J0 k))<|.mk λj0=>
 qNil (nth a 0)<|.mk λv4=>
 zd 9 v4<|.mk λv5=>
 za v5 h<|.mk λv6=>
 qGtr v6 (.int .i64 0)<|.mk λv7=>
 qIf v7 (.mk (
 j0 (nth a 0) (.int .i64 0) (nth a 4) (nth a 5) (nth a 20) (nth a 21) (nth a 22) (nth a 23) (nth a 46) (nth a 83) h))<|.mk (
 qNil (nth a 0)<|.mk λv8=>
 zd 4 v8<|.mk λv9=>
 za v9 h<|.mk λv10=>
 qNot v10<|.mk λv11=>
 qOr v11 h (.mk λh k=>
 qNil (nth a 0)<|.mk λv12=>
 zd 5 v12<|.mk λv13=>
 zd 0 v13<|.mk λv14=>
 za v14 h<|.mk λv15=>
 qEql v15 (.int .i64 3)<|.mk λv16=>
 k v16 h)<|.mk λv17 h=>
 qIf v17 (.mk (
 qNil (nth a 0)<|.mk λv18=>
 zd 9 v18<|.mk λv19=>
 zu 1 v19 (.int .i64 1) h<|.mk λh=>
 j0 (nth a 0) (.int .i64 0) (nth a 4) (nth a 5) (nth a 20) (nth a 21) (nth a 22) (nth a 23) (nth a 46) (nth a 83) h))<|.mk (
 qNil (nth a 0)<|.mk λv20=>
 zd 5 v20<|.mk λv21=>
 zd 0 v21<|.mk λv22=>
 za v22 h<|.mk λv23=>
 qEql v23 (.int .i64 1)<|.mk λv24=>
 qIf v24 (.mk (
 qNil (nth a 0)<|.mk λv25=>
 zd 5 v25<|.mk λv26=>
 zd 1 v26<|.mk λv27=>
 za v27 h<|.mk λv28=>
 qCall call (.fn 29 []) [v28] h<|.mk λv29 h=>
 qLenS v29<|.mk λv30=>
 qNil (nth a 0)<|.mk λv31=>
 zd 9 v31<|.mk λv32=>
 zu 1 v32 v30 h<|.mk λh=>
 j0 (nth a 0) (.int .i64 0) (nth a 4) (nth a 5) (nth a 20) (nth a 21) (nth a 22) (nth a 23) (nth a 46) (nth a 0) h))<|.mk (
 qNil (nth a 0)<|.mk λv33=>
 zd 5 v33<|.mk λv34=>
 zd 1 v34<|.mk λv35=>
 za v35 h<|.mk λv36=>
 qCall call (.fn 27 []) [v36,.nils] h<|.mk λv37 h=>
 qLenS v37<|.mk λv38=>
 qAdd v38 (.int .i64 1)<|.mk λv39=>
 qNil (nth a 0)<|.mk λv40=>
 zd 9 v40<|.mk λv41=>
 zu 1 v41 v39 h<|.mk λh=>
 zx 10 (.mk (
 f191_J42 j0))<|.mk λj42=>
 qNil (nth a 0)<|.mk λv55=>
 zd 5 v55<|.mk λv56=>
 zd 2 v56<|.mk λv57=>
 za v57 h<|.mk λv58=>
 qLenL v58<|.mk λv59=>
 (zaR 10 N<|.mk (
 f191_L60 call j42)) (nth a 0) (.int .i64 0) (nth a 4) (nth a 0) v58 v59 (.int .i64 0) (nth a 23) (nth a 46) (nth a 83) h)))
theorem y191:zah I 191 T.s191 N call a h k=f191 N call a h k:=by kernel_rfl
def f216_J0{β:Type}(k:K β)(x0 x1 x2 x3 x4 x5 x6 x7 x8:AV)(h:H):Option β :=
 k x3 h
def f216_J5{β:Type}(l2:Cur β 9)(x0 x1 x2 x3 x4 x5 x6 x7 x8:AV)(h:H):Option β :=
 qAdd x7 (.int .i64 1)<|.mk λv6=>
 l2 x0 x1 x2 x3 x4 x5 x6 v6 x8 h
def f216_J4{β:Type}(call:zi β)(l2:Cur β 9)(x0 x1 x2 x3 x4 x5 x6 x7 x8:AV)(h:H):Option β :=
 zx 9 (.mk (
 f216_J5 l2))<|.mk λj5=>
 zO 1 x5 x7<|.mk λv7=>
 za v7 h<|.mk λv8=>
 qCall call (.fn 219 []) [x0,v8] h<|.mk λv9 h=>
 zP 0 [.nilp] 1 [(0,1)] [v9] h<|.mk λv10 h=>
 qApp 0 1 8 x3 v10 h<|.mk λv11 h=>
 j5 x0 x1 x2 v11 v8 x5 x6 x7 x8 h
def f216_L2{β:Type}(call:zi β)(j0:Cur β 9)(l2:Cur β 9)(x0 x1 x2 x3 x4 x5 x6 x7 x8:AV)(h:H):Option β :=
 qLss x7 x6<|.mk λv3=>
 zx 9 (.mk (
 f216_J4 call l2))<|.mk λj4=>
 qIf v3 (.mk (
 j4 x0 .any .any x3 .any x5 x6 x7 v3 h))<|.mk (
 j0 x0 .any .any x3 .any x5 x6 x7 v3 h)
def f216{β:Type}(N:Nat)(call:zi β)(a:List AV)(h:H)(k:K β):Option β :=
 zx 9 (.mk (
 f216_J0 k))<|.mk λj0=>
 qLenL (nth a 1)<|.mk λv1=>
 (zaR 9 N<|.mk (
 f216_L2 call j0)) (nth a 0) (nth a 1) .nils .nils (nth a 7) (nth a 1) v1 (.int .i64 0) (nth a 11) h
theorem y216:zah I 216 T.s216 N call a h k=f216 N call a h k:=by kernel_rfl
def f217_J2{β:Type}(call:zi β)(k:K β)(x0 x1 x2 x3 x4 x5 x6 x7 x8 x9 x10 x11 x12 x13 x14 x15 x16:AV)(h:H):Option β :=
 qNil x2<|.mk λv3=>
 zd 1 v3<|.mk λv4=>
 za v4 h<|.mk λv5=>
 zhX 2 1 x4 (.int .i64 0)<|.mk λv6=>
 za v6 h<|.mk λv7=>
 zhX 2 1 x4 (.int .i64 1)<|.mk λv8=>
 za v8 h<|.mk λv9=>
 qCall call (.fn 226 []) [v5,v7,v9] h<|.mk λv10 h=>
 qExt 0 v10<|.mk λv11=>
 qExt 1 v10<|.mk λv12=>
 zy [(.int .i64 0),(.int .i64 0),.nils] [(0,1),(1,1)] [(.int .i64 1),v11]<|.mk λv13=>
 zu 3 x3 v13 h<|.mk λh=>
 zM 3 x3 h<|.mk λv14=>
 k v14 h
def f217_J22{β:Type}(l19:Cur β 17)(x0 x1 x2 x3 x4 x5 x6 x7 x8 x9 x10 x11 x12 x13 x14 x15 x16:AV)(h:H):Option β :=
 qAdd x11 (.int .i64 1)<|.mk λv23=>
 l19 x0 x1 x2 x3 x4 x5 x6 x7 x8 x9 x10 v23 x12 x13 x14 x15 x16 h
def f217_J28{β:Type}(j22:Cur β 17)(x0 x1 x2 x3 x4 x5 x6 x7 x8 x9 x10 x11 x12 x13 x14 x15 x16:AV)(h:H):Option β :=
 zd 1 x7<|.mk λv29=>
 za v29 h<|.mk λv30=>
 zhX 2 1 x4 x5<|.mk λv31=>
 zu 1 v31 v30 h<|.mk λh=>
 j22 x0 x1 x2 x3 x4 x5 x6 x7 x8 x9 x10 x11 x12 x13 x14 x15 x5 h
def f217_J21{β:Type}(call:zi β)(k:K β)(l19:Cur β 17)(x0 x1 x2 x3 x4 x5 x6 x7 x8 x9 x10 x11 x12 x13 x14 x15 x16:AV)(h:H):Option β :=
 zx 17 (.mk (
 f217_J22 l19))<|.mk λj22=>
 zO 1 x9 x11<|.mk λv24=>
 za v24 h<|.mk λv25=>
 qCall call (.fn 189 []) [x0,x1,v25] h<|.mk λv26 h=>
 zaJ 0 [(.int .i64 0),(.int .i64 0),.nils] h<|.mk λv27 h=>
 zu 3 v27 v26 h<|.mk λh=>
 zx 17 (.mk (
 f217_J28 j22))<|.mk λj28=>
 zd 0 v27<|.mk λv32=>
 za v32 h<|.mk λv33=>
 qNeq v33 (.int .i64 1)<|.mk λv34=>
 qIf v34 (.mk (
 zy [(.int .i64 0),(.int .i64 0),.nils] [(0,1)] [(.int .i64 3)]<|.mk λv35=>
 zu 3 x3 v35 h<|.mk λh=>
 zM 3 x3 h<|.mk λv36=>
 k v36 h))<|.mk (
 j28 x0 x1 x2 x3 x4 x11 v25 v27 x8 x9 x10 x11 x12 x11 v25 v26 x16 h)
def f217_L19{β:Type}(call:zi β)(k:K β)(j2:Cur β 17)(l19:Cur β 17)(x0 x1 x2 x3 x4 x5 x6 x7 x8 x9 x10 x11 x12 x13 x14 x15 x16:AV)(h:H):Option β :=
 qLss x11 x10<|.mk λv20=>
 zx 17 (.mk (
 f217_J21 call k l19))<|.mk λj21=>
 qIf v20 (.mk (
 j21 x0 x1 x2 x3 x4 .any .any .any .any x9 x10 x11 v20 .any .any .any .any h))<|.mk (
 j2 x0 x1 x2 x3 x4 .any .any .any .any x9 x10 x11 v20 .any .any .any .any h)
def f217{β:Type}(N:Nat)(call:zi β)(a:List AV)(h:H)(k:K β):Option β :=
 zaJ 0 [(.int .i64 0),(.int .i64 0),.nils] h<|.mk λv0 h=>
 zaJ 0 [(.int .i64 0),(.int .i64 0)] h<|.mk λv1 h=>
 zx 17 (.mk (
 f217_J2 call k))<|.mk λj2=>
 qNil (nth a 2)<|.mk λv15=>
 zd 3 v15<|.mk λv16=>
 za v16 h<|.mk λv17=>
 qLenL v17<|.mk λv18=>
 (zaR 17 N<|.mk (
 f217_L19 call k j2)) (nth a 0) (nth a 1) (nth a 2) v0 v1 (nth a 8) (nth a 9) (nth a 10) (nth a 11) v17 v18 (.int .i64 0) (nth a 19) (nth a 20) (nth a 22) (nth a 26) (nth a 31) h
theorem y217:zah I 217 T.s217 N call a h k=f217 N call a h k:=by kernel_rfl
def f218{β:Type}(N:Nat)(call:zi β)(a:List AV)(h:H)(k:K β):Option β :=
 qNil (nth a 0)<|.mk λv0=>
 zd 1 v0<|.mk λv1=>
 za v1 h<|.mk λv2=>
 qNil (nth a 0)<|.mk λv3=>
 zd 1 v3<|.mk λv4=>
 za v4 h<|.mk λv5=>
 qLenL v5<|.mk λv6=>
 qNil (nth a 0)<|.mk λv7=>
 zd 1 v7<|.mk λv8=>
 za v8 h<|.mk λv9=>
 qLenL v9<|.mk λv10=>
 qSlL 1 false true true v2 [v6,v10]<|.mk λv11=>
 qApp 0 1 8 v11 (nth a 1) h<|.mk λv12 h=>
 qNil (nth a 0)<|.mk λv13=>
 zd 0 v13<|.mk λv14=>
 za v14 h<|.mk λv15=>
 qNil (nth a 0)<|.mk λv16=>
 zd 2 v16<|.mk λv17=>
 za v17 h<|.mk λv18=>
 zy [.nils,.nils,(.int .i64 0)] [(0,1),(1,1),(2,1)] [v15,v12,v18]<|.mk λv19=>
 qBox 0 v19 h<|.mk λv20 h=>
 k v20 h
theorem y218:zah I 218 T.s218 N call a h k=f218 N call a h k:=by kernel_rfl
def f219_J0{β:Type}(k:K β)(x0 x1 x2 x3:AV)(h:H):Option β :=
 qNil x0<|.mk λv1=>
 zd 0 v1<|.mk λv2=>
 za v2 h<|.mk λv3=>
 qNil x0<|.mk λv4=>
 zd 1 v4<|.mk λv5=>
 za v5 h<|.mk λv6=>
 qNil x0<|.mk λv7=>
 zd 2 v7<|.mk λv8=>
 za v8 h<|.mk λv9=>
 zy [.nils,(.int .i64 0),.nils,(.int .i64 0),(.bool false),(.int .i64 0),(.int .i64 0),.nils,(.bool false),(.int .i64 0)] [(0,1),(1,1),(2,1),(3,1)] [v3,x1,v6,v9]<|.mk λv10=>
 qBox 0 v10 h<|.mk λv11 h=>
 k v11 h
def f219{β:Type}(N:Nat)(call:zi β)(a:List AV)(h:H)(k:K β):Option β :=
 zx 4 (.mk (
 f219_J0 k))<|.mk λj0=>
 qNil (nth a 0)<|.mk λv12=>
 zd 0 v12<|.mk λv13=>
 za v13 h<|.mk λv14=>
 zO 4 v14 (nth a 1)<|.mk λv15=>
 qNil v15<|.mk λv16=>
 zd 0 v16<|.mk λv17=>
 za v17 h<|.mk λv18=>
 qEql v18 (.int .i64 1)<|.mk λv19=>
 qIf v19 (.mk (
 qNil (nth a 0)<|.mk λv20=>
 zd 1 v20<|.mk λv21=>
 za v21 h<|.mk λv22=>
 qNil v15<|.mk λv23=>
 zd 1 v23<|.mk λv24=>
 za v24 h<|.mk λv25=>
 zO 1 v22 v25<|.mk λv26=>
 za v26 h<|.mk λv27=>
 k v27 h))<|.mk (
 j0 (nth a 0) (nth a 1) .nilp v15 h)
theorem y219:zah I 219 T.s219 N call a h k=f219 N call a h k:=by kernel_rfl
def e136:Ent:=⟨136,T.s136,λ_ _=>f136,λ_=>y136⟩
def e158:Ent:=⟨158,T.s158,λ_ _=>f158,λ_=>y158⟩
def e159:Ent:=⟨159,T.s159,λ_ _=>f159,λ_=>y159⟩
def e160:Ent:=⟨160,T.s160,λ_ _=>f160,λ_=>y160⟩
def e161:Ent:=⟨161,T.s161,λ_ _=>f161,λ_=>y161⟩
def e162:Ent:=⟨162,T.s162,λ_ _=>f162,λ_=>y162⟩
def e189:Ent:=⟨189,T.s189,λ_ _=>f189,λ_=>y189⟩
def e190:Ent:=⟨190,T.s190,λ_ _=>f190,λ_=>y190⟩
def e191:Ent:=⟨191,T.s191,λ_ _=>f191,λ_=>y191⟩
def e216:Ent:=⟨216,T.s216,λ_ _=>f216,λ_=>y216⟩
def e217:Ent:=⟨217,T.s217,λ_ _=>f217,λ_=>y217⟩
def e218:Ent:=⟨218,T.s218,λ_ _=>f218,λ_=>y218⟩
def e219:Ent:=⟨219,T.s219,λ_ _=>f219,λ_=>y219⟩
structure GN11 (t:ETree):Prop where
 g136:t.get 136=some e136
 g158:t.get 158=some e158
 g159:t.get 159=some e159
 g160:t.get 160=some e160
 g161:t.get 161=some e161
 g162:t.get 162=some e162
 g189:t.get 189=some e189
 g190:t.get 190=some e190
 g191:t.get 191=some e191
 g216:t.get 216=some e216
 g217:t.get 217=some e217
 g218:t.get 218=some e218
 g219:t.get 219=some e219
section
variable {β:Type} {t:ETree} {I:FI} (n:Nat) (a:List AV) (h:H) (k:K β)
theorem GN11.c136(T:GN11 t):ze t I (n+1) (.fn 136 []) a h k=f136 n (ze t I n) a h k:=by rw[cRule T.g136];rfl
theorem GN11.c158(T:GN11 t):ze t I (n+1) (.fn 158 []) a h k=f158 n (ze t I n) a h k:=by rw[cRule T.g158];rfl
theorem GN11.c159(T:GN11 t):ze t I (n+1) (.fn 159 []) a h k=f159 n (ze t I n) a h k:=by rw[cRule T.g159];rfl
theorem GN11.c160(T:GN11 t):ze t I (n+1) (.fn 160 []) a h k=f160 n (ze t I n) a h k:=by rw[cRule T.g160];rfl
theorem GN11.c161(T:GN11 t):ze t I (n+1) (.fn 161 []) a h k=f161 n (ze t I n) a h k:=by rw[cRule T.g161];rfl
theorem GN11.c162(T:GN11 t):ze t I (n+1) (.fn 162 []) a h k=f162 n (ze t I n) a h k:=by rw[cRule T.g162];rfl
theorem GN11.c189(T:GN11 t):ze t I (n+1) (.fn 189 []) a h k=f189 n (ze t I n) a h k:=by rw[cRule T.g189];rfl
theorem GN11.c190(T:GN11 t):ze t I (n+1) (.fn 190 []) a h k=f190 n (ze t I n) a h k:=by rw[cRule T.g190];rfl
theorem GN11.c191(T:GN11 t):ze t I (n+1) (.fn 191 []) a h k=f191 n (ze t I n) a h k:=by rw[cRule T.g191];rfl
theorem GN11.c216(T:GN11 t):ze t I (n+1) (.fn 216 []) a h k=f216 n (ze t I n) a h k:=by rw[cRule T.g216];rfl
theorem GN11.c217(T:GN11 t):ze t I (n+1) (.fn 217 []) a h k=f217 n (ze t I n) a h k:=by rw[cRule T.g217];rfl
theorem GN11.c218(T:GN11 t):ze t I (n+1) (.fn 218 []) a h k=f218 n (ze t I n) a h k:=by rw[cRule T.g218];rfl
theorem GN11.c219(T:GN11 t):ze t I (n+1) (.fn 219 []) a h k=f219 n (ze t I n) a h k:=by rw[cRule T.g219];rfl
end
end
end Am.F
end
section
namespace Am.F
open Go Am
structure Gst where
 A:List Nat
 CA:List Nat
 CB:List Nat
def ptrs(A ks:List Nat):List AV:=ks.map λk=>.ptr (A.getD k 0) 0
def zI(bv tv pv:AV)(c:Cl):List AV:=[bv,.int .i64 c.at_,tv,.int .i64 c.node,.bool c.done,.int .i64 c.f.kind,.int .i64 c.f.num,pv,.bool c.shown,.int .i64 c.size]
theorem zC(A ks:List Nat):(ptrs A ks).length=ks.length:=List.length_map ..
theorem zfd(A a b:List Nat):ptrs A (a++b)=ptrs A a++ptrs A b:=List.map_append
theorem zfq{A B:List Nat}(h:A <+: B){k:Nat}(hk:k<A.length):B.getD k 0=A.getD k 0:=by
 obtain⟨r,rfl⟩:=h;rw[List.getD_eq_getElem?_getD,List.getD_eq_getElem?_getD,List.getElem?_append_left hk]
theorem zdE{A B:List Nat}(h:A <+: B){ks:List Nat}(hk:∀k ∈ ks,k<A.length):ptrs B ks=ptrs A ks:=List.map_congr_left λk hm=>by rw[zfq h (hk k hm)]
theorem zbR{A ks:List Nat}{i:Nat}(hi:i<ks.length):(ptrs A ks)[i]?=some (.ptr (A.getD (ks.getD i 0) 0) 0):=by
 unfold ptrs;rw[List.getElem?_map,List.getD_eq_getElem?_getD (l:=ks),List.getElem?_eq_getElem hi];rfl
def SlF(v:AV)(n:Nat):Prop:=v = .nils/\n=0\/∃b o m g,v = .sl b o n m g/\(g=none\/g=some 1)/\n<=m
structure PM (p:List Df) (mb:Nat) (dv:AV) (g h:H) (G:Gst) (M:Mc):Prop where
 un:Un g h
 gn:g.n=h.n
 mlt:mb<g.n
 mhid:(g.get mb).cells=none
 defs:LAt 2 DfC g dv p
 m:∃cv,h.get mb = .own 0 [dv,.int .i64 (M.left:Int),cv,.bool M.out]/\((cv = .nils/\G.CA=[]/\G.CB=[])\/∃b,G.CB=[b]/\cv = .sl b 0 G.CA.length G.CA.length (some 1)/\0<G.CA.length/\b<g.n/\(g.get b).cells=none/\b≠mb/\b ∉ G.A/\h.get b = .own 0 (G.CA.map λx=>.ptr x 0))
 alen:G.A.length=M.cells.length
 clen:G.CA.length=M.calls.length
 inj:∀(i j a:Nat),G.A[i]?=some a->G.A[j]?=some a->i=j
 cell:∀(k:Nat) (c:Cl) (a:Nat),M.cells[k]?=some c->G.A[k]?=some a->a<g.n/\(g.get a).cells=none/\a≠mb/\∃bv tv pv,h.get a = .own 0 (zI bv tv pv c)/\LAt 4 ExC g bv c.body/\SlAt g tv (ptrs G.A c.there)/\SlAt g pv (ptrs G.A c.f.parts)/\SlF tv c.there.length
 call:∀(j:Nat) (c:Ca) (b:Nat),M.calls[j]?=some c->G.CA[j]?=some b->b<g.n/\∃av,g.get b = .own 0 [.int .i64 c.fn,.int .i64 c.parent,av,.ptr (G.A.getD c.res 0) 0]/\SlAt g av (ptrs G.A c.args)/\SlF av c.args.length
structure Stq (mb:Nat) (g h:H) (G:Gst) (g' h':H) (G':Gst):Prop where
 eg:Ext g g'
 hn:h.n<=h'.n
 A:G.A <+: G'.A
 CA:G.CA <+: G'.CA
 freshA:∀a ∈ G'.A,a ∈ G.A\/h.n<=a
 freshB:∀b ∈ G'.CB,b ∈ G.CB\/h.n<=b
 keep:∀i,i<h.n->i≠mb->i ∉ G.A->i ∉ G.CB->h'.get i=h.get i
 lt:∀a ∈ G.A,a<h.n
 imm:∀a ∈ G.A,∀cs,h.get a = .own 0 cs->∃ds,h'.get a = .own 0 ds/\ds.take 4=cs.take 4
theorem Stq.trans{mb:Nat}{g h g' h' g'' h'':H}{G G' G'':Gst}(s:Stq mb g h G g' h' G')(t:Stq mb g' h' G' g'' h'' G''):Stq mb g h G g'' h'' G'':=by
 refine⟨s.eg.trans t.eg,Nat.le_trans s.hn t.hn,s.A.trans t.A,s.CA.trans t.CA,λa ha=>?_,λb hb=>?_,λi h1 h2 h3 h4=>?_,s.lt,λa ha cs hc=>?_⟩
 ·rcases t.freshA a ha with h1|h1
  ·exact s.freshA a h1
  ·exact .inr (Nat.le_trans s.hn h1)
 ·rcases t.freshB b hb with h1|h1
  ·exact s.freshB b h1
  ·exact .inr (Nat.le_trans s.hn h1)
 ·rw[t.keep i (Nat.lt_of_lt_of_le h1 s.hn) h2 (λhh=>?_) (λhh=>?_),s.keep i h1 h2 h3 h4]
  ·rcases s.freshA i hh with h5|h5
   ·exact h3 h5
   ·omega
  ·rcases s.freshB i hh with h5|h5
   ·exact h4 h5
   ·omega
 ·obtain⟨ds,h1,h2⟩:=s.imm a ha cs hc;obtain⟨es,h3,h4⟩:=t.imm a (s.A.subset ha) ds h1;exact⟨es,h3,h4.trans h2⟩
section
variable {p:List Df} {mb:Nat} {dv:AV} {g h:H} {G:Gst} {M:Mc}
theorem PM.more(pm:PM p mb dv g h G M){g' h':H}(eg:Ext g g')(un:Un g' h')(gn:g'.n=h'.n)(hk:∀i,i<h.n->(i=mb\/i ∈ G.A\/i ∈ G.CB)->h'.get i=h.get i):PM p mb dv g' h' G M:=by
 have hgn:=pm.gn;refine⟨un,gn,Nat.lt_of_lt_of_le pm.mlt eg.n,by rw[eg.get _ pm.mlt];exact pm.mhid,pm.defs.ext DfC.stays eg,?_,pm.alen,pm.clen,pm.inj,λk c a h1 h2=>?_,λj c b h1 h2=>?_⟩
 ·obtain⟨cv,h1,h2⟩:=pm.m;refine⟨cv,by rw[hk mb (by rw[<- hgn];exact pm.mlt) (.inl rfl)];exact h1,?_⟩;rcases h2 with h2|⟨b,q1,q2,q3,q4,q5,q6,q7,q8⟩
  ·exact .inl h2
  ·exact .inr ⟨b,q1,q2,q3,Nat.lt_of_lt_of_le q4 eg.n,by rw[eg.get _ q4];exact q5,q6,q7,by rw[hk b (by omega) (.inr (.inr (by rw[q1];exact List.mem_singleton.2 rfl)))];exact q8⟩
 ·obtain⟨q1,q2,q3,bv,tv,pv,q4,q5,q6,q7⟩:=pm.cell k c a h1 h2;exact⟨Nat.lt_of_lt_of_le q1 eg.n,by rw[eg.get _ q1];exact q2,q3,bv,tv,pv,by rw[hk a (by omega) (.inr (.inl (List.mem_of_getElem? h2)))];exact q4,q5.ext ExC.stays eg,q6.ext eg,q7.1.ext eg,q7.2⟩
 ·obtain⟨q1,av,q2,q3,q4⟩:=pm.call j c b h1 h2;exact⟨Nat.lt_of_lt_of_le q1 eg.n,av,by rw[eg.get _ q1];exact q2,q3.ext eg,q4⟩
theorem PM.lts(pm:PM p mb dv g h G M):∀a ∈ G.A,a<h.n:=λa ha=>by
 obtain⟨k,hk⟩:=List.mem_iff_getElem?.1 ha;have hkl:=(List.getElem?_eq_some_iff.1 hk).1;rw[pm.alen] at hkl;have:=(pm.cell k M.cells[k] a (List.getElem?_eq_getElem hkl) hk).1
 have:=pm.gn
 omega
theorem PM.stp(pm:PM p mb dv g h G M):Stq mb g h G g h G:=⟨Ext.refl g,Nat.le_refl _,List.prefix_refl _,List.prefix_refl _,λa ha=>.inl ha,λa ha=>.inl ha,λ_ _ _ _ _=>rfl,pm.lts,λa ha cs hc=>⟨cs,hc,rfl⟩⟩
theorem Un.pushV(u:Un g h)(hn:g.n=h.n)(b:Blk):Un (g.push b) (h.push b):=⟨by rw[H.n_push,H.n_push];omega,λi p q=>by
 rw[H.n_push] at p
 by_cases hi:i=g.n
 ·subst hi;rw[zf (h:=h) (by omega),zf (h:=g) rfl]
 ·rw[zc (λe=>hi e.symm)] at q ⊢;rw[zc (by omega)];exact u.get i (by omega) q⟩
theorem PM.pushV(pm:PM p mb dv g h G M)(b:Blk):PM p mb dv (g.push b) (h.push b) G M/\Stq mb g h G (g.push b) (h.push b) G :=
  ⟨pm.more ((Ext.refl g).push _) (pm.un.pushV pm.gn b) (by rw[H.n_push,H.n_push,pm.gn]) λi hi _=>zc (by omega),
   ⟨(Ext.refl g).push _,by rw[H.n_push];omega,List.prefix_refl _,List.prefix_refl _,λa ha=>.inl ha,λa ha=>.inl ha,λi hi _ _ _=>zc (by omega),pm.lts,λa ha cs hc=>⟨cs,by rw[zc (by have:=pm.lts a ha;omega)];exact hc,rfl⟩⟩⟩
theorem PM.pushH(pm:PM p mb dv g h G M)(b:Blk):PM p mb dv (g.push .dead) (h.push b) G M/\Stq mb g h G (g.push .dead) (h.push b) G :=
  let u:=pm.un.hide pm.gn b
  ⟨pm.more ((Ext.refl g).push _) u.2.1 u.2.2.1 λi hi _=>zc (by omega),
   ⟨(Ext.refl g).push _,by rw[H.n_push];omega,List.prefix_refl _,List.prefix_refl _,λa ha=>.inl ha,λa ha=>.inl ha,λi hi _ _ _=>zc (by omega),pm.lts,λa ha cs hc=>⟨cs,by rw[zc (by have:=pm.lts a ha;omega)];exact hc,rfl⟩⟩⟩
structure Loc (mb:Nat) (g h:H) (G:Gst) (i:Nat):Prop where
 lt:i<h.n
 hid:(g.get i).cells=none
 m:i≠mb
 a:i ∉ G.A
 b:i ∉ G.CB
theorem PM.setL(pm:PM p mb dv g h G M){i:Nat}(l:Loc mb g h G i)(b:Blk):PM p mb dv g (h.set i b) G M :=
 pm.more (Ext.refl g) (pm.un.set l.hid b) (by rw[H.n_set];exact pm.gn) λj hj hh=>zg (by
  intro e;subst e;rcases hh with hh|hh|hh
  ·exact l.m hh
  ·exact l.a hh
  ·exact l.b hh)
theorem Stq.setL{g0 h0:H}{G0:Gst}(s:Stq mb g0 h0 G0 g h G){i:Nat}(hi:h0.n<=i)(b:Blk):Stq mb g0 h0 G0 g (h.set i b) G :=
 ⟨s.eg,by rw[H.n_set];exact s.hn,s.A,s.CA,s.freshA,s.freshB,λj h1 h2 h3 h4=>by rw[zg (by omega)];exact s.keep j h1 h2 h3 h4,s.lt,λa ha cs hc=>by rw[zg (by have:=s.lt a ha;omega)];exact s.imm a ha cs hc⟩
theorem PM.loc(pm:PM p mb dv g h G M)(b:Blk):Loc mb (g.push .dead) (h.push b) G h.n:=by
 have hgn:=pm.gn;refine⟨by rw[H.n_push];omega,by rw[zf hgn];rfl,by have:=pm.mlt;omega,λha=>?_,λhb=>?_⟩
 ·obtain⟨k,hk⟩:=List.mem_iff_getElem?.1 ha;have hkl:=(List.getElem?_eq_some_iff.1 hk).1;rw[pm.alen] at hkl;have:=(pm.cell k M.cells[k] h.n (List.getElem?_eq_getElem hkl) hk).1
  omega
 ·obtain⟨cv,_,h2|⟨b,q1,_,_,q4,_⟩⟩:=pm.m
  ·rw[h2.2.2] at hb;simp at hb
  ·rw[q1,List.mem_singleton] at hb;omega
theorem Loc.step{i:Nat}(l:Loc mb g h G i)(hgn:g.n=h.n){g' h':H}{G':Gst}(s:Stq mb g h G g' h' G'):Loc mb g' h' G' i/\h'.get i=h.get i:=by
 have hlt:=l.lt;refine⟨⟨Nat.lt_of_lt_of_le l.lt s.hn,by rw[s.eg.get _ (by omega)];exact l.hid,l.m,λha=>?_,λhb=>?_⟩,s.keep i l.lt l.m l.a l.b⟩
 ·rcases s.freshA i ha with h1|h1
  ·exact l.a h1
  ·omega
 ·rcases s.freshB i hb with h1|h1
  ·exact l.b h1
  ·omega
theorem Loc.set{i j:Nat}(l:Loc mb g h G i)(b:Blk):Loc mb g (h.set j b) G i:=⟨by rw[H.n_set];exact l.lt,l.hid,l.m,l.a,l.b⟩
theorem PM.nmb(pm:PM p mb dv g h G M):∀a ∈ G.A,a≠mb:=λa ha=>by
 obtain⟨k,hk⟩:=List.mem_iff_getElem?.1 ha;have hkl:=(List.getElem?_eq_some_iff.1 hk).1;rw[pm.alen] at hkl;exact (pm.cell k M.cells[k] a (List.getElem?_eq_getElem hkl) hk).2.2.1
theorem PM.setM(pm:PM p mb dv g h G M){cv:AV}{l:Nat}{o:Bool}(hcv:∃l0 o0,h.get mb = .own 0 [dv,l0,cv,o0]) :
  PM p mb dv g (h.set mb (.own 0 [dv,.int .i64 (l:Int),cv,.bool o])) G { M with left:=l,out:=o }/\Stq mb g h G g (h.set mb (.own 0 [dv,.int .i64 (l:Int),cv,.bool o])) G:=by
 have hgn:=pm.gn;refine⟨⟨pm.un.set pm.mhid _,by rw[H.n_set];exact hgn,pm.mlt,pm.mhid,pm.defs,?_,pm.alen,pm.clen,pm.inj,λk c a h1 h2=>?_,pm.call⟩,
  ⟨Ext.refl g,by rw[H.n_set];omega,List.prefix_refl _,List.prefix_refl _,λa ha=>.inl ha,λa ha=>.inl ha,λi hi hm _ _=>zg (λe=>hm e.symm),pm.lts,λa ha cs hc=>⟨cs,by rw[zg λe=>?_];exact hc;exact pm.nmb a ha e.symm,rfl⟩⟩⟩
 ·obtain⟨cv',h1,h2⟩:=pm.m;obtain⟨l0,o0,h3⟩:=hcv;rw[h3] at h1;have hc:cv=cv':=by injection h1 with _ e;injection e with _ e;injection e with _ e;injection e with e _
  subst hc;refine⟨cv,by rw[zB rfl],?_⟩;rcases h2 with h2|⟨b,q1,q2,q3,q4,q5,q6,q7,q8⟩
  ·exact .inl h2
  ·exact .inr ⟨b,q1,q2,q3,q4,q5,q6,q7,by rw[zg (λe=>q6 e.symm)];exact q8⟩
 ·obtain⟨q1,q2,q3,bv,tv,pv,q4,q5⟩:=pm.cell k c a h1 h2;exact⟨q1,q2,q3,bv,tv,pv,by rw[zg (λe=>q3 e.symm)];exact q4,q5⟩
theorem PM.notA(pm:PM p mb dv g h G M):h.n ∉ G.A:=(pm.loc .dead).a
theorem PM.notB(pm:PM p mb dv g h G M):h.n ∉ G.CB:=(pm.loc .dead).b
theorem PM.ltA(pm:PM p mb dv g h G M){k:Nat}(hk:k<M.cells.length):∃a,G.A[k]?=some a/\G.A.getD k 0=a:=by
 rw[<- pm.alen] at hk;exact⟨G.A[k],List.getElem?_eq_getElem hk,by rw[List.getD_eq_getElem?_getD,List.getElem?_eq_getElem hk];rfl⟩
theorem PM.add(pm:PM p mb dv g h G M)(hw:WFM p M){c:Cl}{bv tv pv:AV}(h1:LAt 4 ExC g bv c.body)(h2:SlAt g tv (ptrs G.A c.there))(h3:SlAt g pv (ptrs G.A c.f.parts))(h4:SlF tv c.there.length)(g1:∀k ∈ c.there,k<M.cells.length)(g2:∀k ∈ c.f.parts,k<M.cells.length) :
  PM p mb dv (g.push .dead) (h.push (.own 0 (zI bv tv pv c))) { G with A:=G.A++[h.n] } (M.add c)/\Stq mb g h G (g.push .dead) (h.push (.own 0 (zI bv tv pv c))) { G with A:=G.A++[h.n] }:=by
 have hgn:=pm.gn;have hA:=pm.notA;have hB:=pm.notB;have eg:Ext g (g.push .dead):=(Ext.refl g).push _;have hpre:G.A <+: G.A++[h.n]:=List.prefix_append _ _;obtain⟨u1,u2,u3,u4⟩:=pm.un.hide hgn (.own 0 (zI bv tv pv c));have hpt:∀{ks:List Nat},(∀k ∈ ks,k<M.cells.length)->ptrs (G.A++[h.n]) ks=ptrs G.A ks:=λhk=>zdE hpre λk hm=>by rw[pm.alen];exact hk k hm
 have pm':=pm.more eg u2 u3 λi hi _=>zc (by omega)
 refine⟨⟨u2,u3,pm'.mlt,pm'.mhid,pm'.defs,?_,by show (G.A++[h.n]).length=(M.cells++[c]).length;rw[List.length_append,List.length_append,pm.alen];rfl,pm.clen,λi j a hi hj=>?_,λk d a hk ha=>?_,λj d b hj hb=>?_⟩,
  ⟨eg,by rw[H.n_push];omega,hpre,List.prefix_refl _,λa ha=>?_,λb hb=>.inl hb,λi hi _ _ _=>zc (by omega),pm.lts,λa ha cs hc=>⟨cs,by rw[zc (by have:=pm.lts a ha;omega)];exact hc,rfl⟩⟩⟩
 ·obtain⟨cv,q0,q⟩:=pm'.m;refine⟨cv,q0,?_⟩;rcases q with q|⟨b,q1,q2,q3,q4,q5,q6,q7,q8⟩
  ·exact .inl q
  ·refine .inr ⟨b,q1,q2,q3,q4,q5,q6,λhh=>?_,q8⟩;rcases List.mem_append.1 hh with hh|hh
   ·exact q7 hh
   ·rw[List.mem_singleton.1 hh] at q1;apply hB;rw[show G.CB=[h.n] from q1];exact List.mem_singleton.2 rfl
 ·rw[List.getElem?_append] at hi hj;split at hi<;>split at hj
  ·exact pm.inj i j a hi hj
  ·exfalso
   have ha:=List.mem_of_getElem? hi;have:=List.mem_of_getElem? hj
   rw[List.mem_singleton] at this;rw[this] at ha;exact hA ha
  ·exfalso
   have ha:=List.mem_of_getElem? hj;have:=List.mem_of_getElem? hi
   rw[List.mem_singleton] at this;rw[this] at ha;exact hA ha
  ·have q1:=(List.getElem?_eq_some_iff.1 hi).1;have q2:=(List.getElem?_eq_some_iff.1 hj).1;simp only[List.length_cons,List.length_nil] at q1 q2;omega
 ·have hk:(M.cells++[c])[k]?=some d:=hk;have ha:(G.A++[h.n])[k]?=some a:=ha;rw[List.getElem?_append] at hk ha;rw[pm.alen] at ha;split at hk
  ·rename_i hlt;rw[if_pos hlt] at ha;obtain⟨q1,q2,q3,b1,t1,p1,q4,q5,q6,q7,q8⟩:=pm'.cell k d a hk ha;have hdm:=List.mem_of_getElem? hk;exact⟨q1,q2,q3,b1,t1,p1,q4,q5,by show SlAt _ t1 (ptrs (G.A++[h.n]) d.there);rw[hpt (hw.cell d hdm).1.lt];exact q6,by show SlAt _ p1 (ptrs (G.A++[h.n]) d.f.parts);rw[hpt (hw.cell d hdm).2.lt];exact q7,q8⟩
  ·rename_i hlt;rw[if_neg hlt] at ha;have e1:=List.mem_of_getElem? hk;have e2:=List.mem_of_getElem? ha;rw[List.mem_singleton] at e1 e2;subst e1 e2;refine⟨by rw[H.n_push];omega,u4,by have:=pm.mlt;omega,bv,tv,pv,zf rfl,h1.ext ExC.stays eg,?_,?_,h4⟩
   ·show SlAt _ tv (ptrs (G.A++[h.n]) d.there);rw[hpt g1];exact h2.ext eg
   ·show SlAt _ pv (ptrs (G.A++[h.n]) d.f.parts);rw[hpt g2];exact h3.ext eg
 ·obtain⟨q1,av,q2,q3,q4⟩:=pm'.call j d b hj hb;have hdm:=List.mem_of_getElem? hj;refine⟨q1,av,?_,?_,q4⟩
  ·show _=Blk.own 0 [_,_,av,.ptr ((G.A++[h.n]).getD d.res 0) 0];rw[zfq hpre (by rw[pm.alen];exact (hw.call d hdm).2)];exact q2
  ·show SlAt _ av (ptrs (G.A++[h.n]) d.args);rw[hpt (hw.call d hdm).1.lt];exact q3
 ·rcases List.mem_append.1 ha with ha|ha
  ·exact .inl ha
  ·rw[List.mem_singleton.1 ha];exact .inr (Nat.le_refl _)
theorem PM.setC(pm:PM p mb dv g h G M){k a:Nat}{c d:Cl}(hk:M.cells[k]?=some c)(ha:G.A[k]?=some a){bv tv pv:AV}(h1:LAt 4 ExC g bv d.body)(h2:SlAt g tv (ptrs G.A d.there))(h3:SlAt g pv (ptrs G.A d.f.parts))(h4:SlF tv d.there.length){pv0:AV}(h5:h.get a = .own 0 (zI bv tv pv0 c))(h6:zbh c d) :
  PM p mb dv g (h.set a (.own 0 (zI bv tv pv d))) G { M with cells:=M.cells.set k d }/\Stq mb g h G g (h.set a (.own 0 (zI bv tv pv d))) G:=by
 obtain⟨r1,r2,r3,_⟩:=pm.cell k c a hk ha;have hkl:=(List.getElem?_eq_some_iff.1 hk).1;have ham:=List.mem_of_getElem? ha;refine⟨⟨pm.un.set r2 _,by rw[H.n_set];exact pm.gn,pm.mlt,pm.mhid,pm.defs,?_,by show G.A.length=(M.cells.set k d).length;rw[List.length_set];exact pm.alen,pm.clen,pm.inj,λj e b hj hb=>?_,pm.call⟩,
  ⟨Ext.refl g,by rw[H.n_set];omega,List.prefix_refl _,List.prefix_refl _,λa ha=>.inl ha,λa ha=>.inl ha,λi hi _ hA _=>zg (λe:a=i=>hA (e ▸ ham)),pm.lts,λb hb cs hc=>?_⟩⟩
 ·obtain⟨cv,q0,q⟩:=pm.m;refine⟨cv,by rw[zg r3];exact q0,?_⟩;rcases q with q|⟨b,q1,q2,q3,q4,q5,q6,q7,q8⟩
  ·exact .inl q
  ·exact .inr ⟨b,q1,q2,q3,q4,q5,q6,q7,by rw[zg (λe:a=b=>q7 (e ▸ ham))];exact q8⟩
 ·have hj:(M.cells.set k d)[j]?=some e:=hj
  by_cases hkj:k=j
  ·subst hkj;rw[List.getElem?_set_self hkl] at hj;cases hj;rw[ha] at hb;cases hb;exact⟨r1,r2,r3,bv,tv,pv,zB rfl,h1,h2,h3,h4⟩
  ·rw[List.getElem?_set_ne hkj] at hj;obtain⟨q1,q2,q3,b1,t1,p1,q4,q5⟩:=pm.cell j e b hj hb;refine⟨q1,q2,q3,b1,t1,p1,?_,q5⟩;rw[zg λe=>?_]
   ·exact q4
   ·subst e;exact hkj (pm.inj k j a ha hb)
 ·by_cases hab:a=b
  ·subst hab;rw[h5] at hc;cases hc;refine⟨_,zB rfl,?_⟩;unfold zI;rw[h6.2.1,h6.2.2.2];rfl
  ·exact⟨cs,by rw[zg hab];exact hc,rfl⟩
end
end Am.F
end
section
namespace Am.F
open Go Am
structure FrAt (g:H) (A:List Nat) (fb:Nat) (body:List Ex) (there:List Nat) (node:Int):Prop where
 lt:fb<g.n
 ex:∃bv tv,g.get fb = .own 0 [bv,tv,.int .i64 node]/\LAt 4 ExC g bv body/\SlAt g tv (ptrs A there)/\SlF tv there.length
theorem FrAt.step{g g':H}{A A':List Nat}{fb:Nat}{body:List Ex}{there:List Nat}{node:Int}(f:FrAt g A fb body there node)(e:Ext g g')(ha:A <+: A')(hk:∀k ∈ there,k<A.length):FrAt g' A' fb body there node:=by
 obtain⟨bv,tv,h1,h2,h3,h4⟩:=f.ex;exact⟨Nat.lt_of_lt_of_le f.lt e.n,bv,tv,by rw[e.get _ f.lt];exact h1,h2.ext ExC.stays e,by rw[zdE ha hk];exact h3.ext e,h4⟩
theorem zN{β:Type}(b o:Nat)(k:VK β):qNil (.ptr b o) (.mk k)=k (.ptr b o):=(za0 b o k).trans (Eq.refl _)
theorem zgs{β:Type}{h:H}{bytes m:Nat}{v x:AV}{cs new:List AV}{k:K β}{R:Option β}(hv:SlAt h v cs)(hf:v = .nils\/∃b o,v = .sl b o m m none)(hm:cs.length=m)(hx:SlAt h x new)(hr:cs.length+new.length<room/\bytes<=1024)
  (H0:new=[]->k v h=R)
  (H1:new≠[]->k (.sl h.n 0 (m+new.length) (m+new.length) (some 1)) (h.push (.own 0 (cs++new)))=R):fApp 0 1 bytes v x h k=R:=by
 unfold fApp;rw[hx.src];obtain⟨hr1,hr2⟩:=hr
 by_cases hn:new=[]
 ·subst hn;rcases hf with rfl|⟨b,o,rfl⟩
  ·simp (disch:=omega) only [zdl,aSl,zW,ble_eq,beq_eq,za9,zbm,Nat.add_eq,List.length_nil,Nat.add_zero];exact H0 rfl
  ·simp (disch:=omega) only [zdl,aSl,zW,ble_eq,beq_eq,za9,zbm,Nat.add_eq,List.length_nil,Nat.add_zero];exact H0 rfl
 ·have hl:0<new.length:=List.length_pos_iff.2 hn;rcases hv with⟨rfl,hcs⟩|⟨b,o,m',g',us,rfl,h2,h3,h4,h5⟩
  ·subst hcs;simp (disch:=omega) only [zdl,aSl,zW,ble_eq,beq_eq,za9,zbm,Nat.add_eq,Nat.succ_eq_add_one,zeO,List.length_nil,Nat.zero_add] at hr1 ⊢;have:=H1 hn
   simp only[List.length_nil] at hm;rw[<- hm,Nat.zero_add,List.nil_append] at this;exact this
  ·rcases hf with hf|⟨b',o',hf⟩
   ·cases hf
   ·injection hf with e1 e2 e3 e4 e5
    subst e1 e2 e3 e4 e5;have e:appF (zbq cs.length (zbZ o us)) new=cs++new:=by
     rw[za5,zX,zab,h4]
    have hroom:room=68719476736:=rfl;simp (disch:=omega) only [zdl,aSl,zW,ble_eq,beq_eq,za9,zbm,Nat.add_eq,Nat.mul_eq,Nat.mul_one,Nat.zero_add,Nat.succ_eq_add_one,zax,h3,zbj,zA,zeO,e];exact H1 hn
theorem SlF.sl3{β:Type}{v:AV}{n:Nat}(hv:SlF v n):∃v',(∀kk:VK β,qSlL 1 false true true v [.int .i64 (n:Int),.int .i64 (n:Int)] (.mk kk)=kk v')/\(v' = .nils\/∃b o,v' = .sl b o n n none)/\∀(h:H) (cs:List AV),cs.length=n->SlAt h v cs->SlAt h v' cs:=by
 rcases hv with⟨rfl,rfl⟩|⟨b,o,m,g,rfl,hg,hm⟩
 ·exact⟨.nils,λkk=>rfl,.inl rfl,λh cs hl hs=>hs⟩
 ·refine⟨.sl b o n n none,λkk=>?_,.inr ⟨b,o,rfl⟩,λh cs hl hs=>?_⟩
  ·have hb:zaz false true true [.int .i64 (n:Int),.int .i64 (n:Int)] n m=some (0,n,n):=by
    simp only[zaz,zaf,if_pos (show (0:Int)<=(n:Int) by omega),Option.bind_some,Int.toNat_natCast];rw[if_pos (by omega)]
   show pSlL 1 false true true (.sl b o n m g) [.int .i64 (n:Int),.int .i64 (n:Int)] kk=_;simp only[pSlL,aSl,bnd,hb,zW,Nat.add_eq,Nat.mul_eq,Nat.zero_mul,Nat.add_zero,Nat.sub_eq,Nat.sub_zero];rcases hg with rfl|rfl
   ·rfl
   ·simp only[beq_eq,decide_true,cond_true]
  ·rcases hs with⟨h1,_⟩|⟨b',o',m',g',us,h1,h2,h3,h4,h5⟩
   ·cases h1
   ·injection h1 with e1 e2 e3 e4 e5
    subst e1 e2;exact .inr ⟨b,o,n,none,us,by rw[hl],h2,h3,h4,h5⟩
section
variable {β:Type} {t:ETree} {p:List Df} {mb:Nat} {dv:AV} {g h:H} {G:Gst} {M:Mc}
theorem var_at{body:List Ex}{there:List Nat}{a:Int}{e:Ex}(hf:zp p body there a)(he:body[a.toNat]?=some e)(h1:e.kind=1):0<=e.num/\e.num<(there.length:Int):=by
 obtain⟨e',l,he',_,hp,hl,_⟩:=hf.at_;rw[he] at he';cases he';unfold zq at hp;omega
theorem GN11.w219(TN:GN11 t)(n:Nat)(hn:1<=n)(pm:PM p mb dv g h G M)(hw:WFM p M){fb:Nat}{body:List Ex}{there:List Nat}{node:Int}(fr:FrAt g G.A fb body there node)(hg:Gds p M there){a:Int}(hf:zp p body there a) :
  Sp (β:=β) (ze t stdI n (.fn 219 []) [.ptr fb 0,.int .i64 a] h) λu h'=>∃g' G',Stq mb g h G g' h' G'/\PM p mb dv g' h' G' (kidM body there node a M).2/\u = .ptr (G'.A.getD (kidM body there node a M).1 0) 0:=by
 intro k R hk;obtain⟨m,rfl⟩:∃m,n=m+1:=⟨n-1,by omega⟩
 obtain⟨e,l,he,_,hp,hl,h0,_,_,_⟩:=hf.at_;obtain⟨bv,tv,f1,f2,f3,f4⟩:=fr.ex;have f2':=f2.un ExC.staysU pm.un;have f3':=f3.un pm.un;have hfg:(h.get fb).cells=some [bv,tv,.int .i64 node]:=by rw[pm.un.get fb fr.lt (by rw[f1];simp[Blk.cells]),f1];rfl
 obtain⟨b,o,cs,a1,a2,w,rfl,a3⟩:=f2'.at (β:=β) he;obtain⟨us,g1,g2,g3,g4,g5,g6,g7,g8⟩:=(show ExIn h b o w e from⟨a2,a3⟩).get β;rw[show ((a.toNat:Nat):Int)=a by omega] at a1
 by_cases c1:e.kind=1
 ·have hv:=var_at hf he c1;have hkd:kidM body there node a M=(there.getD e.num.toNat 0,M):=by unfold kidM;rw[he];exact if_pos c1
  have hld:=λkk:VK β=>f3'.load (kd:=.i64) (i:=e.num) hv.1 (by rw[zC];exact hv.2) kk
  have hgd:(ptrs G.A there).getD e.num.toNat (.tup []) = .ptr (G.A.getD (there.getD e.num.toNat 0) 0) 0:=by
   rw[List.getD_eq_getElem?_getD,zbR (by omega)];rfl
  rw[TN.c219];unfold f219;simp (disch:=first|omega|simp only[zD]<;>omega|assumption) only[↓zR,↓zRM,zR,zRM,reduceAdd,reduceMul,reduceToNat,zN,hfg,a1,g1,g4,g5,eq_true c1,hld,hgd];refine hk _ _ ⟨g,G,pm.stp,?_,?_⟩
  ·rw[hkd];exact pm
  ·rw[hkd]
 ·have hkd:kidM body there node a M=(M.cells.length,M.add (cl0 body a there node)):=by unfold kidM;rw[he];exact if_neg c1
  have bsc:=f2.sc;have tsc:=f3.sc;have hbu:∀kk:VK β,zy [.nils,.int .i64 0,.nils,.int .i64 0,.bool false,.int .i64 0,.int .i64 0,.nils,.bool false,.int .i64 0] [(0,1),(1,1),(2,1),(3,1)] [bv,.int .i64 a,tv,.int .i64 node] (.mk kk)=kk (.agg (zI bv tv .nils (cl0 body a there node))):=λkk=>by
   rcases f2 with⟨rfl,_⟩|⟨_,_,_,_,_,rfl,_⟩<;>rcases f3 with⟨rfl,_⟩|⟨_,_,_,_,_,rfl,_⟩<;>rfl
  have hbx:∀(hh:H) (kk:K β),qBox 0 (.agg (zI bv tv .nils (cl0 body a there node))) hh (.mk kk)=kk (.ptr hh.n 0) (hh.push (.own 0 (zI bv tv .nils (cl0 body a there node)))):=λhh kk=>zr 0 _ hh kk
  obtain⟨pm',st⟩:=pm.add hw (c:=cl0 body a there node) (bv:=bv) (tv:=tv) (pv:=.nils) f2 f3 (.inl ⟨rfl,rfl⟩) f4 hg.lt (λk hk=>by simp[cl0,fd0] at hk);rw[TN.c219];unfold f219;simp (disch:=first|omega|simp only[zD]<;>omega|assumption) only[↓zR,↓zRM,zR,zRM,reduceAdd,reduceMul,reduceToNat,zN,hfg,a1,g1,g4,eq_false c1,↓f219_J0,hbu,↓hbx];refine hk _ _ ⟨_,_,st,?_,?_⟩
  ·rw[hkd];exact pm'
  ·rw[hkd];show AV.ptr h.n 0 = .ptr ((G.A++[h.n]).getD M.cells.length 0) 0;rw[List.getD_eq_getElem?_getD,<- pm.alen];simp
theorem PM.show(pm:PM p mb dv g h G M){b:Nat}(l:Loc mb g h G b){cs:List AV}(hb:h.get b = .own 0 cs):PM p mb dv (g.set b (.own 0 cs)) h G M:=by
 have hgn:=pm.gn;have u:Un g (g.set b (.own 0 cs)):=(Un.refl g).set l.hid _;have gn:(g.set b (.own 0 cs)).n=g.n:=H.n_set _ _ _;refine⟨⟨by rw[gn];exact pm.un.n,λi p1 p2=>?_⟩,by rw[gn];exact hgn,by rw[gn];exact pm.mlt,by rw[zg l.m];exact pm.mhid,pm.defs.un DfC.staysU u,?_,pm.alen,pm.clen,pm.inj,λk c a h1 h2=>?_,λj c q h1 h2=>?_⟩
 ·by_cases hi:b=i
  ·subst hi;rw[zB rfl];exact hb
  ·rw[zg hi] at p2 ⊢;exact pm.un.get i (by rw[gn] at p1;exact p1) p2
 ·obtain⟨cv,h1,h2⟩:=pm.m;refine⟨cv,h1,?_⟩;rcases h2 with h2|⟨x,q1,q2,q3,q4,q5,q6,q7,q8⟩
  ·exact .inl h2
  ·exact .inr ⟨x,q1,q2,q3,by rw[gn];exact q4,by rw[zg λe=>l.b (by rw[q1,e];exact List.mem_singleton.2 rfl)];exact q5,q6,q7,q8⟩
 ·obtain⟨q1,q2,q3,bv,tv,pv,q4,q5,q6,q7,q8⟩:=pm.cell k c a h1 h2;exact⟨by rw[gn];exact q1,by rw[zg λe:b=a=>l.a (e ▸ List.mem_of_getElem? h2)];exact q2,q3,bv,tv,pv,q4,q5.un ExC.staysU u,q6.un u,q7.un u,q8⟩
 ·obtain⟨q1,av,q2,q3,q4⟩:=pm.call j c q h1 h2;exact⟨by rw[gn];exact q1,av,by rw[zg λe=>by rw[<- e] at q2;have:=l.hid;rw[q2] at this;simp[Blk.cells] at this];exact q2,q3.un u,q4⟩
theorem Stq.show{g0 h0:H}{G0:Gst}(s:Stq mb g0 h0 G0 g h G)(hg0:g0.n=h0.n){b:Nat}(hb:h0.n<=b)(c:Blk):Stq mb g0 h0 G0 (g.set b c) h G :=
 ⟨s.eg.set (by omega) c,s.hn,s.A,s.CA,s.freshA,s.freshB,s.keep,s.lt,s.imm⟩
theorem PM.grown(pm:PM p mb dv g h G M){h':H}{b:Nat}(hb:∀i,i=mb\/i ∈ G.A\/i ∈ G.CB->¬ i=b)(hbh:b<g.n->(g.get b).cells=none)(hn:h'.n=h.n+1)(hk:∀i,i<h.n->¬ i=b->h'.get i=h.get i) :
  PM p mb dv (g.push .dead) h' G M/\Loc mb (g.push .dead) h' G h.n:=by
 have hgn:=pm.gn;have eg:Ext g (g.push .dead):=(Ext.refl g).push _;have l0:=pm.loc .dead;refine⟨pm.more eg ⟨by rw[H.n_push];omega,λi p1 p2=>?_⟩ (by rw[H.n_push];omega) λi hi hh=>hk i hi (hb i hh),⟨by omega,l0.hid,l0.m,l0.a,l0.b⟩⟩;rw[H.n_push] at p1
 by_cases hi:i<g.n
 ·rw[zc (by omega)] at p2 ⊢;rw[hk i (by omega) λe=>by subst e;exact p2 (hbh hi)];exact pm.un.get i hi p2
 ·have:i=g.n:=by omega
  subst this;rw[zf rfl] at p2;exact absurd rfl p2
theorem GN11.w216(TN:GN11 t)(n:Nat)(pm:PM p mb dv g h G M)(hw:WFM p M){fb:Nat}{body:List Ex}{there:List Nat}{node:Int}(fr:FrAt g G.A fb body there node)(hg:Gds p M there){w:AV}{kids:List Int}(hk0:SlAt g w (ints kids))(hkl:kids.length<=3)(hf:∀a ∈ kids,zp p body there a)(hn:10<=n) :
  Sp (β:=β) (ze t stdI n (.fn 216 []) [.ptr fb 0,w] h) λu h'=>∃g' G',Stq mb g h G g' h' G'/\PM p mb dv g' h' G' (zT body there node kids M).2/\SlAt g' u (ptrs G'.A (zT body there node kids M).1)/\SlF u kids.length:=by
 intro k R hk;obtain⟨m,rfl⟩:∃m,n=m+1:=⟨n-1,by omega⟩
 have hgn:=pm.gn;have hroom:room=68719476736:=rfl;have lw:∀kc:VK β,qLenL w (.mk kc)=kc (.int .i64 (kids.length:Int)):=λkc=>by rw[hk0.len,zL]
 rw[TN.c216];unfold f216;simp (disch:=first|omega|simp only[zD]<;>omega|assumption) only[↓zR,↓zRM,zR,zRM,reduceAdd,reduceMul,reduceToNat,lw];refine zaa 9 m _ _ (λi x0 x1 x2 x3 x4 x5 x6 x7 x8 h'=>x0 = .ptr fb 0/\x5=w/\x6 = .int .i64 (kids.length:Int)/\∃(j:Nat) (g':H) (G':Gst),x7 = .int .i64 (j:Int)/\j+i=kids.length/\Stq mb g h G g' h' G'/\PM p mb dv g' h' G' (zT body there node (kids.take j) M).2 /\
   ((j=0/\x3 = .nils)\/(0<j/\∃b,Loc mb g' h' G' b/\h.n<=b/\x3 = .sl b 0 j j (some 1)/\h'.get b = .own 0 (ptrs G'.A (zT body there node (kids.take j) M).1)))) kids.length (by omega) ?_ _ _ _ _ _ _ _ _ _ _
  ⟨rfl,rfl,rfl,0,g,G,rfl,by omega,pm.stp,pm,.inl ⟨rfl,rfl⟩⟩
 intro l i ih x0 x1 x2 x3 x4 x5 x6 x7 x8 h' ⟨p0,p1,p2,j,g',G',p3,hj,st,pm',ho⟩;rw[p0,p1,p2,p3];clear p0 p1 p2 p3;obtain⟨w1,gd1,len1⟩:=zaS (node:=node) (kids.take j) (λa ha=>hf a (List.mem_of_mem_take ha)) hg hw;have hjl:(kids.take j).length=j:=by rw[List.length_take];omega
 rw[hjl] at len1;cases i with
 | zero=>
  have hjk:j=kids.length:=by omega
  subst hjk;rw[List.take_length] at pm' ho len1 gd1;rcases ho with⟨h0,rfl⟩|⟨h0,b,lb,hb,rfl,hbg⟩
  ·simp (disch:=first|omega|simp only[zD]<;>omega|assumption) only[↓zR,↓zRM,zR,zRM,reduceAdd,reduceMul,reduceToNat,↓f216_L2,↓f216_J0];refine hk _ _ ⟨g',G',st,pm',.inl ⟨rfl,?_⟩,.inl ⟨rfl,h0⟩⟩;have:(zT body there node kids M).1=[]:=List.eq_nil_of_length_eq_zero (by omega)
   rw[this];rfl
  ·simp (disch:=first|omega|simp only[zD]<;>omega|assumption) only[↓zR,↓zRM,zR,zRM,reduceAdd,reduceMul,reduceToNat,↓f216_L2,↓f216_J0];refine hk _ _ ⟨g'.set b (.own 0 (ptrs G'.A (zT body there node kids M).1)),G',st.show hgn hb _,pm'.show lb hbg,.inr ⟨b,0,kids.length,some 1,ptrs G'.A (zT body there node kids M).1,by rw[zC,len1],by rw[H.n_set,pm'.gn];exact lb.lt,by rw[zB rfl];rfl,by rw[List.drop_zero,List.take_length],by omega⟩,.inr ⟨b,0,_,_,rfl,.inr rfl,Nat.le_refl _⟩⟩
 | succ i=>
  have hjk:j<kids.length:=by omega
  have cj:(j:Int)<(kids.length:Int):=by omega
  obtain⟨kid,hkq⟩:∃kid,kids[j]?=some kid:=⟨_,List.getElem?_eq_getElem hjk⟩
  have hfk:=hf kid (List.mem_of_getElem? hkq);have htk:kids.take (j+1)=kids.take j++[kid]:=by rw[List.take_add_one,hkq];rfl
  have hks:=zeP body there node kid (kids.take j) M;rw[<- htk] at hks;have hld:=λkk:VK β=>((hk0.ext st.eg).un pm'.un).load (kd:=.i64) (i:=(j:Int)) (by omega) (by rw[zL];omega) kk
  have hgd:(ints kids).getD ((j:Int)).toNat (.tup []) = .int .i64 kid:=by rw[Int.toNat_natCast,zcl hjk,List.getD_eq_getElem?_getD,hkq];rfl
  have hge:(ints kids).getD j (.tup []) = .int .i64 kid:=by rw[Int.toNat_natCast] at hgd;exact hgd
  have m1:=Mono.kids body there node (kids.take j) M;simp (disch:=first|omega|simp only[zD]<;>omega|assumption) only[↓zR,↓zRM,zR,zRM,reduceAdd,reduceMul,reduceToNat,↓f216_L2,↓f216_J4,hld,hgd,hge];refine TN.w219 m (by omega) pm' w1 (fr.step st.eg st.A (λq hq=>by rw[pm.alen];exact hg.lt q hq)) (hg.mono m1) hfk _ _ ?_;intro u h2 ⟨g2,G2,s2,pm2,eu⟩;rw[show (kidM body there node kid (zT body there node (List.take j kids) M).2).2=(zT body there node (kids.take (j+1)) M).2 by rw[hks]] at pm2;subst eu;obtain⟨kk1,hkk⟩:∃x,x=(kidM body there node kid (zT body there node (List.take j kids) M).2).1:=⟨_,rfl⟩
  rw[<- hkk] at hks ⊢;have hks1:(zT body there node (kids.take (j+1)) M).1=(zT body there node (kids.take j) M).1++[kk1]:=by rw[hks]
  simp (disch:=first|omega|simp only[zD]<;>omega|assumption) only[↓zR,↓zRM,zR,zRM,reduceAdd,reduceMul,reduceToNat];obtain⟨pm3,s3⟩:=pm2.pushV (.own 0 [.ptr (G2.A.getD kk1 0) 0]);have hn3:(h2.push (.own 0 [.ptr (G2.A.getD kk1 0) 0])).n=h2.n+1:=H.n_push _ _;have hpt:ptrs G2.A (zT body there node (kids.take j) M).1=ptrs G'.A (zT body there node (kids.take j) M).1:=zdE s2.A λq hq=>by rw[pm'.alen];exact gd1.lt q hq
  have hcs:ptrs G2.A (zT body there node (kids.take (j+1)) M).1=ptrs G'.A (zT body there node (kids.take j) M).1++[.ptr (G2.A.getD kk1 0) 0]:=by rw[hks1,zfd,hpt];rfl
  have hsn:=s2.hn;have hsrc:∀c:Nat->List AV->Option β,fSrc 1 (.sl h2.n 0 1 1 none) (h2.push (.own 0 [.ptr (G2.A.getD kk1 0) 0])) c=c 1 [.ptr (G2.A.getD kk1 0) 0]:=zfu (by rw[zf rfl];rfl) _ _;have hrow:∃bb,(∀q,q=mb\/q ∈ G2.A\/q ∈ G2.CB->¬ q=bb)/\(bb<(g2.push (.own 0 [.ptr (G2.A.getD kk1 0) 0])).n->((g2.push (.own 0 [.ptr (G2.A.getD kk1 0) 0])).get bb).cells=none)/\h.n<=bb/\bb≠h2.n/\∃lo hi,hi<=h2.n+1/\zbA (h2.push (.own 0 [.ptr (G2.A.getD kk1 0) 0])) lo hi 1 x3 (ptrs G'.A (zT body there node (kids.take j) M).1)/\∀q,¬ q=bb->q<lo\/hi<=q:=by
   rcases ho with⟨h0,rfl⟩|⟨h0,b,lb,hb,rfl,hbg⟩
   ·refine⟨h2.n+1,λq hq=>?_,λhh=>?_,by have:=st.hn;omega,by omega,0,0,by omega,.inl ⟨rfl,?_⟩,λq _=>by omega⟩
    ·have hg2:=pm2.gn;intro e;subst e;rcases hq with hq|hq|hq
     ·have:=pm2.mlt;omega
     ·obtain⟨z,hz⟩:=List.mem_iff_getElem?.1 hq;have hzl:=(List.getElem?_eq_some_iff.1 hz).1;rw[pm2.alen] at hzl;have:=(pm2.cell z _ _ (List.getElem?_eq_getElem hzl) hz).1
      omega
     ·obtain⟨cv,_,h2|⟨b,q1,_,_,q4,_⟩⟩:=pm2.m
      ·rw[h2.2.2] at hq;simp at hq
      ·rw[q1,List.mem_singleton] at hq;omega
    ·rw[H.n_push] at hh;have:=pm2.gn;omega
    ·have:(zT body there node (kids.take j) M).1=[]:=List.eq_nil_of_length_eq_zero (by omega)
     rw[this];rfl
   ·obtain⟨lb2,hb2⟩:=lb.step pm'.gn s2;have hlt:=lb2.lt;refine⟨b,λq hq e=>?_,λhh=>?_,hb,by omega,b,b+1,by omega,.inr ⟨b,j,rfl,Nat.le_refl _,by omega,by rw[zc (by omega),hb2];exact hbg,by rw[zC];omega,h0⟩,λq hq=>by omega⟩
    ·subst e;rcases hq with hq|hq|hq
     ·exact lb2.m hq
     ·exact lb2.a hq
     ·exact lb2.b hq
    ·rw[zc (by have:=pm2.gn;omega)];exact lb2.hid
  obtain⟨bb,r1,r2,r3,r4,lo,hi,r7,r5,r6⟩:=hrow;refine zeh r5 (by omega) hsrc rfl (by rw[zC];omega) (by omega) (by omega) (by omega) ?_;intro l1 h4 i1 i2 i3 i4;obtain⟨pm4,lc4⟩:=pm3.grown (b:=bb) r1 r2 i2 λq hq hb=>i4 q hq (r6 q hb)
  have hll:l1=j+1:=by rw[List.length_append,zC,len1] at i3;simp at i3;omega
  subst hll;have s4:Stq mb g h G ((g2.push (.own 0 [.ptr (G2.A.getD kk1 0) 0])).push .dead) h4 G2:=by
   have s23:=(st.trans s2).trans s3;have hst0:=st.hn;refine⟨s23.eg.push _,by omega,s23.A,s23.CA,s23.freshA,s23.freshB,λq h1 h2' h3 h4'=>?_,s23.lt,λa ha cs hc=>?_⟩
   ·rw[i4 q (by omega) (r6 q (by omega))];exact s23.keep q h1 h2' h3 h4'
   ·obtain⟨ds,e1,e2⟩:=s23.imm a ha cs hc;have:=s23.lt a ha
    exact⟨ds,by rw[i4 a (by omega) (r6 a (by omega))];exact e1,e2⟩
  simp (disch:=first|omega|simp only[zD]<;>omega|assumption) only[↓zR,↓zRM,zR,zRM,reduceAdd,reduceMul,reduceToNat,↓f216_J5];refine ih i (by omega) _ _ _ _ _ _ _ _ _ _ ⟨rfl,rfl,rfl,j+1,_,G2,rfl,by omega,s4,pm4,.inr ⟨by omega,_,lc4,by have:=st.hn;omega,rfl,?_⟩⟩;rw[hcs];exact i1
end
end Am.F
end
section
namespace Am.F
open Go Am
def cnt(M:Mc):Nat:=M.calls.length+M.left
def CntP(P:Pt):Prop:=∀M b t nd a,cnt (P M b t nd a).2<=cnt M
theorem zkV(M:Mc)(k:Nat)(x:Fd):cnt (M.put k x)=cnt M:=by
 unfold Mc.put;split<;>rfl
theorem zhx(b:List Ex)(t:List Nat)(nd a:Int)(M:Mc):cnt (kidM b t nd a M).2=cnt M:=by
 unfold kidM;split
 ·rfl
 ·split<;>rfl
theorem zdL(b:List Ex)(t:List Nat)(nd:Int):∀(as:List Int) (M:Mc),cnt (zT b t nd as M).2=cnt M
 | [],M=>rfl
 | a::as,M=>(zdL b t nd as _).trans (zhx b t nd a M)
theorem zgC{P:Pt}(hP:CntP P)(M:Mc)(k:Nat):cnt (zH P M k).2<=cnt M:=by
 unfold zH;split
 ·exact Nat.le_refl _
 ·split
  ·exact Nat.le_refl _
  ·show cnt (if _ then _ else _:Fd × Mc).2<=_;split
   ·exact hP _ _ _ _ _
   ·show cnt (Mc.put _ _ _)<=_;rw[zkV];exact hP _ _ _ _ _
theorem zgE{p:List Df}{P:Pt}(hP:CntP P)(M:Mc)(fn parent:Int)(args:List Nat):cnt (callM p P M fn parent args).2<=cnt M+1:=by
 have h1:cnt (M.call fn parent args)=cnt M+1:=by unfold cnt Mc.call;simp;omega
 show cnt (if _ then _ else _:Mc)<=_;split
 ·rw[<- h1];exact hP _ _ _ _ _
 ·rw[zkV,<- h1];exact hP _ _ _ _ _
theorem cnt_prim{P:Pt}(hP:CntP P)(M:Mc)(b:List Ex)(t:List Nat)(nd:Int)(e:Ex):cnt (zbc P M b t nd e).2<=cnt M:=by
 unfold zbc;show cnt (if _ then _ else _:Fd × Mc).2<=_;split
 ·exact hP _ _ _ _ _
 ·show cnt (if _ then _ else _:Fd × Mc).2<=_;split
  ·exact Nat.le_trans (hP _ _ _ _ _) (hP _ _ _ _ _)
  ·exact Nat.le_trans (hP _ _ _ _ _) (hP _ _ _ _ _)
theorem zdc(p:List Df):∀N,CntP (zm p N)
 | 0=>λM _ _ _ _=>Nat.le_refl _
 | N+1=>λM body there node a=>by
  have ih:=zdc p N;show cnt (if _ then _ else _:Fd × Mc).2<=_;split
  ·exact Nat.le_refl _
  ·split
   ·exact Nat.le_refl _
   ·rename_i h0;have h1:cnt { M with left:=M.left-1 }+1=cnt M:=by unfold cnt;simp only;omega
    show cnt (match body[a.toNat]? with|none=>_|some e=>_:Fd × Mc).2<=_;split
    ·show cnt { M with left:=M.left-1 }<=_;omega
    ·split
     ·show cnt { M with left:=M.left-1 }<=_;omega
     ·split
      ·exact Nat.le_trans (zgC ih _ _) (by omega)
      ·split
       ·refine Nat.le_trans (zgE ih _ _ _ _) ?_;rw[zdL];omega
       ·split
        ·show cnt (zT _ _ _ _ _).2<=_;rw[zdL];omega
        ·split
         ·exact Nat.le_trans (cnt_prim ih _ _ _ _ _) (by omega)
         ·split
          ·show cnt (if _ then _ else _:Fd × Mc).2<=_;split
           ·exact Nat.le_trans (ih _ _ _ _ _) (by omega)
           ·split
            ·exact Nat.le_trans (ih _ _ _ _ _) (Nat.le_trans (ih _ _ _ _ _) (by omega))
            ·exact Nat.le_trans (ih _ _ _ _ _) (Nat.le_trans (ih _ _ _ _ _) (by omega))
          ·split
           ·refine Nat.le_trans (ih _ _ _ _ _) ?_;rw[zhx];omega
           ·show cnt { M with left:=M.left-1 }<=_;omega
section
variable {β:Type} {t:ETree} {p:List Df} {mb:Nat} {dv:AV} {g h:H} {G:Gst} {M:Mc}
theorem GN11.w218(TN:GN11 t)(n:Nat)(hn:1<=n)(pm:PM p mb dv g h G M){fb:Nat}{body:List Ex}{there ms:List Nat}{node:Int}(fr:FrAt g G.A fb body there node){mv:AV}(hm:SlAt g mv (ptrs G.A ms))(hl:there.length+ms.length<=1000) :
  Sp (β:=β) (ze t stdI n (.fn 218 []) [.ptr fb 0,mv] h) λu h'=>∃g' fb',Stq mb g h G g' h' G/\PM p mb dv g' h' G M/\u = .ptr fb' 0/\FrAt g' G.A fb' body (there++ms) node:=by
 intro k R hk;obtain⟨m,rfl⟩:∃m,n=m+1:=⟨n-1,by omega⟩
 have hroom:room=68719476736:=rfl;obtain⟨bv,tv,f1,f2,f3,f4⟩:=fr.ex;have hfg:(h.get fb).cells=some [bv,tv,.int .i64 node]:=by rw[pm.un.get fb fr.lt (by rw[f1];simp[Blk.cells]),f1];rfl
 have hfl:fb<h.n:=by rw[<- pm.gn];exact fr.lt
 have ltv:∀kc:VK β,qLenL tv (.mk kc)=kc (.int .i64 (there.length:Int)):=λkc=>by rw[f3.len,zC]
 obtain⟨v',q1,q2,q3⟩:=f4.sl3 (β:=β);have q4:=q3 g _ (zC _ _) f3;have q5:=q3 h _ (zC _ _) (f3.un pm.un);have q6:SlF v' there.length:=by
  rcases q2 with rfl|⟨b,o,rfl⟩
  ·refine .inl ⟨rfl,?_⟩;rcases q4 with⟨_,hc⟩|⟨_,_,_,_,_,hc,_⟩
   ·have:=congrArg List.length hc;rw[zC] at this;exact this
   ·cases hc
  ·exact .inr ⟨b,o,_,none,rfl,.inl rfl,Nat.le_refl _⟩
 have bsc:=f2.sc;have hbu:∀(x:AV) (kk:VK β),x.sc=true->zy [.nils,.nils,.int .i64 0] [(0,1),(1,1),(2,1)] [bv,x,.int .i64 node] (.mk kk)=kk (.agg [bv,x,.int .i64 node]):=λx kk hx=>by
  rcases f2 with⟨rfl,_⟩|⟨_,_,_,_,_,rfl,_⟩<;>(cases x<;>first|rfl|(simp[AV.sc] at hx))
 have hbx:∀(x:AV) (hh:H) (kk:K β),qBox 0 (.agg [bv,x,.int .i64 node]) hh (.mk kk)=kk (.ptr hh.n 0) (hh.push (.own 0 [bv,x,.int .i64 node])):=λx hh kk=>zr 0 _ hh kk
 rw[TN.c218];unfold f218;simp (disch:=first|omega|simp only[zD]<;>omega|assumption) only[↓zR,↓zRM,zR,zRM,reduceAdd,reduceMul,reduceToNat,zN,hfg,ltv,q1];refine zgs q5 q2 (zC _ _) (hm.un pm.un) ⟨by rw[zC,zC];omega,by omega⟩ ?_ ?_
 ·intro h0;have hms:ms=[]:=List.eq_nil_of_length_eq_zero (by have:=congrArg List.length h0;rw[zC] at this;exact this);have vsc:=q4.sc;have hb2:=λkk:VK β=>hbu v' kk vsc
  simp (disch:=first|omega|simp only[zD]<;>omega|assumption) only[↓zR,↓zRM,zR,zRM,reduceAdd,reduceMul,reduceToNat,zN,hfg,hb2,↓hbx];obtain⟨pm2,s2⟩:=pm.pushV (.own 0 [bv,v',.int .i64 node]);refine hk _ _ ⟨_,h.n,s2,pm2,rfl,by rw[H.n_push,pm.gn];omega,bv,v',zf pm.gn,f2.ext ExC.stays s2.eg,?_,?_⟩
  ·rw[hms,List.append_nil];exact q4.ext s2.eg
  ·rw[hms,List.append_nil];exact q6
 ·intro h0;have hml:0<ms.length:=by
   rcases Nat.eq_zero_or_pos ms.length with hz|hz
   ·have:ms=[]:=List.eq_nil_of_length_eq_zero hz
    subst this;exact absurd rfl h0
   ·exact hz
  obtain⟨pm2,s2⟩:=pm.pushV (.own 0 (ptrs G.A there++ptrs G.A ms));have hfg2:((h.push (.own 0 (ptrs G.A there++ptrs G.A ms))).get fb).cells=some [bv,tv,.int .i64 node]:=by rw[zc (by omega)];exact hfg
  have hb2:=λkk:VK β=>hbu (.sl h.n 0 (there.length+ms.length) (there.length+ms.length) (some 1)) kk rfl
  rw[show (ptrs G.A ms).length=ms.length from zC _ _];simp (disch:=first|omega|simp only[zD]<;>omega|assumption) only[↓zR,↓zRM,zR,zRM,reduceAdd,reduceMul,reduceToNat,zN,hfg,hfg2,hb2,↓hbx];obtain⟨pm3,s3⟩:=pm2.pushV (.own 0 [bv,.sl h.n 0 (there.length+ms.length) (there.length+ms.length) (some 1),.int .i64 node]);refine hk _ _ ⟨_,_,s2.trans s3,pm3,rfl,by simp only[H.n_push];have:=pm.gn;omega,bv,_,zf pm2.gn,f2.ext ExC.stays (s2.trans s3).eg,?_,?_⟩
  ·refine (SlAt.ext (h:=g.push (.own 0 (ptrs G.A there++ptrs G.A ms))) ?_ s3.eg);refine .inr ⟨h.n,0,there.length+ms.length,some 1,ptrs G.A there++ptrs G.A ms,by rw[zC,List.length_append],by rw[H.n_push,pm.gn];omega,by rw[zf pm.gn];rfl,?_,by rw[zC,List.length_append,List.length_append,zC,zC];omega⟩;rw[List.drop_zero,<- zfd,List.take_length]
  ·rw[List.length_append];exact .inr ⟨_,_,_,_,rfl,.inr rfl,Nat.le_refl _⟩
def zhD(β:Type)(t:ETree)(p:List Df)(mb:Nat)(dv:AV)(N n:Nat):Prop :=
 ∀(g h:H) (G:Gst) (M:Mc) (fb:Nat) (body:List Ex) (there:List Nat) (node a:Int),PM p mb dv g h G M->WFM p M->cnt M<=1000->M.left<N->FrAt g G.A fb body there node->Gds p M there->zp p body there a ->
  Sp (β:=β) (ze t stdI n (.fn 189 []) [.ptr mb 0,.ptr fb 0,.int .i64 a] h) λu h'=>∃g' G',Stq mb g h G g' h' G'/\PM p mb dv g' h' G' (zm p N M body there node a).2/\∃pv,u = .agg [.int .i64 (zm p N M body there node a).1.kind,.int .i64 (zm p N M body there node a).1.num,pv]/\SlAt g' pv (ptrs G'.A (zm p N M body there node a).1.parts)
theorem zjh{bv tv pv bv' tv' pv':AV}{c d:Cl}(h:(zI bv tv pv c).take 4=(zI bv' tv' pv' d).take 4):bv=bv'/\tv=tv':=by
 unfold zI at h;simp only[List.take_succ_cons,List.cons.injEq] at h;exact⟨h.1,h.2.2.1⟩
theorem PM.put2(pm:PM p mb dv g h G M){k a:Nat}{d:Cl}(hk:M.cells[k]?=some d)(ha:G.A[k]?=some a){bv tv pv0 pv:AV}(h5:h.get a = .own 0 (zI bv tv pv0 d))(h1:LAt 4 ExC g bv d.body)(h2:SlAt g tv (ptrs G.A d.there))(h4:SlF tv d.there.length){x:Fd}(h3:SlAt g pv (ptrs G.A x.parts)) :
  PM p mb dv g ((h.set a (.own 0 (zI bv tv pv { d with f:=x }))).set a (.own 0 (zI bv tv pv { d with done:=true,f:=x }))) G (M.put k x)/\Stq mb g h G g ((h.set a (.own 0 (zI bv tv pv { d with f:=x }))).set a (.own 0 (zI bv tv pv { d with done:=true,f:=x }))) G:=by
 have hkl:=(List.getElem?_eq_some_iff.1 hk).1;obtain⟨p1,s1⟩:=pm.setC hk ha (d:={ d with f:=x }) (bv:=bv) (tv:=tv) (pv:=pv) h1 h2 h3 h4 h5 ⟨rfl,rfl,rfl,rfl⟩;obtain⟨p2,s2⟩:=p1.setC (k:=k) (a:=a) (c:={ d with f:=x }) (by show (M.cells.set k _)[k]?=_;rw[List.getElem?_set_self hkl]) ha (d:={ d with done:=true,f:=x }) (bv:=bv) (tv:=tv) (pv:=pv) (pv0:=pv) h1 h2 h3 h4 (zB rfl) ⟨rfl,rfl,rfl,rfl⟩;have e:M.put k x={ { M with cells:=M.cells.set k { d with f:=x } } with cells:=(M.cells.set k { d with f:=x }).set k { d with done:=true,f:=x } }:=by
  unfold Mc.put;rw[hk];show ({ M with cells:=_ }:Mc)={ M with cells:=_ };rw[List.set_set]
 rw[e];exact⟨p2,s1.trans s2⟩
structure FF (β:Type) (mb a lb:Nat) (dv bv tv pv3:AV) (x:Fd × Mc) (c d:Cl) (p:List Df) (kc:Nat) (g h:H) (G:Gst) (g3 h3:H) (G3:Gst) (cv pv':AV) (h5:H):Prop where
 eh5:(h3.push (.own 0 [.int .i64 0,.int .i64 0,.nils])).set h3.n (.own 0 [.int .i64 x.1.kind,.int .i64 x.1.num,pv3])=h5
 ga4:((h3.push (.own 0 [.int .i64 0,.int .i64 0,.nils])).get a).cells=some [bv,.int .i64 c.at_,tv,.int .i64 c.node,.bool d.done,.int .i64 d.f.kind,.int .i64 d.f.num,pv',.bool d.shown,.int .i64 d.size]
 ga3:(h3.get a).cells=some [bv,.int .i64 c.at_,tv,.int .i64 c.node,.bool d.done,.int .i64 d.f.kind,.int .i64 d.f.num,pv',.bool d.shown,.int .i64 d.size]
 gl3:zaG (h3.get lb)=some (0,[.int .i64 0,.int .i64 0,.nils])
 ga3o:zaG (h3.get a)=some (0,[bv,.int .i64 c.at_,tv,.int .i64 c.node,.bool d.done,.int .i64 d.f.kind,.int .i64 d.f.num,pv',.bool d.shown,.int .i64 d.size])
 gm3:(h3.get mb).cells=some [dv,.int .i64 (x.2.left:Int),cv,.bool x.2.out]
 gm5:(h5.get mb).cells=some [dv,.int .i64 (x.2.left:Int),cv,.bool x.2.out]
 ga5:h5.get a = .own 0 [bv,.int .i64 c.at_,tv,.int .i64 c.node,.bool d.done,.int .i64 d.f.kind,.int .i64 d.f.num,pv',.bool d.shown,.int .i64 d.size]
 ga5c:(h5.get a).cells=some [bv,.int .i64 c.at_,tv,.int .i64 c.node,.bool d.done,.int .i64 d.f.kind,.int .i64 d.f.num,pv',.bool d.shown,.int .i64 d.size]
 gb5:(h5.get h3.n).cells=some [.int .i64 x.1.kind,.int .i64 x.1.num,pv3]
 gl5:zaG (h5.get lb)=some (0,[.int .i64 0,.int .i64 0,.nils])
 ck1:∀kk:VK β,zaq tv tv (.mk kk)=kk tv
 ck2:∀kk:VK β,zaq bv bv (.mk kk)=kk bv
 sc3:pv3.sc=true
 sc':pv'.sc=true
 pm5:PM p mb dv (g3.push .dead) h5 G3 x.2
 s05:Stq mb g h G (g3.push .dead) h5 G3
 l5:Loc mb (g3.push .dead) h5 G3 lb
 ha3:G3.A[kc]?=some a
 q5:LAt 4 ExC (g3.push .dead) bv d.body
 q6:SlAt (g3.push .dead) tv (ptrs G3.A d.there)
 q7:SlAt (g3.push .dead) pv' (ptrs G3.A d.f.parts)
 q8:SlF tv d.there.length
 q0:SlAt (g3.push .dead) pv3 (ptrs G3.A x.1.parts)
 clc:h5.get a = .own 0 (zI bv tv pv' d)
 alt:a≠mb/\a≠lb
theorem zeb(β:Type){x:Fd × Mc}{c d:Cl}{kc a lb:Nat}{bv tv pv pv3:AV}{g3 h3:H}{G3:Gst}(s03:Stq mb g h G g3 h3 G3)(pm3:PM p mb dv g3 h3 G3 x.2)(hdc:x.2.cells[kc]?=some d)(ha:G.A[kc]?=some a)(r4:h.get a = .own 0 (zI bv tv pv c))(hsc:zbh c d)
  (l3:Loc mb g3 h3 G3 lb) (g3e:h3.get lb = .own 0 [.int .i64 0,.int .i64 0,.nils]) (q0:SlAt g3 pv3 (ptrs G3.A x.1.parts)) (hlb:a≠lb) :
  ∃cv pv' h5,FF β mb a lb dv bv tv pv3 x c d p kc g h G g3 h3 G3 cv pv' h5:=by
 have ha3:G3.A[kc]?=some a:=by
  obtain⟨rr,hrr⟩:=s03.A;rw[<- hrr,List.getElem?_append_left (List.getElem?_eq_some_iff.1 ha).1];exact ha
 obtain⟨q1,q2,q3,bv',tv',pv',q4,q5,q6,q7,q8⟩:=pm3.cell kc d a hdc ha3;have hal:=s03.lt a (List.mem_of_getElem? ha);obtain⟨ds,z1,z2⟩:=s03.imm a (List.mem_of_getElem? ha) _ r4;rw[q4] at z1;have z1:ds=zI bv' tv' pv' d:=by injection z1 with _ e;exact e.symm
 rw[z1] at z2;obtain⟨rfl,rfl⟩:=zjh z2;obtain⟨c1,c2,c3,c4⟩:=hsc;have hsn:=s03.hn;obtain⟨pm4,s4⟩:=pm3.pushH (.own 0 [.int .i64 0,.int .i64 0,.nils]);have l4:=pm3.loc (.own 0 [.int .i64 0,.int .i64 0,.nils]);obtain⟨l34,g4e⟩:=l3.step pm3.gn s4;rw[g3e] at g4e;have s04:=s03.trans s4;have ah3:a<h3.n:=by omega
 have hl3:lb<h3.n:=l3.lt;have heq:Blk.own 0 (zI bv' tv' pv' d) = .own 0 [bv',.int .i64 c.at_,tv',.int .i64 c.node,.bool d.done,.int .i64 d.f.kind,.int .i64 d.f.num,pv',.bool d.shown,.int .i64 d.size]:=by unfold zI;rw[c2,c4]
 obtain⟨cv,hmb,_⟩:=pm4.m;have hmn:mb<h3.n:=by rw[<- pm3.gn];exact pm3.mlt
 refine⟨cv,pv',_,rfl,?_,?_,?_,?_,?_,?_,?_,?_,?_,?_,λkk=>SlAt.chk (β:=β) q6 kk,λkk=>LAt.chk (β:=β) q5 kk,q0.sc,q7.sc,pm4.setL l4 _,s04.setL (i:=h3.n) (by omega) _,l34.set _,ha3,q5.ext ExC.stays s4.eg,q6.ext s4.eg,q7.ext s4.eg,q8,q0.ext s4.eg,?_,q3,hlb⟩
 ·rw[zc (by omega),q4,heq];rfl
 ·rw[q4,heq];rfl
 ·rw[g3e];rfl
 ·rw[q4,heq];rfl
 ·rw[zc (by omega)] at hmb;rw[hmb];rfl
 ·rw[zg (by omega),hmb];rfl
 ·rw[zg (by omega),zc (by omega),q4,heq]
 ·rw[zg (by omega),zc (by omega),q4,heq];rfl
 ·rw[zB rfl];rfl
 ·rw[zg (by omega),g4e];rfl
 ·rw[zg (by omega),zc (by omega),q4]
theorem GN11.w190(TN:GN11 t){N m:Nat}(IH:zhD β t p mb dv N m)(hm:zev (zm p N))(pm:PM p mb dv g h G M)(hw:WFM p M)(hc:cnt M<=1000)(hlf:M.left<N){kc:Nat}(hk:∃c,M.cells[kc]?=some c/\(c.done=false->zp p c.body c.there c.at_)) :
  Sp (β:=β) (ze t stdI (m+1) (.fn 190 []) [.ptr mb 0,.ptr (G.A.getD kc 0) 0] h) λu h'=>∃g' G',Stq mb g h G g' h' G'/\PM p mb dv g' h' G' (zH (zm p N) M kc).2/\∃pv,u = .agg [.int .i64 (zH (zm p N) M kc).1.kind,.int .i64 (zH (zm p N) M kc).1.num,pv]/\SlAt g' pv (ptrs G'.A (zH (zm p N) M kc).1.parts):=by
 intro k R hkk;obtain⟨c,hcc,hf⟩:=hk;have hkl:=(List.getElem?_eq_some_iff.1 hcc).1;obtain⟨a,ha,had⟩:=pm.ltA hkl;rw[had];obtain⟨r1,r2,r3,bv,tv,pv,r4,r5,r6,r7,r8⟩:=pm.cell kc c a hcc ha;have hah:a<h.n:=pm.lts a (List.mem_of_getElem? ha);obtain⟨pm1,s1⟩:=pm.pushH (.own 0 [.int .i64 0,.int .i64 0,.nils]);have l1:=pm.loc (.own 0 [.int .i64 0,.int .i64 0,.nils]);have n1:(h.push (.own 0 [.int .i64 0,.int .i64 0,.nils])).n=h.n+1:=H.n_push _ _;have ga:((h.push (.own 0 [.int .i64 0,.int .i64 0,.nils])).get a).cells=some [bv,.int .i64 c.at_,tv,.int .i64 c.node,.bool c.done,.int .i64 c.f.kind,.int .i64 c.f.num,pv,.bool c.shown,.int .i64 c.size]:=by
  rw[zc (by omega),r4];rfl
 have gah:(h.get a).cells=some [bv,.int .i64 c.at_,tv,.int .i64 c.node,.bool c.done,.int .i64 c.f.kind,.int .i64 c.f.num,pv,.bool c.shown,.int .i64 c.size]:=by rw[r4];rfl
 have pvsc:=r7.sc;cases hd:c.done with
 | true=>
  rw[hd] at ga gah;have hfo:zH (zm p N) M kc=(c.f,M):=by unfold zH;rw[hcc];exact if_pos hd
  rw[TN.c190];unfold f190;simp (disch:=first|omega|simp only[zD]<;>omega|assumption) only[↓zR,↓zRM,zR,zRM,reduceAdd,reduceMul,reduceToNat,zN,gah,ga,↓f190_J1];refine hkk _ _ ⟨_,G,s1.setL (i:=h.n) (Nat.le_refl _) (.own 0 [.int .i64 c.f.kind,.int .i64 c.f.num,pv]),by rw[hfo];exact pm1.setL l1 _,pv,?_,?_⟩
  ·rw[hfo]
  ·rw[hfo];exact r7.ext s1.eg
 | false=>
  rw[hd] at ga gah;have bsc:=r5.sc;have tsc:=r6.sc;have hbu:∀kk:VK β,zy [.nils,.nils,.int .i64 0] [(0,1),(1,1),(2,1)] [bv,tv,.int .i64 c.node] (.mk kk)=kk (.agg [bv,tv,.int .i64 c.node]):=λkk=>by
   rcases r5 with⟨rfl,_⟩|⟨_,_,_,_,_,rfl,_⟩<;>rcases r6 with⟨rfl,_⟩|⟨_,_,_,_,_,rfl,_⟩<;>rfl
  have hbx:∀(hh:H) (kk:K β),qBox 0 (.agg [bv,tv,.int .i64 c.node]) hh (.mk kk)=kk (.ptr hh.n 0) (hh.push (.own 0 [bv,tv,.int .i64 c.node])):=λhh kk=>zr 0 _ hh kk
  obtain⟨pm2,s2⟩:=pm1.pushV (.own 0 [bv,tv,.int .i64 c.node]);have s02:=s1.trans s2;obtain⟨h1,eh1⟩:∃h1,h1=h.push (.own 0 [.int .i64 0,.int .i64 0,.nils]):=⟨_,rfl⟩
  rw[<- eh1] at pm1 s1 l1 n1 ga pm2 s2 s02;obtain⟨h2,eh2⟩:∃h2,h2=h1.push (.own 0 [bv,tv,.int .i64 c.node]):=⟨_,rfl⟩
  rw[<- eh2] at pm2 s2 s02;have n2:h2.n=h1.n+1:=by rw[eh2];exact H.n_push _ _
  have ga2:(h2.get a).cells=some [bv,.int .i64 c.at_,tv,.int .i64 c.node,.bool false,.int .i64 c.f.kind,.int .i64 c.f.num,pv,.bool c.shown,.int .i64 c.size]:=by rw[eh2,zc (by omega)];exact ga
  have hcm:=List.mem_of_getElem? hcc;have fr:FrAt ((g.push .dead).push (.own 0 [bv,tv,.int .i64 c.node])) G.A h1.n c.body c.there c.node :=
   ⟨by rw[H.n_push];have:=pm1.gn;omega,bv,tv,zf pm1.gn,r5.ext ExC.stays s02.eg,r6.ext s02.eg,r8⟩
  have W:=IH _ h2 G M h1.n c.body c.there c.node c.at_ pm2 hw hc hlf fr (hw.cell c hcm).1 (hf hd);obtain⟨x,hx⟩:∃x,x=zm p N M c.body c.there c.node c.at_:=⟨_,rfl⟩
  have hmo:=hm M c.body c.there c.node c.at_;rw[<- hx,n1] at W;rw[<- hx] at hmo;obtain⟨d,hdc,hsc⟩:=hmo.cell kc c hcc;have hfo:zH (zm p N) M kc=if x.2.out=true then (d.f,x.2) else (x.1,x.2.put kc x.1):=by
   unfold zH;rw[hcc];show (if c.done=true then _ else _:Fd × Mc)=_;rw[if_neg (by rw[hd];simp)];show (if (zm p N M c.body c.there c.node c.at_).2.out=true then _ else _:Fd × Mc)=_;rw[<- hx,hdc];rfl
  have LL:∀g3 h3 G3,Stq mb _ h2 G g3 h3 G3->Loc mb g3 h3 G3 h.n/\h3.get h.n = .own 0 [.int .i64 0,.int .i64 0,.nils]:=λg3 h3 G3 s3=>by
   obtain⟨l2,g2e⟩:=l1.step pm1.gn s2;obtain⟨l3,g3e⟩:=l2.step pm2.gn s3;rw[g2e,eh1,zf rfl] at g3e;exact⟨l3,g3e⟩
  rw[TN.c190];unfold f190;simp (disch:=first|omega|simp only[zD]<;>omega|assumption) only[↓zR,↓zRM,zR,zRM,reduceAdd,reduceMul,reduceToNat,zN,<- eh1,gah,ga,hbu,↓hbx,<- eh2,ga2,zcD];refine W _ _ ?_;intro u h3 ⟨g3,G3,s3,pm3,pv3,eu,q0⟩;subst eu;refine Exists.elim (zeb β (s02.trans s3) pm3 hdc ha r4 hsc (LL g3 h3 G3 s3).1 (LL g3 h3 G3 s3).2 q0 (by omega)) λcv hq=>Exists.elim hq λpv' hq=>Exists.elim hq λh5 F=>?_
  have hpt:zar [AV.int .i64 0,.int .i64 0,.nils] 0 [.int .i64 x.1.kind,.int .i64 x.1.num,pv3]=[.int .i64 x.1.kind,.int .i64 x.1.num,pv3]:=rfl;have ga4:=F.ga4;have ga3:=F.ga3;have eh5:=F.eh5;have gm5:=F.gm5;have ga5c:=F.ga5c;have gl5o:=F.gl5;have gb5:=F.gb5;have ck1:=F.ck1;have ck2:=F.ck2;have sc3:=F.sc3;have pvsc':=F.sc'
  by_cases ho:x.2.out=true
  ·rw[ho] at gm5;rw[if_pos ho] at hfo;simp (disch:=first|omega|simp only[zD]<;>omega|assumption) only[↓zR,↓zRM,zR,zRM,reduceAdd,reduceMul,reduceToNat,zN,ga4,ga3,zcD,ck1,ck2,hpt,eh5,gm5,↓f190_J1,ga5c,gl5o];refine hkk _ _ ⟨_,G3,F.s05.setL (i:=h.n) (Nat.le_refl _) (.own 0 [.int .i64 d.f.kind,.int .i64 d.f.num,pv']),by rw[hfo];exact F.pm5.setL F.l5 _,pv',by rw[hfo],by rw[hfo];exact F.q7⟩
  ·have ho':x.2.out=false:=by simpa using ho
   rw[ho'] at gm5;rw[if_neg ho] at hfo;have ga5o:zaG (h5.get a)=some (0,[bv,.int .i64 c.at_,tv,.int .i64 c.node,.bool d.done,.int .i64 d.f.kind,.int .i64 d.f.num,pv',.bool d.shown,.int .i64 d.size]):=by rw[F.ga5];rfl
   have hp5:zar [bv,.int .i64 c.at_,tv,.int .i64 c.node,.bool d.done,.int .i64 d.f.kind,.int .i64 d.f.num,pv',.bool d.shown,.int .i64 d.size] 5 [.int .i64 x.1.kind,.int .i64 x.1.num,pv3]=[bv,.int .i64 c.at_,tv,.int .i64 c.node,.bool d.done,.int .i64 x.1.kind,.int .i64 x.1.num,pv3,.bool d.shown,.int .i64 d.size]:=rfl;have hp4:zar [bv,.int .i64 c.at_,tv,.int .i64 c.node,.bool d.done,.int .i64 x.1.kind,.int .i64 x.1.num,pv3,.bool d.shown,.int .i64 d.size] 4 [.bool true]=[bv,.int .i64 c.at_,tv,.int .i64 c.node,.bool true,.int .i64 x.1.kind,.int .i64 x.1.num,pv3,.bool d.shown,.int .i64 d.size]:=rfl;simp (disch:=first|omega|simp only[zD]<;>omega|assumption) only[↓zR,↓zRM,zR,zRM,reduceAdd,reduceMul,reduceToNat,zN,ga4,ga3,zcD,ck1,ck2,hpt,eh5,gm5,gb5,ga5o,hp5,hp4,↓f190_J1,gl5o];obtain⟨p6,s6⟩:=F.pm5.put2 hdc F.ha3 F.clc F.q5 F.q6 F.q8 F.q0;have e1:zI bv tv pv3 { d with f:=x.1 }=[bv,.int .i64 c.at_,tv,.int .i64 c.node,.bool d.done,.int .i64 x.1.kind,.int .i64 x.1.num,pv3,.bool d.shown,.int .i64 d.size]:=by unfold zI;rw[<- hsc.2.1,<- hsc.2.2.2]
   have e2:zI bv tv pv3 { d with done:=true,f:=x.1 }=[bv,.int .i64 c.at_,tv,.int .i64 c.node,.bool true,.int .i64 x.1.kind,.int .i64 x.1.num,pv3,.bool d.shown,.int .i64 d.size]:=by unfold zI;rw[<- hsc.2.1,<- hsc.2.2.2]
   rw[e1,e2] at p6 s6;refine hkk _ _ ⟨_,G3,(F.s05.trans s6).setL (i:=h.n) (Nat.le_refl _) (.own 0 [.int .i64 x.1.kind,.int .i64 x.1.num,pv3]),by rw[hfo];exact p6.setL ((F.l5.set _).set _) _,pv3,by rw[hfo],by rw[hfo];exact F.q0⟩
end
end Am.F
end
section
namespace Am.F
open Go Am
section
variable {β:Type} {t:ETree} {p:List Df} {mb:Nat} {dv:AV} {g h:H} {G:Gst} {M:Mc}
theorem PM.mnb(pm:PM p mb dv g h G M):mb ∉ G.CB:=λhb=>by
 obtain⟨_,_,hq|⟨b,q1,_,_,_,_,q6,_,_⟩⟩:=pm.m
 ·rw[hq.2.2] at hb;simp at hb
 ·rw[q1,List.mem_singleton] at hb;exact q6 hb.symm
theorem PM.addCall(pm:PM p mb dv g h G M)(hw:WFM p M){cb:Nat}(hcb:cb<g.n){c:Ca}{av:AV}(hgc:g.get cb = .own 0 [.int .i64 c.fn,.int .i64 c.parent,av,.ptr (G.A.getD c.res 0) 0])(hav:SlAt g av (ptrs G.A c.args))(hsf:SlF av c.args.length){h':H}
  (h1:h'.n=h.n+1) (h2:h'.get h.n = .own 0 ((G.CA++[cb]).map λx=>.ptr x 0)) (hk:∀i,i<h.n->i ∉ G.CB->h'.get i=h.get i) :
  PM p mb dv (g.push .dead) (h'.set mb (.own 0 [dv,.int .i64 (M.left:Int),.sl h.n 0 (G.CA.length+1) (G.CA.length+1) (some 1),.bool M.out])) { G with CA:=G.CA++[cb],CB:=[h.n] } { M with calls:=M.calls++[c] } /\
   Stq mb g h G (g.push .dead) (h'.set mb (.own 0 [dv,.int .i64 (M.left:Int),.sl h.n 0 (G.CA.length+1) (G.CA.length+1) (some 1),.bool M.out])) { G with CA:=G.CA++[cb],CB:=[h.n] }:=by
 have hgn:=pm.gn;have hmb:=pm.mlt;have eg:Ext g (g.push .dead):=(Ext.refl g).push _;have hA:=pm.notA;have hB:=pm.notB;obtain⟨cv0,hm0,hmx⟩:=pm.m;have hnb:∀a ∈ G.A,a ∉ G.CB:=λa ha hb=>by
  rcases hmx with hq|⟨b,q1,_,_,_,_,_,q7,_⟩
  ·rw[hq.2.2] at hb;simp at hb
  ·rw[q1,List.mem_singleton] at hb;subst hb;exact q7 ha
 have hmnb:mb ∉ G.CB:=λhb=>by
  rcases hmx with hq|⟨b,q1,_,_,_,_,q6,_,_⟩
  ·rw[hq.2.2] at hb;simp at hb
  ·rw[q1,List.mem_singleton] at hb;exact q6 hb.symm
 have hget:∀a ∈ G.A,(h'.set mb (.own 0 [dv,.int .i64 (M.left:Int),.sl h.n 0 (G.CA.length+1) (G.CA.length+1) (some 1),.bool M.out])).get a=h.get a:=λa ha=>by
  rw[zg (λe=>pm.nmb a ha e.symm)];exact hk a (pm.lts a ha) (hnb a ha)
 refine⟨⟨⟨by rw[H.n_push,H.n_set];omega,λi p1 p2=>?_⟩,by rw[H.n_push,H.n_set];omega,by rw[H.n_push];omega,by rw[zc (by omega)];exact pm.mhid,pm.defs.ext DfC.stays eg,?_,pm.alen,by show (G.CA++[cb]).length=(M.calls++[c]).length;rw[List.length_append,List.length_append,pm.clen];rfl,pm.inj,λk d a q1 q2=>?_,λj d b q1 q2=>?_⟩,
  ⟨eg,by rw[H.n_set];omega,List.prefix_refl _,List.prefix_append _ _,λa ha=>.inl ha,λb hb=>.inr (by rw[List.mem_singleton.1 hb];omega),λi q1 q2 q3 q4=>by rw[zg (λe=>q2 e.symm)];exact hk i q1 q4,pm.lts,λa ha cs hc=>⟨cs,by rw[hget a ha];exact hc,rfl⟩⟩⟩
 ·rw[H.n_push] at p1
  by_cases hi:i<g.n
  ·rw[zc (by omega)] at p2 ⊢;have h3:i≠mb:=λe=>by rw[e] at p2;exact p2 pm.mhid
   have h4:i ∉ G.CB:=λhb=>by
    rcases hmx with hq|⟨b,q1,_,_,_,q5,_⟩
    ·rw[hq.2.2] at hb;simp at hb
    ·rw[q1,List.mem_singleton] at hb;rw[hb] at p2;exact p2 q5
   rw[zg (λe=>h3 e.symm),hk i (by omega) h4];exact pm.un.get i hi p2
  ·have:i=g.n:=by omega
   subst this;rw[zf rfl] at p2;exact absurd rfl p2
 ·refine⟨_,zB rfl,.inr ⟨h.n,rfl,?_,by show 0<(G.CA++[cb]).length;simp,by rw[H.n_push];omega,by rw[zf hgn];rfl,by omega,hA,by rw[zg (by omega)];exact h2⟩⟩;show AV.sl _ _ _ _ _=AV.sl _ 0 (G.CA++[cb]).length (G.CA++[cb]).length _;rw[List.length_append];rfl
 ·obtain⟨r1,r2,r3,bv,tv,pv,r4,r5,r6,r7,r8⟩:=pm.cell k d a q1 q2;exact⟨by rw[H.n_push];omega,by rw[zc (by omega)];exact r2,r3,bv,tv,pv,by rw[hget a (List.mem_of_getElem? q2)];exact r4,r5.ext ExC.stays eg,r6.ext eg,r7.ext eg,r8⟩
 ·have q1:(M.calls++[c])[j]?=some d:=q1;have q2:(G.CA++[cb])[j]?=some b:=q2;rw[List.getElem?_append] at q1 q2;rw[pm.clen] at q2;split at q1
  ·rename_i hlt;rw[if_pos hlt] at q2;obtain⟨r1,av',r2,r3,r4⟩:=pm.call j d b q1 q2;exact⟨by rw[H.n_push];omega,av',by rw[zc (by omega)];exact r2,r3.ext eg,r4⟩
  ·rename_i hlt;rw[if_neg hlt] at q2;have e1:=List.mem_of_getElem? q1;have e2:=List.mem_of_getElem? q2;rw[List.mem_singleton] at e1 e2;subst e1 e2;exact⟨by rw[H.n_push];omega,av,by rw[zc (by omega)];exact hgc,hav.ext eg,hsf⟩
theorem GN11.w158(TN:GN11 t){N m:Nat}(IH:zhD β t p mb dv N m)(hm:zev (zm p N))(pm:PM p mb dv g h G M)(hw:WFM p M)(hc:cnt M<=999)(hlf:M.left<N){fn parent:Int}{args:List Nat}{av:AV}(hav:SlAt g av (ptrs G.A args))(hsf:SlF av args.length)(ha:Gds p M args)
  (hfr:zp p (zn p fn.toNat) args (((zn p fn.toNat).length:Int)-1)) (hfn:0<=fn/\fn<(p.length:Int)) (hlen:∀d ∈ p,d.body.length<=1000) :
  Sp (β:=β) (ze t stdI (m+1) (.fn 158 []) [.ptr mb 0,.int .i64 fn,.int .i64 parent,av] h) λu h'=>∃g' G',Stq mb g h G g' h' G'/\PM p mb dv g' h' G' (callM p (zm p N) M fn parent args).2/\∃pv,u = .agg [.int .i64 (callM p (zm p N) M fn parent args).1.kind,.int .i64 (callM p (zm p N) M fn parent args).1.num,pv]/\SlAt g' pv (ptrs G'.A (callM p (zm p N) M fn parent args).1.parts):=by
 intro k R hkk;have hroom:room=68719476736:=rfl;have hgn:=pm.gn;have hmb:=pm.mlt;obtain⟨df,hdf⟩:∃df,p[fn.toNat]?=some df:=⟨_,List.getElem?_eq_getElem (by omega)⟩
 have hbo:zn p fn.toNat=df.body:=by unfold zn;rw[hdf];rfl
 have avsc:=hav.sc;have hbl:=hlen df (List.mem_of_getElem? hdf);obtain⟨pm1,s1⟩:=pm.pushH (.own 0 [.int .i64 0,.int .i64 0,.nils]);have l1:=pm.loc (.own 0 [.int .i64 0,.int .i64 0,.nils]);obtain⟨h1,e1⟩:∃h1,h.push (.own 0 [.int .i64 0,.int .i64 0,.nils])=h1:=⟨_,rfl⟩
 have n1:h1.n=h.n+1:=by rw[<- e1];exact H.n_push _ _
 have gl1:h1.get h.n = .own 0 [.int .i64 0,.int .i64 0,.nils]:=by rw[<- e1];exact zf rfl
 rw[e1] at pm1 s1 l1;obtain⟨pm2,s2⟩:=pm1.add hw (c:=cl0 [] 0 [] 0) (bv:=.nils) (tv:=.nils) (pv:=.nils) (.inl ⟨rfl,rfl⟩) (.inl ⟨rfl,rfl⟩) (.inl ⟨rfl,rfl⟩) (.inl ⟨rfl,rfl⟩) (λk hk=>by simp[cl0] at hk) (λk hk=>by simp[cl0,fd0] at hk);have hw2:WFM p (M.add (cl0 [] 0 [] 0)):=hw.add (Gds.nil p _) rfl;obtain⟨h2,e2⟩:∃h2,h1.push (.own 0 (zI .nils .nils .nils (cl0 [] 0 [] 0)))=h2:=⟨_,rfl⟩
 have n2:h2.n=h1.n+1:=by rw[<- e2];exact H.n_push _ _
 have gc2:h2.get h1.n = .own 0 (zI .nils .nils .nils (cl0 [] 0 [] 0)):=by rw[<- e2];exact zf rfl
 rw[e2] at pm2 s2;obtain⟨pm3,s3⟩:=pm2.pushV (.own 0 [.int .i64 fn,.int .i64 parent,av,.ptr h1.n 0]);obtain⟨h3,e3⟩:∃h3,h2.push (.own 0 [.int .i64 fn,.int .i64 parent,av,.ptr h1.n 0])=h3:=⟨_,rfl⟩
 have n3:h3.n=h2.n+1:=by rw[<- e3];exact H.n_push _ _
 rw[e3] at pm3 s3;obtain⟨pm4,s4⟩:=pm3.pushV (.own 0 [.ptr h2.n 0]);obtain⟨h4,e4⟩:∃h4,h3.push (.own 0 [.ptr h2.n 0])=h4:=⟨_,rfl⟩
 have n4:h4.n=h3.n+1:=by rw[<- e4];exact H.n_push _ _
 rw[e4] at pm4 s4;have s04:=((s1.trans s2).trans s3).trans s4;have s24:=s3.trans s4;obtain⟨cv,hmb4,hmx⟩:=pm4.m;have hmb3:(h3.get mb).cells=some [dv,.int .i64 (M.left:Int),cv,.bool M.out]:=by
  rw[<- e4,zc (by omega)] at hmb4;rw[hmb4];rfl
 have hmb0:(h.get mb).cells=some [dv,.int .i64 (M.left:Int),cv,.bool M.out]:=by
  rw[<- e3,zc (by omega),<- e2,zc (by omega),<- e1,zc (by omega)] at hmb3;exact hmb3
 have cvlen:∀kc:VK β,qLenL cv (.mk kc)=kc (.int .i64 (M.calls.length:Int)):=λkc=>by
  rcases hmx with⟨rfl,q2,_⟩|⟨b,_,rfl,_⟩
  ·have:M.calls.length=0:=by rw[<- pm.clen,q2];rfl
   rw[this];rfl
  ·rw[<- pm.clen];exact zdh _ _ _ _ _ kc
 have hown:∃lo hi,hi<=h4.n/\zbA h4 lo hi 1 cv (G.CA.map λx=>.ptr x 0)/\∀q,q ∉ G.CB->q<lo\/hi<=q:=by
  rcases hmx with⟨rfl,q2,_⟩|⟨b,q1,rfl,q3,q4,_,_,_,q8⟩
  ·exact⟨0,0,by omega,.inl ⟨rfl,by rw[show G.CA=[] from q2];rfl⟩,λq _=>by omega⟩
  ·refine⟨b,b+1,by have:=pm4.gn;omega,.inr ⟨b,G.CA.length,rfl,Nat.le_refl _,by omega,q8,by rw[List.length_map];omega,q3⟩,λq hq=>?_⟩;have:q≠b:=λe=>hq (by rw[show G.CB=[b] from q1,e];exact List.mem_singleton.2 rfl)
   omega
 obtain⟨lo,hi,o1,o2,o3⟩:=hown;have hsrc:∀c:Nat->List AV->Option β,fSrc 1 (.sl h3.n 0 1 1 none) h4 c=c 1 [.ptr h2.n 0]:=zfu (by rw[<- e4,zf rfl];rfl) _ _;have hclen:M.calls.length<=999:=by unfold cnt at hc;omega
 have hdefs:=pm.defs.at (β:=β) hdf;obtain⟨db,do',dcs,d1,d2,w,rfl,d3⟩:=hdefs;rw[show ((fn.toNat:Nat):Int)=fn by omega] at d1;obtain⟨us,u1,u2,u3,u4⟩:=d2.get;have u5:=u4 1 _ rfl;have hdbl:=d2.1;have hdbv:(h.get db).cells=some us:=by rw[pm.un.get db hdbl (by rw[u1];simp)];exact u1
 have hdbh:∀{g' h':H},Ext g g'->Un g' h'->(h'.get db).cells=some us:=λe u=>by
  rw[u.get db (by have:=e.n;omega) (by rw[e.get _ hdbl,u1];simp),e.get _ hdbl];exact u1
 have wsc:=d3.sc;have lw:∀kc:VK β,qLenL w (.mk kc)=kc (.int .i64 (df.body.length:Int)):=λkc=>d3.len kc
 have hcb:h2.n<(((((g.push .dead).push .dead).push (.own 0 [.int .i64 fn,.int .i64 parent,av,.ptr h1.n 0])).push (.own 0 [.ptr h2.n 0])).n):=by rw[pm4.gn];omega
 have hgA:(G.A++[h1.n]).getD M.cells.length 0=h1.n:=by rw[List.getD_eq_getElem?_getD,<- pm.alen];simp
 have hgc:(((((g.push .dead).push .dead).push (.own 0 [.int .i64 fn,.int .i64 parent,av,.ptr h1.n 0])).push (.own 0 [.ptr h2.n 0]))).get h2.n = .own 0 [.int .i64 fn,.int .i64 parent,av,.ptr ((G.A++[h1.n]).getD M.cells.length 0) 0]:=by
  have hg2:=pm2.gn;have hg3:=pm3.gn;rw[zc (by omega),zf hg2,hgA]
 have hptA:ptrs (G.A++[h1.n]) args=ptrs G.A args:=zdE (List.prefix_append _ _) λk hk=>by rw[pm.alen];exact ha.lt k hk
 have hbx1:∀(hh:H) (kk:K β),qBox 0 (.agg (zI .nils .nils .nils (cl0 [] 0 [] 0))) hh (.mk kk)=kk (.ptr hh.n 0) (hh.push (.own 0 (zI .nils .nils .nils (cl0 [] 0 [] 0)))):=λhh kk=>zr 0 _ hh kk
 have hbu1:∀kk:VK β,zy [.nils,.int .i64 0,.nils,.int .i64 0,.bool false,.int .i64 0,.int .i64 0,.nils,.bool false,.int .i64 0] [] [] (.mk kk)=kk (.agg (zI .nils .nils .nils (cl0 [] 0 [] 0))):=λkk=>rfl
 have hbu2:∀(x:Nat) (kk:VK β),zy [.int .i64 0,.int .i64 0,.nils,.nilp] [(0,1),(1,1),(2,1),(3,1)] [.int .i64 fn,.int .i64 parent,av,.ptr x 0] (.mk kk)=kk (.agg [.int .i64 fn,.int .i64 parent,av,.ptr x 0]):=λx kk=>by
  rcases hav with⟨rfl,_⟩|⟨_,_,_,_,_,rfl,_⟩<;>rfl
 have hbx2:∀(x:Nat) (hh:H) (kk:K β),qBox 0 (.agg [.int .i64 fn,.int .i64 parent,av,.ptr x 0]) hh (.mk kk)=kk (.ptr hh.n 0) (hh.push (.own 0 [.int .i64 fn,.int .i64 parent,av,.ptr x 0])):=λx hh kk=>zr 0 _ hh kk
 have hbu3:∀(x:Int) (kk:VK β),zy [.nils,.nils,.int .i64 0] [(0,1),(1,1),(2,1)] [w,av,.int .i64 x] (.mk kk)=kk (.agg [w,av,.int .i64 x]):=λx kk=>by
  rcases hav with⟨rfl,_⟩|⟨_,_,_,_,_,rfl,_⟩<;>rcases d3 with⟨rfl,_⟩|⟨_,_,_,_,_,rfl,_⟩<;>rfl
 have hbx3:∀(x:Int) (hh:H) (kk:K β),qBox 0 (.agg [w,av,.int .i64 x]) hh (.mk kk)=kk (.ptr hh.n 0) (hh.push (.own 0 [w,av,.int .i64 x])):=λx hh kk=>zr 0 _ hh kk
 have hbs:∀(x:Nat) (hh:H) (kk:K β),zP 0 [.nilp] 1 [(0,1)] [.ptr x 0] hh (.mk kk)=kk (.sl hh.n 0 1 1 none) (hh.push (.own 0 [.ptr x 0])):=λx hh kk=>zb6 rfl hh kk
 have x2:h1.push (.own 0 [.nils,.int .i64 0,.nils,.int .i64 0,.bool false,.int .i64 0,.int .i64 0,.nils,.bool false,.int .i64 0])=h2:=e2;have x3:h2.push (.own 0 [.int .i64 fn,.int .i64 parent,av,.ptr (h.n+1) 0])=h3:=by rw[<- n1];exact e3
 have x4:h3.push (.own 0 [.ptr (h.n+1+1) 0])=h4:=by rw[<- n1,<- n2];exact e4
 have m4:h4.n=h.n+1+1+1+1:=by omega
 have nn3:h3.n=h.n+1+1+1:=by omega
 have nn2:h2.n=h.n+1+1:=by omega
 rw[nn3] at hsrc;rw[nn2] at hsrc;have hset:[dv,.int .i64 (M.left:Int),cv,.bool M.out].set 2 (.sl h4.n 0 (G.CA.length+1) (G.CA.length+1) (some 1))=[dv,.int .i64 (M.left:Int),.sl h4.n 0 (G.CA.length+1) (G.CA.length+1) (some 1),.bool M.out]:=rfl;have post:∀(l:Nat) (h5:H),h5.get h4.n = .own 0 ((G.CA.map λx=>AV.ptr x 0)++[AV.ptr (h.n+1+1) 0])->h5.n=h4.n+1->((G.CA.map λx=>AV.ptr x 0)++[AV.ptr (h.n+1+1) 0]).length=l*1->(∀i,i<h4.n->(i<lo\/hi<=i)->h5.get i=h4.get i) ->
   l=G.CA.length+1/\zaG (h5.get mb)=some (0,[dv,.int .i64 (M.left:Int),cv,.bool M.out])/\(∀b,((h5.set mb b).get db).cells=some us)/\(h5.set mb (.own 0 [dv,.int .i64 (M.left:Int),.sl h4.n 0 (G.CA.length+1) (G.CA.length+1) (some 1),.bool M.out])).n=h.n+1+1+1+1+1 /\
   ∃(x:Fd × Mc) (Q:AV->H->Prop),Sp (β:=β) (ze t stdI m (.fn 189 []) [.ptr mb 0,.ptr (h.n+1+1+1+1+1) 0,.int .i64 ((df.body.length:Int)-1)] ((h5.set mb (.own 0 [dv,.int .i64 (M.left:Int),.sl h4.n 0 (G.CA.length+1) (G.CA.length+1) (some 1),.bool M.out])).push (.own 0 [w,av,.int .i64 (M.calls.length:Int)]))) Q /\
    ∀u h8,Q u h8->∃g8 G8 cv8 pv8 pv' d h9,u = .agg [.int .i64 x.1.kind,.int .i64 x.1.num,pv8]/\h4.n<h8.n/\FF β mb h1.n h.n dv .nils .nils pv8 x (cl0 [] 0 [] 0) d p M.cells.length (g.push .dead |>.push .dead) h2 { G with A:=G.A++[h1.n] } g8 h8 G8 cv8 pv' h9 /\
     ((h9.get (h.n+1+1)).cells=some [.int .i64 fn,.int .i64 parent,av,.ptr (h.n+1) 0]/\(h8.get (h.n+1+1)).cells=some [.int .i64 fn,.int .i64 parent,av,.ptr (h.n+1) 0]) /\
     (x.2.out=true->∃g' G',Stq mb g h G g' (h9.set h.n (.own 0 [.int .i64 x.1.kind,.int .i64 x.1.num,pv8])) G'/\PM p mb dv g' (h9.set h.n (.own 0 [.int .i64 x.1.kind,.int .i64 x.1.num,pv8])) G' (callM p (zm p N) M fn parent args).2/\∃pv,AV.agg [.int .i64 x.1.kind,.int .i64 x.1.num,pv8] = .agg [.int .i64 (callM p (zm p N) M fn parent args).1.kind,.int .i64 (callM p (zm p N) M fn parent args).1.num,pv]/\SlAt g' pv (ptrs G'.A (callM p (zm p N) M fn parent args).1.parts)) /\
     (x.2.out=false->∀h10,h10=((h9.set h1.n (.own 0 [.nils,.int .i64 (cl0 [] 0 [] 0).at_,.nils,.int .i64 (cl0 [] 0 [] 0).node,.bool d.done,.int .i64 x.1.kind,.int .i64 x.1.num,pv8,.bool d.shown,.int .i64 d.size])).set h1.n (.own 0 [.nils,.int .i64 (cl0 [] 0 [] 0).at_,.nils,.int .i64 (cl0 [] 0 [] 0).node,.bool true,.int .i64 x.1.kind,.int .i64 x.1.num,pv8,.bool d.shown,.int .i64 d.size])).set h.n (.own 0 [.int .i64 x.1.kind,.int .i64 x.1.num,pv8]) ->
      ∃g' G',Stq mb g h G g' h10 G'/\PM p mb dv g' h10 G' (callM p (zm p N) M fn parent args).2/\∃pv,AV.agg [.int .i64 x.1.kind,.int .i64 x.1.num,pv8] = .agg [.int .i64 (callM p (zm p N) M fn parent args).1.kind,.int .i64 (callM p (zm p N) M fn parent args).1.num,pv]/\SlAt g' pv (ptrs G'.A (callM p (zm p N) M fn parent args).1.parts)):=by
  intro l h5 i1 i2 i3 i4;have hl:l=G.CA.length+1:=by rw[List.length_append,List.length_map] at i3;simp at i3;omega
  obtain⟨pm6x,s6x⟩:=PM.addCall (c:=⟨fn,parent,args,M.cells.length⟩) pm4 hw2 hcb hgc (by show SlAt _ av (ptrs (G.A++[h1.n]) args);rw[hptA];exact hav.ext s04.eg) hsf (h':=h5) i2 (by rw[i1,nn2];simp) (λq hq hb=>i4 q hq (o3 q hb));have pm6:PM p mb dv ((((((g.push .dead).push .dead).push (.own 0 [.int .i64 fn,.int .i64 parent,av,.ptr h1.n 0])).push (.own 0 [.ptr h2.n 0])).push .dead)) (h5.set mb (.own 0 [dv,.int .i64 (M.left:Int),.sl h4.n 0 (G.CA.length+1) (G.CA.length+1) (some 1),.bool M.out])) ⟨G.A++[h1.n],G.CA++[h2.n],[h4.n]⟩ (M.call fn parent args):=pm6x;have s6:Stq mb (((((g.push .dead).push .dead).push (.own 0 [.int .i64 fn,.int .i64 parent,av,.ptr h1.n 0])).push (.own 0 [.ptr h2.n 0]))) h4 ⟨G.A++[h1.n],G.CA,G.CB⟩ ((((((g.push .dead).push .dead).push (.own 0 [.int .i64 fn,.int .i64 parent,av,.ptr h1.n 0])).push (.own 0 [.ptr h2.n 0])).push .dead)) (h5.set mb (.own 0 [dv,.int .i64 (M.left:Int),.sl h4.n 0 (G.CA.length+1) (G.CA.length+1) (some 1),.bool M.out])) ⟨G.A++[h1.n],G.CA++[h2.n],[h4.n]⟩:=s6x;clear pm6x s6x;have hmb5:h5.get mb = .own 0 [dv,.int .i64 (M.left:Int),cv,.bool M.out]:=by
   rw[i4 mb (by omega) (o3 mb pm4.mnb)];exact hmb4
  have hdne:mb≠db:=λe=>by have:=pm.mhid;rw[e,u1] at this;cases this
  have n6:(h5.set mb (.own 0 [dv,.int .i64 (M.left:Int),.sl h4.n 0 (G.CA.length+1) (G.CA.length+1) (some 1),.bool M.out])).n=h.n+1+1+1+1+1:=by rw[H.n_set];omega
  obtain⟨pm7,s7⟩:=pm6.pushV (.own 0 [w,av,.int .i64 (M.calls.length:Int)]);have hw6:WFM p (M.call fn parent args):=hw.call' fn parent ha;have s47:=s6.trans s7;have hmono:=hm (M.call fn parent args) (zn p fn.toNat) args (M.calls.length:Int) (((zn p fn.toNat).length:Int)-1);have fr7:FrAt ((((((g.push .dead).push .dead).push (.own 0 [.int .i64 fn,.int .i64 parent,av,.ptr h1.n 0])).push (.own 0 [.ptr h2.n 0])).push .dead).push (.own 0 [w,av,.int .i64 (M.calls.length:Int)])) (G.A++[h1.n]) (h.n+1+1+1+1+1) (zn p fn.toNat) args (M.calls.length:Int) :=
   ⟨by rw[pm7.gn,H.n_push,n6];omega,w,av,zf (by rw[pm6.gn,n6]),by rw[hbo];exact d3.ext ExC.stays (s04.eg.trans s47.eg),by rw[hptA];exact hav.ext (s04.eg.trans s47.eg),hsf⟩
  have W:=IH _ _ _ (M.call fn parent args) (h.n+1+1+1+1+1) (zn p fn.toNat) args (M.calls.length:Int) (((zn p fn.toNat).length:Int)-1) pm7 hw6 (by unfold cnt Mc.call;unfold cnt at hc;simp;omega) hlf fr7 (ha.mono (Mono.call M fn parent args)) hfr;have hcall:callM p (zm p N) M fn parent args=((zm p N (M.call fn parent args) (zn p fn.toNat) args (M.calls.length:Int) (((zn p fn.toNat).length:Int)-1)).1,if (zm p N (M.call fn parent args) (zn p fn.toNat) args (M.calls.length:Int) (((zn p fn.toNat).length:Int)-1)).2.out=true then (zm p N (M.call fn parent args) (zn p fn.toNat) args (M.calls.length:Int) (((zn p fn.toNat).length:Int)-1)).2 else (zm p N (M.call fn parent args) (zn p fn.toNat) args (M.calls.length:Int) (((zn p fn.toNat).length:Int)-1)).2.put M.cells.length (zm p N (M.call fn parent args) (zn p fn.toNat) args (M.calls.length:Int) (((zn p fn.toNat).length:Int)-1)).1):=rfl;rw[hcall];rw[hbo] at W hmono ⊢;generalize zm p N (M.call fn parent args) df.body args (M.calls.length:Int) ((df.body.length:Int)-1)=x at W hmono ⊢;refine⟨hl,by rw[hmb5];rfl,?_,n6,x,_,W,?_⟩
  ·intro b;have:=hdbh (s04.eg.trans s6.eg) pm6.un
   rw[zg hdne] at this;rw[zg hdne];exact this
  ·intro u h8 ⟨g8,G8,s8,pm8,pv8,eu,q8⟩;have hcl:(M.call fn parent args).cells[M.cells.length]?=some (cl0 [] 0 [] 0):=by show (M.cells++[_])[M.cells.length]?=_;simp
   obtain⟨d,hdc,hsc⟩:=hmono.cell M.cells.length _ hcl;obtain⟨l8,g8e⟩:=l1.step pm1.gn ((s2.trans s24).trans (s47.trans s8));rw[gl1] at g8e;have hgA2:({ G with A:=G.A++[h1.n] }:Gst).A[M.cells.length]?=some h1.n:=by show (G.A++[h1.n])[M.cells.length]?=_;rw[<- pm.alen];simp
   have s28:=s24.trans (s47.trans s8);obtain⟨cv8,pv',h9,F⟩:=zeb β s28 pm8 hdc hgA2 gc2 hsc l8 g8e q8 (by omega);have h48:h4.n<h8.n:=by
    have:=s7.hn;have:=s8.hn
    rw[H.n_push,H.n_set] at this;omega
   have s02:=s1.trans s2;refine⟨g8,G8,cv8,pv8,pv',d,h9,eu,h48,F,?_,λho=>?_,λho h10 e10=>?_⟩
   ·have hge8:g8.get (h.n+1+1) = .own 0 [.int .i64 fn,.int .i64 parent,av,.ptr (h.n+1) 0]:=by
     have:=(s47.trans s8).eg.get h2.n hcb
     rw[hgc,hgA,nn2,n1] at this;exact this
    have hlt8:h.n+1+1<g8.n:=by have:=pm8.gn;omega
    have hge:(g8.push .dead).get (h.n+1+1) = .own 0 [.int .i64 fn,.int .i64 parent,av,.ptr (h.n+1) 0]:=by rw[zc (by omega)];exact hge8
    constructor
    ·rw[F.pm5.un.get _ (by rw[H.n_push];omega) (by rw[hge];simp[Blk.cells]),hge];rfl
    ·rw[pm8.un.get _ hlt8 (by rw[hge8];simp[Blk.cells]),hge8];rfl
   ·refine⟨_,G8,(s02.trans F.s05).setL (i:=h.n) (Nat.le_refl _) (.own 0 [.int .i64 x.1.kind,.int .i64 x.1.num,pv8]),?_,pv8,rfl,F.q0⟩;show PM p mb dv _ _ G8 (if x.2.out=true then x.2 else x.2.put M.cells.length x.1);rw[if_pos ho];exact F.pm5.setL F.l5 _
   ·obtain⟨p6,t6⟩:=F.pm5.put2 hdc F.ha3 F.clc F.q5 F.q6 F.q8 F.q0;have y1:zI .nils .nils pv8 { d with f:=x.1 }=[.nils,.int .i64 (cl0 [] 0 [] 0).at_,.nils,.int .i64 (cl0 [] 0 [] 0).node,.bool d.done,.int .i64 x.1.kind,.int .i64 x.1.num,pv8,.bool d.shown,.int .i64 d.size]:=by unfold zI;rw[<- hsc.2.1,<- hsc.2.2.2]
    have y2:zI .nils .nils pv8 { d with done:=true,f:=x.1 }=[.nils,.int .i64 (cl0 [] 0 [] 0).at_,.nils,.int .i64 (cl0 [] 0 [] 0).node,.bool true,.int .i64 x.1.kind,.int .i64 x.1.num,pv8,.bool d.shown,.int .i64 d.size]:=by unfold zI;rw[<- hsc.2.1,<- hsc.2.2.2]
    rw[y1,y2] at p6 t6;rw[e10];refine⟨_,G8,((s02.trans F.s05).trans t6).setL (i:=h.n) (Nat.le_refl _) (.own 0 [.int .i64 x.1.kind,.int .i64 x.1.num,pv8]),?_,pv8,rfl,F.q0⟩;show PM p mb dv _ _ G8 (if x.2.out=true then x.2 else x.2.put M.cells.length x.1);rw[if_neg (by rw[ho];simp)];exact p6.setL ((F.l5.set _).set _) _
 rw[TN.c158];unfold f158;simp (disch:=first|omega|simp only[zD]<;>omega|assumption) only[↓zR,↓zRM,zR,zRM,reduceAdd,reduceMul,reduceToNat,zN,e1,hbu1,↓hbx1,e2,n1,n2,n3,hbu2,↓hbx2,hmb0,cvlen,↓hbs,x2,x3,x4];refine zeh o2 o1 hsrc rfl (by rw[List.length_map,pm.clen];omega) (by omega) (by omega) (by omega) ?_;intro l h5 i1 i2 i3 i4;have P:=post l h5 i1 i2 i3 i4;have hl:=P.1;have hmb5o:=P.2.1;have hdb5:=P.2.2.1;have n6:=P.2.2.2.1;have hn5:h5.n=h.n+1+1+1+1+1:=by rw[i2];omega
 refine Exists.elim P.2.2.2.2 λx hq=>Exists.elim hq λQ hQ=>?_
 simp (disch:=first|omega|simp only[zD]<;>omega|assumption) only[↓zR,↓zRM,zR,zRM,reduceAdd,reduceMul,reduceToNat,zN,hl,hmb5o,hset,hdb5,d1,u5,hbu3,↓hbx3,lw,n6,hn5];refine hQ.1 _ _ ?_;intro u h8 hu;refine Exists.elim (hQ.2 u h8 hu) λg8 hq=>Exists.elim hq λG8 hq=>Exists.elim hq λcv8 hq=>Exists.elim hq λpv8 hq=>Exists.elim hq λpv' hq=>Exists.elim hq λd hq=>Exists.elim hq λh9 hq=>?_
 have eu:=hq.1;have h48:=hq.2.1;have F:=hq.2.2.1;have gcb:=hq.2.2.2.1.1;have gcb8:=hq.2.2.2.1.2;have gm3:=F.gm3;have gl3:=F.gl3;have fin1:=hq.2.2.2.2.1;have fin2:=hq.2.2.2.2.2;have hpt:zar [AV.int .i64 0,.int .i64 0,.nils] 0 [.int .i64 x.1.kind,.int .i64 x.1.num,pv8]=[.int .i64 x.1.kind,.int .i64 x.1.num,pv8]:=rfl;have eh5:=F.eh5;have gm5:=F.gm5;have gl5o:=F.gl5;have gb5:=F.gb5;have sc3:=F.sc3;have n1':h1.n=h.n+1:=n1;have ga3o:=F.ga3o;rw[n1] at ga3o
 by_cases ho:x.2.out=true
 ·rw[ho] at gm5 gm3;simp (disch:=first|omega|simp only[zD]<;>omega|assumption) only[↓zR,↓zRM,zR,zRM,reduceAdd,reduceMul,reduceToNat,zN,eu,hpt,eh5,gm5,gm3,gl3,ga3o,gb5,gl5o,↓f158_J28];exact hkk _ _ (fin1 ho)
 ·have ho':x.2.out=false:=by simpa using ho
  rw[ho'] at gm5 gm3;have ga5o:zaG (h9.get (h.n+1))=some (0,[.nils,.int .i64 (cl0 [] 0 [] 0).at_,.nils,.int .i64 (cl0 [] 0 [] 0).node,.bool d.done,.int .i64 d.f.kind,.int .i64 d.f.num,pv',.bool d.shown,.int .i64 d.size]):=by rw[<- n1,F.ga5];rfl
  have hp5:zar [.nils,.int .i64 (cl0 [] 0 [] 0).at_,.nils,.int .i64 (cl0 [] 0 [] 0).node,.bool d.done,.int .i64 d.f.kind,.int .i64 d.f.num,pv',.bool d.shown,.int .i64 d.size] 5 [.int .i64 x.1.kind,.int .i64 x.1.num,pv8]=[.nils,.int .i64 (cl0 [] 0 [] 0).at_,.nils,.int .i64 (cl0 [] 0 [] 0).node,.bool d.done,.int .i64 x.1.kind,.int .i64 x.1.num,pv8,.bool d.shown,.int .i64 d.size]:=rfl;have hp4:zar [.nils,.int .i64 (cl0 [] 0 [] 0).at_,.nils,.int .i64 (cl0 [] 0 [] 0).node,.bool d.done,.int .i64 x.1.kind,.int .i64 x.1.num,pv8,.bool d.shown,.int .i64 d.size] 4 [.bool true]=[.nils,.int .i64 (cl0 [] 0 [] 0).at_,.nils,.int .i64 (cl0 [] 0 [] 0).node,.bool true,.int .i64 x.1.kind,.int .i64 x.1.num,pv8,.bool d.shown,.int .i64 d.size]:=rfl;simp (disch:=first|omega|simp only[zD]<;>omega|assumption) only[↓zR,↓zRM,zR,zRM,reduceAdd,reduceMul,reduceToNat,zN,eu,hpt,eh5,gm5,gm3,gl3,ga3o,gb5,gcb,gcb8,ga5o,hp5,hp4,gl5o,↓f158_J28];exact hkk _ _ (fin2 ho' _ (by rw[n1]))
end
end Am.F
end
section
namespace Am.F
open Go Am
section
variable {β:Type} {t:ETree} {p:List Df} {mb:Nat} {dv:AV} {g h:H} {G:Gst} {M:Mc}
structure PS (p:List Df) (mb:Nat) (dv:AV) (g h:H) (G:Gst) (M:Mc) (g1 h1:H) (G1:Gst) (M1:Mc) (a b:Int):Prop where
 st:Stq mb g h G g1 h1 G1
 pm:PM p mb dv g1 h1 G1 M1
 wf:WFM p M1
 ct:cnt M1<=1000
 mo:Mono M M1
 l0:Loc mb g1 h1 G1 h.n
 l1:Loc mb g1 h1 G1 (h.n+1)
 g0:h1.get h.n = .own 0 [.int .i64 0,.int .i64 0,.nils]
 gx:h1.get (h.n+1) = .own 0 [.int .i64 a,.int .i64 b]
theorem GN11.j217(TN:GN11 t){N m:Nat}(IH:zhD β t p mb dv N m)(hok:WfP p (zm p N))(hmo:zev (zm p N))(hcn:CntP (zm p N)){g1 h1:H}{G1:Gst}{M1:Mc}{a b:Int}(S:PS p mb dv g h G M g1 h1 G1 M1 a b)(hlf:M1.left<N)
  {fb:Nat} {body:List Ex} {there:List Nat} {node:Int} (fr:FrAt g1 G1.A fb body there node) (hg:Gds p M1 there) {kids:List Int} {w:AV} (hkw:SlAt g1 w (ints kids)) {j:Nat} (hj:j<2) (hjk:j<kids.length) (hf:zp p body there (kids.getD j 0))
  (eb:AV) (k:K β) (l19:Cur β 17) (R:Option β) {x5 x6 x7 x8 x10 x12 x13 x14 x15 x16:AV}
  (Hbad:(zm p N M1 body there node (kids.getD j 0)).1.kind≠1->∀g2 h2 G2,Stq mb g h G g2 h2 G2->PM p mb dv g2 h2 G2 (zm p N M1 body there node (kids.getD j 0)).2->k (.agg [.int .i64 3,.int .i64 0,.nils]) h2=R)
  (Hok:(zm p N M1 body there node (kids.getD j 0)).1.kind=1->∀y5 y6 y7 y8 y12 y13 y14 y15 y16 g2 h2 G2,Ext g1 g2->G1.A <+: G2.A->PS p mb dv g h G M g2 h2 G2 (zm p N M1 body there node (kids.getD j 0)).2 (if j=0 then (zm p N M1 body there node (kids.getD j 0)).1.num else a) (if j=0 then b else (zm p N M1 body there node (kids.getD j 0)).1.num) ->
   l19 (.ptr mb 0) (.ptr fb 0) eb (.ptr h.n 0) (.ptr (h.n+1) 0) y5 y6 y7 y8 w x10 (.int .i64 ((j+1:Nat):Int)) y12 y13 y14 y15 y16 h2=R) :
  f217_J21 (ze t stdI m) k l19 (.ptr mb 0) (.ptr fb 0) eb (.ptr h.n 0) (.ptr (h.n+1) 0) x5 x6 x7 x8 w x10 (.int .i64 (j:Int)) x12 x13 x14 x15 x16 h1=R:=by
 have hld:=λkk:VK β=>(hkw.un S.pm.un).load (kd:=.i64) (i:=(j:Int)) (by omega) (by rw[zL];omega) kk
 have hgd:(ints kids).getD ((j:Int)).toNat (.tup []) = .int .i64 (kids.getD j 0):=by rw[Int.toNat_natCast,zcl hjk]
 have hge:(ints kids).getD j (.tup []) = .int .i64 (kids.getD j 0):=by rw[zcl hjk]
 have W:=IH g1 h1 G1 M1 fb body there node (kids.getD j 0) S.pm S.wf S.ct hlf fr hg hf;have w2:=hok M1 body there node (kids.getD j 0) S.wf hf hg;have m2:=hmo M1 body there node (kids.getD j 0);have c2:=hcn M1 body there node (kids.getD j 0);generalize zm p N M1 body there node (kids.getD j 0)=x at W w2 m2 c2 Hbad Hok;have post:∀(u:AV) (h2:H),(∃g' G',Stq mb g1 h1 G1 g' h2 G'/\PM p mb dv g' h2 G' x.2/\∃pv,u = .agg [.int .i64 x.1.kind,.int .i64 x.1.num,pv]/\SlAt g' pv (ptrs G'.A x.1.parts)) ->
   ∃pv,u = .agg [.int .i64 x.1.kind,.int .i64 x.1.num,pv]/\pv.sc=true/\h.n+1<h2.n/\zaG (h2.get h.n)=some (0,[.int .i64 0,.int .i64 0,.nils])/\zaG (h2.get (h.n+1))=some (0,[.int .i64 a,.int .i64 b]) /\
    (x.1.kind≠1->∀h3,h3=((h2.push (.own 0 [.int .i64 0,.int .i64 0,.nils])).set h2.n (.own 0 [.int .i64 x.1.kind,.int .i64 x.1.num,pv])).set h.n (.own 0 [.int .i64 3,.int .i64 0,.nils])->k (.agg [.int .i64 3,.int .i64 0,.nils]) h3=R) /\
    (x.1.kind=1->∀h3,h3=((h2.push (.own 0 [.int .i64 0,.int .i64 0,.nils])).set h2.n (.own 0 [.int .i64 x.1.kind,.int .i64 x.1.num,pv])).set (h.n+1) (.own 0 [.int .i64 (if j=0 then x.1.num else a),.int .i64 (if j=0 then b else x.1.num)]) ->
     ∀y5 y6 y7 y8 y12 y13 y14 y15 y16,l19 (.ptr mb 0) (.ptr fb 0) eb (.ptr h.n 0) (.ptr (h.n+1) 0) y5 y6 y7 y8 w x10 (.int .i64 ((j+1:Nat):Int)) y12 y13 y14 y15 y16 h3=R):=by
  rintro u h2 ⟨g2,G2,s2,pm2,pv,eu,q⟩
  obtain⟨l0,e0⟩:=S.l0.step S.pm.gn s2;obtain⟨l1,e1⟩:=S.l1.step S.pm.gn s2;rw[S.g0] at e0;rw[S.gx] at e1;obtain⟨pm3,s3⟩:=pm2.pushH (.own 0 [.int .i64 0,.int .i64 0,.nils]);have l3:=pm2.loc (.own 0 [.int .i64 0,.int .i64 0,.nils]);obtain⟨l03,e03⟩:=l0.step pm2.gn s3;obtain⟨l13,e13⟩:=l1.step pm2.gn s3;have hlt:=l1.lt;have pm4:=pm3.setL l3 (.own 0 [.int .i64 x.1.kind,.int .i64 x.1.num,pv]);have s4:=((S.st.trans s2).trans s3).setL (i:=h2.n) (by omega) (.own 0 [.int .i64 x.1.kind,.int .i64 x.1.num,pv]);refine⟨pv,eu,q.sc,hlt,by rw[e0];rfl,by rw[e1];rfl,λhk h3 e3=>?_,λhk h3 e3 y5 y6 y7 y8 y12 y13 y14 y15 y16=>?_⟩
  ·rw[e3];exact Hbad hk _ _ G2 (s4.setL (i:=h.n) (Nat.le_refl _) _) (pm4.setL (l03.set _) _)
  ·rw[e3];refine Hok hk y5 y6 y7 y8 y12 y13 y14 y15 y16 _ _ G2 (s2.eg.trans s3.eg) s2.A ⟨s4.setL (i:=h.n+1) (by omega) _,pm4.setL (l13.set _) _,w2.1,by have:=S.ct;omega,S.mo.trans m2,(l03.set _).set _,(l13.set _).set _,?_,by rw[zB rfl]⟩;rw[zg (by omega),zg (by omega),e03,e0]
 have hbu:∀kk:VK β,zy [.int .i64 0,.int .i64 0,.nils] [(0,1)] [.int .i64 3] (.mk kk)=kk (.agg [.int .i64 3,.int .i64 0,.nils]):=λkk=>rfl
 unfold f217_J21;simp (disch:=first|omega|simp only[zD]<;>omega|assumption) only[↓zR,↓zRM,zR,zRM,reduceAdd,reduceMul,reduceToNat,hld,hgd,hge];refine W _ _ ?_;intro u h2 hu;refine Exists.elim (post u h2 hu) λpv hq=>?_
 have eu:=hq.1;have psc:=hq.2.1;have hlt:=hq.2.2.1;have go0:=hq.2.2.2.1;have go1:=hq.2.2.2.2.1;have Fb:=hq.2.2.2.2.2.1;have Fo:=hq.2.2.2.2.2.2;have hpt:zar [AV.int .i64 0,.int .i64 0,.nils] 0 [.int .i64 x.1.kind,.int .i64 x.1.num,pv]=[.int .i64 x.1.kind,.int .i64 x.1.num,pv]:=rfl;have hpt3:zar [AV.int .i64 0,.int .i64 0,.nils] 0 [.int .i64 3,.int .i64 0,.nils]=[.int .i64 3,.int .i64 0,.nils]:=rfl
 by_cases hk:x.1.kind=1
 ·have hj01:j=0\/j=1:=by omega
  rcases hj01 with rfl|rfl
  ·have Fo':=Fo hk _ rfl;rw[if_pos rfl,if_pos rfl,hk] at Fo';simp (disch:=first|omega|simp only[zD]<;>omega|assumption) only[↓zR,↓zRM,zR,zRM,reduceAdd,reduceMul,reduceToNat,eu,psc,go0,go1,hpt,eq_true hk,hk,↓f217_J28,↓f217_J22];exact Fo' _ _ _ _ _ _ _ _ _
  ·have Fo':=Fo hk _ rfl;rw[if_neg (by omega),if_neg (by omega),hk] at Fo';simp (disch:=first|omega|simp only[zD]<;>omega|assumption) only[↓zR,↓zRM,zR,zRM,reduceAdd,reduceMul,reduceToNat,eu,psc,go0,go1,hpt,eq_true hk,hk,↓f217_J28,↓f217_J22];exact Fo' _ _ _ _ _ _ _ _ _
 ·simp (disch:=first|omega|simp only[zD]<;>omega|assumption) only[↓zR,↓zRM,zR,zRM,reduceAdd,reduceMul,reduceToNat,eu,psc,go0,go1,hpt,hpt3,eq_false hk,hbu];exact Fb hk _ rfl
theorem GN11.w217(TN:GN11 t)(TM:GNM t)(T:GA t){N m:Nat}(IH:zhD β t p mb dv N m)(hok:WfP p (zm p N))(hmo:zev (zm p N))(hcn:CntP (zm p N))(hm6:6<=m)(pm:PM p mb dv g h G M)(hw:WFM p M)(hc:cnt M<=1000)(hlf:M.left<N)
  {fb:Nat} {body:List Ex} {there:List Nat} {node:Int} (fr:FrAt g G.A fb body there node) (hg:Gds p M there) {e:Ex} {b o:Nat} {w:AV} (hx:InAt 4 g b o (zG e w)) (hkw:SlAt g w (ints e.kids)) (hk2:e.kids.length=2) (hop:0<=e.num/\e.num<=4) (hf:∀q,q<2->zp p body there (e.kids.getD q 0)) :
  Sp (β:=β) (ze t stdI (m+1) (.fn 217 []) [.ptr mb 0,.ptr fb 0,.ptr b o] h) λu h'=>∃g' G',Stq mb g h G g' h' G'/\PM p mb dv g' h' G' (zbc (zm p N) M body there node e).2/\∃pv,u = .agg [.int .i64 (zbc (zm p N) M body there node e).1.kind,.int .i64 (zbc (zm p N) M body there node e).1.num,pv]/\SlAt g' pv (ptrs G'.A (zbc (zm p N) M body there node e).1.parts):=by
 intro k R hkk;obtain⟨pm1,s1⟩:=pm.pushH (.own 0 [.int .i64 0,.int .i64 0,.nils]);have l1:=pm.loc (.own 0 [.int .i64 0,.int .i64 0,.nils]);obtain⟨pm2,s2⟩:=pm1.pushH (.own 0 [.int .i64 0,.int .i64 0]);have l2:=pm1.loc (.own 0 [.int .i64 0,.int .i64 0]);obtain⟨l12,e12⟩:=l1.step pm1.gn s2;have n1:(h.push (.own 0 [.int .i64 0,.int .i64 0,.nils])).n=h.n+1:=H.n_push _ _;rw[n1] at l2;have n2:((h.push (.own 0 [.int .i64 0,.int .i64 0,.nils])).push (.own 0 [.int .i64 0,.int .i64 0])).n=h.n+1+1:=by simp only[H.n_push]
 have S0:PS p mb dv g h G M ((g.push .dead).push .dead) ((h.push (.own 0 [.int .i64 0,.int .i64 0,.nils])).push (.own 0 [.int .i64 0,.int .i64 0])) G M 0 0 :=
  ⟨s1.trans s2,pm2,hw,hc,Mono.refl M,l12,l2,by rw[e12,zf rfl],zf n1⟩
 have hbe:=hx.1;obtain⟨us,v1,v2,v3,v4⟩:=hx.get;have hus:(h.get b).cells=some us:=by rw[pm.un.get b hbe (by rw[v1];simp)];exact v1
 have hbh:b<h.n:=by rw[<- pm.gn];exact hbe
 have v5:=v4 1 _ rfl;have v6:=v4 3 _ rfl;have lw:∀kc:VK β,qLenL w (.mk kc)=kc (.int .i64 2):=λkc=>by rw[hkw.len,zL,hk2];rfl
 have r1w:=hok M body there node (e.kids.getD 0 0) hw (hf 0 (by omega)) hg;have hfrs:∀{g1:H} {G1:Gst},Ext g g1->G.A <+: G1.A->FrAt g1 G1.A fb body there node:=λee aa=>fr.step ee aa λq hq=>by rw[pm.alen];exact hg.lt q hq
 have hbu:∀(x:Int) (kk:VK β),zy [.int .i64 0,.int .i64 0,.nils] [(0,1),(1,1)] [.int .i64 1,.int .i64 x] (.mk kk)=kk (.agg [.int .i64 1,.int .i64 x,.nils]):=λx kk=>rfl
 have prim1:(zm p N M body there node (e.kids.getD 0 0)).1.kind≠1->zbc (zm p N) M body there node e=(zc7,(zm p N M body there node (e.kids.getD 0 0)).2):=λhk=>by
  unfold zbc;exact if_pos hk
 have prim2:(zm p N M body there node (e.kids.getD 0 0)).1.kind=1->(zm p N (zm p N M body there node (e.kids.getD 0 0)).2 body there node (e.kids.getD 1 0)).1.kind≠1->zbc (zm p N) M body there node e=(zc7,(zm p N (zm p N M body there node (e.kids.getD 0 0)).2 body there node (e.kids.getD 1 0)).2):=λhk hk2=>by
  unfold zbc;show (if _ then _ else _:Fd × Mc)=_;rw[if_neg (λhh=>hh hk)];exact if_pos hk2
 have prim3:(zm p N M body there node (e.kids.getD 0 0)).1.kind=1->(zm p N (zm p N M body there node (e.kids.getD 0 0)).2 body there node (e.kids.getD 1 0)).1.kind=1->zbc (zm p N) M body there node e=(⟨1,doV e.num (zm p N M body there node (e.kids.getD 0 0)).1.num (zm p N (zm p N M body there node (e.kids.getD 0 0)).2 body there node (e.kids.getD 1 0)).1.num,[]⟩,(zm p N (zm p N M body there node (e.kids.getD 0 0)).2 body there node (e.kids.getD 1 0)).2):=λhk hk2=>by
  unfold zbc;show (if _ then _ else _:Fd × Mc)=_;rw[if_neg (λhh=>hh hk)];show (if _ then _ else _:Fd × Mc)=_;rw[if_neg (λhh=>hh hk2)]
 have m1:=hmo M body there node (e.kids.getD 0 0);have hlf1:(zm p N M body there node (e.kids.getD 0 0)).2.left<N:=by
  have q1:=hcn M body there node (e.kids.getD 0 0);have q2:=m1.calls.length_le;unfold cnt at q1;omega
 generalize hr:zm p N M body there node (e.kids.getD 0 0)=r at r1w prim1 prim2 prim3 m1 hlf1;generalize hqq:zm p N r.2 body there node (e.kids.getD 1 0)=q at prim2 prim3;rw[TN.c217];unfold f217;simp (disch:=first|omega|simp only[zD]<;>omega|assumption) only[↓zR,↓zRM,zR,zRM,reduceAdd,reduceMul,reduceToNat,zN,hus,v6,lw,n1];refine zaa 17 m _ _ (λi x0 x1 x2 x3 x4 x5 x6 x7 x8 x9 x10 x11 x12 x13 x14 x15 x16 h'=>x0 = .ptr mb 0/\x1 = .ptr fb 0/\x2 = .ptr b o/\x3 = .ptr h.n 0/\x4 = .ptr (h.n+1) 0/\x9=w/\x10 = .int .i64 2/\∃(j:Nat) (g':H) (G':Gst),x11 = .int .i64 (j:Int)/\j+i=2/\Ext g g'/\G.A <+: G'.A /\
   ((j=0/\PS p mb dv g h G M g' h' G' M 0 0)\/(j=1/\r.1.kind=1/\PS p mb dv g h G M g' h' G' r.2 r.1.num 0)\/(j=2/\r.1.kind=1/\q.1.kind=1/\PS p mb dv g h G M g' h' G' q.2 r.1.num q.1.num))) 2 (by omega) ?_ _ _ _ _ _ _ _ _ _ _ _ _ _ _ _ _ _ _
  ⟨rfl,rfl,rfl,rfl,rfl,rfl,rfl,0,_,G,rfl,by omega,S0.st.eg,List.prefix_refl _,.inl ⟨rfl,S0⟩⟩
 intro l i ih x0 x1 x2 x3 x4 x5 x6 x7 x8 x9 x10 x11 x12 x13 x14 x15 x16 h' ⟨p0,p1,p2,p3,p4,p5,p6,j,g',G',p7,hj,ee,aa,hst⟩;rw[p0,p1,p2,p3,p4,p5,p6,p7];clear p0 p1 p2 p3 p4 p5 p6 p7;rcases hst with⟨rfl,S⟩|⟨rfl,hk1,S⟩|⟨rfl,hk1,hk2',S⟩
 ·have hi:i=1+1:=by omega
  subst hi;simp (disch:=first|omega|simp only[zD]<;>omega|assumption) only[↓zR,↓zRM,zR,zRM,reduceAdd,reduceMul,reduceToNat,↓f217_L19];refine GN11.j217 TN IH hok hmo hcn S hlf (hfrs ee aa) hg (hkw.ext ee) (j:=0) (by omega) (by omega) (hf 0 (by omega)) _ k l R (λhk g2 h2 G2 st pm'=>?_) (λhk y5 y6 y7 y8 y12 y13 y14 y15 y16 g2 h2 G2 eg ag S'=>?_)
  ·rw[hr] at hk pm';refine hkk _ _ ⟨g2,G2,st,by rw[prim1 hk];exact pm',.nils,by rw[prim1 hk];rfl,by rw[prim1 hk];exact .inl ⟨rfl,rfl⟩⟩
  ·rw[hr] at hk S';rw[if_pos rfl,if_pos rfl] at S';exact ih 1 (by omega) _ _ _ _ _ _ _ _ _ _ _ _ _ _ _ _ _ _ ⟨rfl,rfl,rfl,rfl,rfl,rfl,rfl,1,g2,G2,rfl,by omega,ee.trans eg,aa.trans ag,.inr (.inl ⟨rfl,hk,S'⟩)⟩
 ·have hi:i=0+1:=by omega
  subst hi;simp (disch:=first|omega|simp only[zD]<;>omega|assumption) only[↓zR,↓zRM,zR,zRM,reduceAdd,reduceMul,reduceToNat,↓f217_L19];refine GN11.j217 TN IH hok hmo hcn S hlf1 (hfrs ee aa) (hg.mono m1) (hkw.ext ee) (j:=1) (by omega) (by omega) (hf 1 (by omega)) _ k l R (λhk g2 h2 G2 st pm'=>?_) (λhk y5 y6 y7 y8 y12 y13 y14 y15 y16 g2 h2 G2 eg ag S'=>?_)
  ·rw[hqq] at hk pm';refine hkk _ _ ⟨g2,G2,st,by rw[prim2 hk1 hk];exact pm',.nils,by rw[prim2 hk1 hk];rfl,by rw[prim2 hk1 hk];exact .inl ⟨rfl,rfl⟩⟩
  ·rw[hqq] at hk S';rw[if_neg (by omega),if_neg (by omega)] at S';exact ih 0 (by omega) _ _ _ _ _ _ _ _ _ _ _ _ _ _ _ _ _ _ ⟨rfl,rfl,rfl,rfl,rfl,rfl,rfl,2,g2,G2,rfl,by omega,ee.trans eg,aa.trans ag,.inr (.inr ⟨rfl,hk1,hk,S'⟩)⟩
 ·have hi:i=0:=by omega
  subst hi;have hus':(h'.get b).cells=some us:=by rw[S.pm.un.get b (by have:=ee.n;omega) (by rw[ee.get _ hbe,v1];simp),ee.get _ hbe];exact v1
  have gx:(h'.get (h.n+1)).cells=some [.int .i64 r.1.num,.int .i64 q.1.num]:=by rw[S.gx];rfl
  have g0:zaG (h'.get h.n)=some (0,[.int .i64 0,.int .i64 0,.nils]):=by rw[S.g0];rfl
  have hpt:∀x:Int,zar [AV.int .i64 0,.int .i64 0,.nils] 0 [.int .i64 1,.int .i64 x,.nils]=[.int .i64 1,.int .i64 x,.nils]:=λx=>rfl
  have h226:=λ(kk:K β) (R':Option β) (hh:H)=>TM.w226 T (m-2) e.num r.1.num q.1.num hop hh kk R'
  rw[show m-2+2=m by omega] at h226;have fin:=λhb:Blk=>hkk (.agg [.int .i64 1,.int .i64 (doV e.num r.1.num q.1.num),.nils]) (h'.set h.n hb) ⟨g',G',S.st.setL (Nat.le_refl _) hb,by rw[prim3 hk1 hk2'];exact S.pm.setL S.l0 hb,.nils,by rw[prim3 hk1 hk2'],by rw[prim3 hk1 hk2'];exact .inl ⟨rfl,rfl⟩⟩
  simp (disch:=first|omega|simp only[zD]<;>omega|assumption) only[↓zR,↓zRM,zR,zRM,reduceAdd,reduceMul,reduceToNat,↓f217_L19,↓f217_J2,zN,hus',v5,gx];refine h226 _ _ _ λe'=>?_
  simp (disch:=first|omega|simp only[zD]<;>omega|assumption) only[↓zR,↓zRM,zR,zRM,reduceAdd,reduceMul,reduceToNat,hbu,g0,hpt];exact fin _
end
end Am.F
end
section
namespace Am.F
open Go Am
section
variable {β:Type} {t:ETree} {p:List Df} {mb:Nat} {dv:AV} {g h:H} {G:Gst} {M:Mc}
structure PT (p:List Df) (mb:Nat) (dv:AV) (body:List Ex) (node:Int) (g h:H) (G:Gst) (g1 h1:H) (G1:Gst) (M1:Mc) (fb:Nat) (there:List Nat) (a:Int) (N:Nat):Prop where
 st:Stq mb g h G g1 h1 G1
 pm:PM p mb dv g1 h1 G1 M1
 wf:WFM p M1
 ct:cnt M1<=1000
 lf:M1.left<N
 l0:Loc mb g1 h1 G1 h.n
 g0:h1.get h.n = .own 0 [.int .i64 0,.int .i64 0,.nils]
 fr:FrAt g1 G1.A fb body there node
 gd:Gds p M1 there
 fo:zp p body there a
structure Env8 (β:Type) (t:ETree) (p:List Df) (mb:Nat) (dv:AV) (N m:Nat):Prop where
 TN:GN11 t
 TM:GNM t
 T:GA t
 hp:zo p=true
 hlen:∀d ∈ p,d.body.length<=1000
 ih:zhD β t p mb dv N m
 ih1:zhD β t p mb dv N (m-1)
 hm:20<=m
theorem PT.sees{body:List Ex}{node:Int}{g1 h1:H}{G1:Gst}{M1:Mc}{fb:Nat}{there:List Nat}{a:Int}{N:Nat}(β:Type)(S:PT p mb dv body node g h G g1 h1 G1 M1 fb there a N) :
  ∃e l bv tv b o us w,body[a.toNat]?=some e/\l<=8/\zq e l/\(there.length:Int)=l/\0<=a/\e ∈ body/\(∃d ∈ p,d.body=body)/\(∀(q:Nat) (kid:Int),e.kids[q]?=some kid->0<=kid/\kid<a/\∀t':List Nat,(t'.length:Int)=l+more e q->zp p body t' kid) /\
   (∀k:VK β,zO 4 bv (.int .i64 a) (.mk k)=k (.ptr b o))/\SlAt g1 w (ints e.kids)/\SlAt g1 tv (ptrs G1.A there)/\mb≠fb/\mb≠b/\InAt 4 g1 b o (zG e w) /\
   (us[o]?=some (.int .i64 e.kind)/\us[o+1]?=some (.int .i64 e.num)/\us[o+2]?=some (.int .i64 e.bind)/\us[o+3]?=some w) /\
   ∀g2 h2,Ext g1 g2->Un g2 h2->(h2.get fb).cells=some [bv,tv,.int .i64 node]/\(h2.get b).cells=some us:=by
 obtain⟨e,l,he,hl8,hpp,hl,h0,hmem,hbd,hkid⟩:=S.fo.at_;obtain⟨bv,tv,f1,f2,f3,f4⟩:=S.fr.ex;obtain⟨b,o,cs,a1,a2,w,rfl,a3⟩:=f2.at (β:=β) he;obtain⟨us,u1,u2,u3,u4⟩:=a2.get;rw[show ((a.toNat:Nat):Int)=a by omega] at a1;have hb:=a2.1;refine⟨e,l,bv,tv,b,o,us,w,he,hl8,hpp,hl,h0,hmem,hbd,hkid,a1,a3,f3,λq=>?_,λq=>?_,a2,⟨u4 0 _ rfl,u4 1 _ rfl,u4 2 _ rfl,u4 3 _ rfl⟩,λg2 h2 ee u=>⟨?_,?_⟩⟩
 ·have:=S.pm.mhid;rw[q,f1] at this;simp[Blk.cells] at this
 ·have:=S.pm.mhid;rw[q,u1] at this;cases this
 ·rw[u.get fb (by have:=ee.n;have:=S.fr.lt;omega) (by rw[ee.get _ S.fr.lt,f1];simp[Blk.cells]),ee.get _ S.fr.lt,f1];rfl
 ·rw[u.get b (by have:=ee.n;omega) (by rw[ee.get _ hb,u1];simp),ee.get _ hb,u1]
theorem zcy{N:Nat}{M1:Mc}{body:List Ex}{there:List Nat}{node a:Int}(ho:M1.out=false)(hl:M1.left≠0){e:Ex}(he:body[a.toNat]?=some e) :
  zm p (N+1) M1 body there node a =
   (if e.kind=0 then (⟨1,e.num,[]⟩,{ M1 with left:=M1.left-1 })
    else if e.kind=1 then zH (zm p N) { M1 with left:=M1.left-1 } (there.getD e.num.toNat 0)
    else if e.kind=2 then callM p (zm p N) (zT body there node e.kids { M1 with left:=M1.left-1 }).2 e.num node (zT body there node e.kids { M1 with left:=M1.left-1 }).1
    else if e.kind=3 then (⟨2,e.num,(zT body there node e.kids { M1 with left:=M1.left-1 }).1⟩,(zT body there node e.kids { M1 with left:=M1.left-1 }).2)
    else if e.kind=4 then zbc (zm p N) { M1 with left:=M1.left-1 } body there node e
    else if e.kind=5 then
     let r:=zm p N { M1 with left:=M1.left-1 } body there node (e.kids.getD 0 0)
     if r.2.out=true\/r.1.kind=3 then r
     else if r.1.kind=2/\r.1.num=e.num/\(r.1.parts.length:Int)=e.bind then zm p N r.2 body (there++r.1.parts) node (e.kids.getD 1 0)
     else zm p N r.2 body there node (e.kids.getD 2 0)
    else if e.kind=6 then zm p N (kidM body there node (e.kids.getD 0 0) { M1 with left:=M1.left-1 }).2 body (there++[(kidM body there node (e.kids.getD 0 0) { M1 with left:=M1.left-1 }).1]) node (e.kids.getD 1 0)
    else (zc7,{ M1 with left:=M1.left-1 })):=by
 show (if M1.out=true then _ else _:Fd × Mc)=_;rw[if_neg (by rw[ho];simp)];show (if M1.left=0 then _ else _:Fd × Mc)=_;rw[if_neg hl];show (match body[a.toNat]? with|none=>_|some e=>_:Fd × Mc)=_;rw[he]
set_option maxHeartbeats 1000000 in
theorem j189{N m:Nat}(E:Env8 β t p mb dv N m){body:List Ex}{node:Int}{g1 h1:H}{G1:Gst}{M1:Mc}{fb:Nat}{there:List Nat}{a:Int}(S:PT p mb dv body node g h G g1 h1 G1 M1 fb there a (N+1))(ho:M1.out=false)(hl0:M1.left≠0)
  (k:K β) (l4:Cur β 11) (R:Option β)
  (Hret:∀g2 h2 G2 pv,Stq mb g h G g2 h2 G2->PM p mb dv g2 h2 G2 (zm p (N+1) M1 body there node a).2->SlAt g2 pv (ptrs G2.A (zm p (N+1) M1 body there node a).1.parts)->k (.agg [.int .i64 (zm p (N+1) M1 body there node a).1.kind,.int .i64 (zm p (N+1) M1 body there node a).1.num,pv]) h2=R)
  (Hloop:∀g2 h2 G2 M2 fb2 there2 a2,PT p mb dv body node g h G g2 h2 G2 M2 fb2 there2 a2 N->zm p (N+1) M1 body there node a=zm p N M2 body there2 node a2->∀y4 y5 y6 y7 y8 y9 y10,l4 (.ptr mb 0) (.ptr fb2 0) (.int .i64 a2) (.ptr h.n 0) y4 y5 y6 y7 y8 y9 y10 h2=R)
  {x4 x5 x6 x7 x8 x9 x10:AV} :
  f189_J6 (ze t stdI m) k l4 (.ptr mb 0) (.ptr fb 0) (.int .i64 a) (.ptr h.n 0) x4 x5 x6 x7 x8 x9 x10 h1=R:=by
 obtain⟨e,l,bv,tv,b,o,us,w,he,hl8,hpp,hl,h0,hmem,hbd,hkid,hia,hsw,hst,hn1,hn2,hin,⟨u0,u1,u2,u3⟩,vis⟩:=S.sees β;rw[zcy ho hl0 he] at Hret Hloop;obtain⟨cv,hmb,hmx⟩:=S.pm.m;rw[ho] at hmb;obtain⟨pm2,s2⟩:=S.pm.setM (l:=M1.left-1) (o:=false) ⟨_,_,hmb⟩;have eM:({ M1 with left:=M1.left-1,out:=false }:Mc)={ M1 with left:=M1.left-1 }:=by rw[<- ho]
 rw[eM] at pm2;have w2:WFM p { M1 with left:=M1.left-1 }:=S.wf.left (M1.left-1) M1.out;have gd2:Gds p { M1 with left:=M1.left-1 } there:=S.gd.mono (Mono.left M1 (M1.left-1) M1.out);have ct2:cnt { M1 with left:=M1.left-1 }+1<=1000:=by have:=S.ct;unfold cnt at this ⊢;simp only;omega
 have lf2:({ M1 with left:=M1.left-1 }:Mc).left<N:=by have:=S.lf;show M1.left-1<N;omega
 have hleft:M1.left<=1000:=by have:=S.ct;unfold cnt at this;omega
 obtain⟨l02,e02⟩:=S.l0.step S.pm.gn s2;rw[S.g0] at e02;have s02:=S.st.trans s2;have hmbc:(h1.get mb).cells=some [dv,.int .i64 (M1.left:Int),cv,.bool false]:=by rw[hmb];rfl
 have hmbo:zaG (h1.get mb)=some (0,[dv,.int .i64 (M1.left:Int),cv,.bool false]):=by rw[hmb];rfl
 obtain⟨v1,v2⟩:=vis g1 h1 (Ext.refl g1) S.pm.un;have hset:[dv,.int .i64 (M1.left:Int),cv,.bool false].set 1 (.int .i64 ((M1.left:Int)-1))=[dv,.int .i64 ((M1.left-1:Nat):Int),cv,.bool false]:=by
  rw[show ((M1.left:Int)-1)=((M1.left-1:Nat):Int) by omega];rfl
 obtain⟨h2,eh2⟩:∃h2,h1.set mb (.own 0 [dv,.int .i64 ((M1.left-1:Nat):Int),cv,.bool false])=h2:=⟨_,rfl⟩
 rw[eh2] at pm2 s2 l02 e02 s02;have eh2':h1.set mb (.own 0 [dv,.int .i64 ((M1.left:Int)-1),cv,.bool false])=h2:=by
  rw[show ((M1.left:Int)-1)=((M1.left-1:Nat):Int) by omega];exact eh2
 have hgl:zaG (h2.get h.n)=some (0,[.int .i64 0,.int .i64 0,.nils]):=by rw[e02];rfl
 have hgl1:zaG (h1.get h.n)=some (0,[.int .i64 0,.int .i64 0,.nils]):=by rw[S.g0];rfl
 have hnm:mb≠h.n:=λq=>l02.m q.symm
 obtain⟨v3,v4⟩:=vis g1 h2 (Ext.refl g1) pm2.un;have hpt:∀(x y:Int) (z:AV),zar [AV.int .i64 0,.int .i64 0,.nils] 0 [.int .i64 x,.int .i64 y,z]=[.int .i64 x,.int .i64 y,z]:=λx y z=>rfl
 have hb1:∀(x:Int) (kk:VK β),zy [.int .i64 0,.int .i64 0,.nils] [(0,1),(1,1)] [.int .i64 1,.int .i64 x] (.mk kk)=kk (.agg [.int .i64 1,.int .i64 x,.nils]):=λx kk=>rfl
 have hb3:∀(kk:VK β),zy [.int .i64 0,.int .i64 0,.nils] [(0,1)] [.int .i64 3] (.mk kk)=kk (.agg [.int .i64 3,.int .i64 0,.nils]):=λkk=>rfl
 have ret:∀(x:Fd × Mc) g3 h3 G3 pv,Stq mb g1 h2 G1 g3 h3 G3->PM p mb dv g3 h3 G3 x.2->SlAt g3 pv (ptrs G3.A x.1.parts)->(∀g4 h4 G4 pv',Stq mb g h G g4 h4 G4->PM p mb dv g4 h4 G4 x.2->SlAt g4 pv' (ptrs G4.A x.1.parts)->k (.agg [.int .i64 x.1.kind,.int .i64 x.1.num,pv']) h4=R) ->
   pv.sc=true/\zaG (h3.get h.n)=some (0,[.int .i64 0,.int .i64 0,.nils])/\k (.agg [.int .i64 x.1.kind,.int .i64 x.1.num,pv]) (h3.set h.n (.own 0 [.int .i64 x.1.kind,.int .i64 x.1.num,pv]))=R:=by
  intro x g3 h3 G3 pv s3 pm3 q3 H;obtain⟨l3,e3⟩:=l02.step pm2.gn s3;rw[e02] at e3;exact⟨q3.sc,by rw[e3];rfl,H _ _ G3 pv ((s02.trans s3).setL (i:=h.n) (Nat.le_refl _) _) (pm3.setL l3 _) q3⟩
 by_cases c0:e.kind=0
 ·rw[if_pos c0] at Hret;have fin:=(ret (⟨1,e.num,[]⟩,{ M1 with left:=M1.left-1 }) g1 h2 G1 .nils pm2.stp pm2 (.inl ⟨rfl,rfl⟩) Hret).2.2;unfold f189_J6;simp (disch:=first|omega|simp only[zD]<;>omega|assumption) only[↓zR,↓zRM,zR,zRM,reduceAdd,reduceMul,reduceToNat,zN,hmbc,hmbo,hset,eh2,eh2',v1,v2,v3,v4,hia,u0,u1,u2,u3,hgl,hgl1,hpt,eq_true c0,hb1];exact fin
 rw[if_neg c0] at Hret Hloop
 by_cases c1:e.kind=1
 ·rw[if_pos c1] at Hret;have hvn:0<=e.num/\e.num<=l-1:=by unfold zq at hpp;omega
  obtain⟨tb,to,tus,t1,t2,t3,t4⟩:=SlAt.ptr (β:=β) hst (j:=e.num.toNat) (x:=.ptr (G1.A.getD (there.getD e.num.toNat 0) 0) 0) (zbR (by omega));rw[show ((e.num.toNat:Nat):Int)=e.num by omega] at t1;have hn3:mb≠tb:=λq=>by have:=S.pm.mhid;rw[q,t3] at this;cases this
  have t5:(h1.get tb).cells=some tus:=by rw[S.pm.un.get tb t2 (by rw[t3];simp),t3]
  have t6:(h2.get tb).cells=some tus:=by rw[pm2.un.get tb t2 (by rw[t3];simp),t3]
  have hgk:Gd p { M1 with left:=M1.left-1 } (there.getD e.num.toNat 0):=by
   have:e.num.toNat<there.length:=by omega
   rw[List.getD_eq_getElem?_getD,List.getElem?_eq_getElem this];exact gd2 _ (List.getElem_mem this)
  have W:=E.TN.w190 (β:=β) E.ih1 (Mono.part p N) pm2 w2 (by omega) lf2 (let ⟨c,q1,q2⟩:=hgk;⟨c,q1,λ_=>q2⟩);rw[show m-1+1=m by have:=E.hm;omega] at W;unfold f189_J6;simp (disch:=first|omega|simp only[zD]<;>omega|assumption) only[↓zR,↓zRM,zR,zRM,reduceAdd,reduceMul,reduceToNat,zN,hmbc,hmbo,hset,eh2,eh2',v1,v2,v3,v4,hia,u0,u1,u2,u3,hgl,hgl1,hpt,eq_false c0,eq_true c1,t1,t4,t5,t6];refine W _ _ ?_;intro u h3 hu;refine Exists.elim hu λg3 hq=>Exists.elim hq λG3 hq=>Exists.elim hq.2.2 λpv hp=>?_
  have eu:=hp.1;have fin:=ret _ g3 h3 G3 pv hq.1 hq.2.1 hp.2 Hret;have f1:=fin.1;have f2:=fin.2.1;simp (disch:=first|omega|simp only[zD]<;>omega|assumption) only[↓zR,↓zRM,zR,zRM,reduceAdd,reduceMul,reduceToNat,eu,f1,f2,hpt];exact fin.2.2
 rw[if_neg c1] at Hret Hloop;have hm1:m-1+1=m:=by have:=E.hm;omega
 have hk3:=hpp.kids;have allk:(e.kind≠5/\e.kind≠6)->∀x ∈ e.kids,zp p body there x:=λh x hx=>by
  obtain⟨q,hq⟩:=List.mem_iff_getElem?.1 hx;exact (hkid q x hq).2.2 there (by rw[zh (.inr h),hl];omega)
 have mk:=Mono.kids body there node e.kids { M1 with left:=M1.left-1 };have ck:=zdL body there node e.kids { M1 with left:=M1.left-1 };have lk:(zT body there node e.kids { M1 with left:=M1.left-1 }).2.left<N:=by
  have q2:=mk.calls.length_le;unfold cnt at ck;simp only at ck q2 lf2;omega
 by_cases c2:e.kind=2
 ·rw[if_pos c2] at Hret;obtain⟨w3,gd3,len3⟩:=zaS (node:=node) e.kids (allk (by omega)) gd2 w2;obtain⟨hn0,hnl,hfr⟩:=zaV E.hp hbd hmem c2 hpp len3;have W:=E.TN.w216 (β:=β) m pm2 w2 S.fr gd2 hsw hk3 (allk (by omega)) (by have:=E.hm;omega);unfold f189_J6;simp (disch:=first|omega|simp only[zD]<;>omega|assumption) only[↓zR,↓zRM,zR,zRM,reduceAdd,reduceMul,reduceToNat,zN,hmbc,hmbo,hset,eh2,eh2',v1,v2,v3,v4,hia,u0,u1,u2,u3,hgl,hgl1,hpt,eq_false c0,eq_false c1,eq_true c2];refine W _ _ ?_;intro u h3 hu;refine Exists.elim hu λg3 hq=>Exists.elim hq λG3 hq=>?_
  have st3:=hq.1;have pm3:=hq.2.1;have W2:=E.TN.w158 (β:=β) E.ih1 (Mono.part p N) pm3 w3 (by rw[ck];omega) lk (fn:=e.num) (parent:=node) (args:=(zT body there node e.kids { M1 with left:=M1.left-1 }).1) (av:=u) hq.2.2.1 (by rw[len3];exact hq.2.2.2) gd3 hfr ⟨hn0,hnl⟩ E.hlen;rw[hm1] at W2;have v5:=(vis g3 h3 st3.eg pm3.un).1;have v6:=(vis g3 h3 st3.eg pm3.un).2;simp (disch:=first|omega|simp only[zD]<;>omega|assumption) only[↓zR,↓zRM,zR,zRM,reduceAdd,reduceMul,reduceToNat,v5,v6,u0,u1,u2,u3,zcD];refine W2 _ _ ?_;intro u4 h4 hu4;refine Exists.elim hu4 λg4 hr=>Exists.elim hr λG4 hr=>Exists.elim hr.2.2 λpv hp=>?_
  have eu:=hp.1;have fin:=ret _ g4 h4 G4 pv (st3.trans hr.1) hr.2.1 hp.2 Hret;have f1:=fin.1;have f2:=fin.2.1;simp (disch:=first|omega|simp only[zD]<;>omega|assumption) only[↓zR,↓zRM,zR,zRM,reduceAdd,reduceMul,reduceToNat,eu,f1,f2,hpt];exact fin.2.2
 rw[if_neg c2] at Hret Hloop
 by_cases c3:e.kind=3
 ·rw[if_pos c3] at Hret;obtain⟨w3,gd3,len3⟩:=zaS (node:=node) e.kids (allk (by omega)) gd2 w2;have W:=E.TN.w216 (β:=β) m pm2 w2 S.fr gd2 hsw hk3 (allk (by omega)) (by have:=E.hm;omega);have hb2:∀(x:AV) (kk:VK β),x.sc=true->zy [.int .i64 0,.int .i64 0,.nils] [(0,1),(1,1),(2,1)] [.int .i64 2,.int .i64 e.num,x] (.mk kk)=kk (.agg [.int .i64 2,.int .i64 e.num,x]):=λx kk hx=>by
   cases x<;>first|rfl|(simp[AV.sc] at hx)
  unfold f189_J6;simp (disch:=first|omega|simp only[zD]<;>omega|assumption) only[↓zR,↓zRM,zR,zRM,reduceAdd,reduceMul,reduceToNat,zN,hmbc,hmbo,hset,eh2,eh2',v1,v2,v3,v4,hia,u0,u1,u2,u3,hgl,hgl1,hpt,eq_false c0,eq_false c1,eq_false c2,eq_true c3];refine W _ _ ?_;intro u h3 hu;refine Exists.elim hu λg3 hq=>Exists.elim hq λG3 hq=>?_
  have st3:=hq.1;have pm3:=hq.2.1;have v5:=(vis g3 h3 st3.eg pm3.un).1;have v6:=(vis g3 h3 st3.eg pm3.un).2;have fin:=ret (⟨2,e.num,(zT body there node e.kids { M1 with left:=M1.left-1 }).1⟩,(zT body there node e.kids { M1 with left:=M1.left-1 }).2) g3 h3 G3 u st3 pm3 hq.2.2.1 Hret;have f1:=fin.1;have f2:=fin.2.1;have hb2':=λkk:VK β=>hb2 u kk f1
  simp (disch:=first|omega|simp only[zD]<;>omega|assumption) only[↓zR,↓zRM,zR,zRM,reduceAdd,reduceMul,reduceToNat,v5,v6,u0,u1,u2,u3,zcD,hb2',f1,f2,hpt];exact fin.2.2
 rw[if_neg c3] at Hret Hloop
 by_cases c4:e.kind=4
 ·rw[if_pos c4] at Hret;have hk2:=hpp.kids2 (.inl c4);have hop:0<=e.num/\e.num<=4:=by unfold zq at hpp;omega
  have W:=E.TN.w217 (β:=β) E.TM E.T E.ih1 (zbi E.hp N) (Mono.part p N) (zdc p N) (by have:=E.hm;omega) pm2 w2 (by omega) lf2 S.fr gd2 hin hsw hk2 hop (λq hq=>(hkid q _ (zt e (by omega))).2.2 there (by rw[zh (.inr (by omega)),hl];omega));rw[hm1] at W;unfold f189_J6;simp (disch:=first|omega|simp only[zD]<;>omega|assumption) only[↓zR,↓zRM,zR,zRM,reduceAdd,reduceMul,reduceToNat,zN,hmbc,hmbo,hset,eh2,eh2',v1,v2,v3,v4,hia,u0,u1,u2,u3,hgl,hgl1,hpt,eq_false c0,eq_false c1,eq_false c2,eq_false c3,eq_true c4];refine W _ _ ?_;intro u h3 hu;refine Exists.elim hu λg3 hq=>Exists.elim hq λG3 hq=>Exists.elim hq.2.2 λpv hp=>?_
  have eu:=hp.1;have fin:=ret _ g3 h3 G3 pv hq.1 hq.2.1 hp.2 Hret;have f1:=fin.1;have f2:=fin.2.1;simp (disch:=first|omega|simp only[zD]<;>omega|assumption) only[↓zR,↓zRM,zR,zRM,reduceAdd,reduceMul,reduceToNat,eu,f1,f2,hpt];exact fin.2.2
 rw[if_neg c4] at Hret Hloop
 by_cases c5:e.kind=5
 ·rw[if_pos c5] at Hret Hloop;have hk3':=hpp.kids3 c5;have f0:=(hkid 0 _ (zt e (by omega))).2.2 there (by rw[zh (.inl (by omega)),hl];omega);have f2:=(hkid 2 _ (zt e (by omega))).2.2 there (by rw[zh (.inl (by omega)),hl];omega);have f1:∀t':List Nat,(t'.length:Int)=l+e.bind->zp p body t' (e.kids.getD 1 0):=λt' ht=>(hkid 1 _ (zt e (by omega))).2.2 t' (by
   have:more e (1:Nat)=e.bind:=by unfold more;rw[if_pos (by rfl),if_pos c5]
   rw[this];exact ht)
  obtain⟨kb0,ko0,ku0,i0,y0,z0,j0⟩:=SlAt.ptr (β:=β) hsw (j:=0) (x:=.int .i64 (e.kids.getD 0 0)) (by rw[zaT (by omega)]);obtain⟨kb1,ko1,ku1,i1,y1,z1,j1⟩:=SlAt.ptr (β:=β) hsw (j:=1) (x:=.int .i64 (e.kids.getD 1 0)) (by rw[zaT (by omega)]);obtain⟨kb2,ko2,ku2,i2,y2,z2,j2⟩:=SlAt.ptr (β:=β) hsw (j:=2) (x:=.int .i64 (e.kids.getD 2 0)) (by rw[zaT (by omega)]);have i0':∀kk:VK β,zO 1 w (.int .i64 0) (.mk kk)=kk (.ptr kb0 ko0):=i0;have i1':∀kk:VK β,zO 1 w (.int .i64 1) (.mk kk)=kk (.ptr kb1 ko1):=i1;have i2':∀kk:VK β,zO 1 w (.int .i64 2) (.mk kk)=kk (.ptr kb2 ko2):=i2;have vk:∀kb ku,kb<g1.n->(g1.get kb).cells=some ku->∀g2 h2,Ext g1 g2->Un g2 h2->(h2.get kb).cells=some ku:=λkb ku hlt hz g2 h2 ee u=>by
   rw[u.get kb (by have:=ee.n;omega) (by rw[ee.get _ hlt,hz];simp),ee.get _ hlt,hz]
  have nk0:mb≠kb0:=λq=>by have:=S.pm.mhid;rw[q,z0] at this;cases this
  have zz0:=vk kb0 ku0 y0 z0 g1 h1 (Ext.refl g1) S.pm.un;have zy0:=vk kb0 ku0 y0 z0 g1 h2 (Ext.refl g1) pm2.un;have W:=E.ih g1 h2 G1 { M1 with left:=M1.left-1 } fb body there node (e.kids.getD 0 0) pm2 w2 (by omega) lf2 S.fr gd2 f0;have wok:=zbi E.hp N { M1 with left:=M1.left-1 } body there node (e.kids.getD 0 0) w2 f0 gd2;have mok:=Mono.part p N { M1 with left:=M1.left-1 } body there node (e.kids.getD 0 0);have cok:=zdc p N { M1 with left:=M1.left-1 } body there node (e.kids.getD 0 0);generalize zm p N { M1 with left:=M1.left-1 } body there node (e.kids.getD 0 0)=r at W wok mok cok Hret Hloop;have rlf:r.2.left<N:=by
   have q2:=mok.calls.length_le;unfold cnt at cok;simp only at cok q2 lf2;omega
  have gd3:=gd2.mono mok;have wch:=λkk:VK β=>SlAt.chk (β:=β) hsw kk
  have post:∀(u:AV) (h3:H),(∃g' G',Stq mb g1 h2 G1 g' h3 G'/\PM p mb dv g' h3 G' r.2/\∃pv,u = .agg [.int .i64 r.1.kind,.int .i64 r.1.num,pv]/\SlAt g' pv (ptrs G'.A r.1.parts)) ->
    ∃pv cv3 h5,u = .agg [.int .i64 r.1.kind,.int .i64 r.1.num,pv]/\pv.sc=true/\(h3.push (.own 0 [.int .i64 0,.int .i64 0,.nils])).set h3.n (.own 0 [.int .i64 r.1.kind,.int .i64 r.1.num,pv])=h5 /\
     (mb<h3.n/\h.n<h3.n/\fb<h3.n/\b<h3.n/\kb1<h3.n/\kb2<h3.n) /\
     ((h3.get mb).cells=some [dv,.int .i64 (r.2.left:Int),cv3,.bool r.2.out]/\(h5.get mb).cells=some [dv,.int .i64 (r.2.left:Int),cv3,.bool r.2.out]) /\
     ((h5.get h3.n).cells=some [.int .i64 r.1.kind,.int .i64 r.1.num,pv]/\zaG (h3.get h.n)=some (0,[.int .i64 0,.int .i64 0,.nils])/\zaG (h5.get h.n)=some (0,[.int .i64 0,.int .i64 0,.nils])) /\
     (((h3.get fb).cells=some [bv,tv,.int .i64 node]/\(h3.get b).cells=some us/\(h3.get kb1).cells=some ku1/\(h3.get kb2).cells=some ku2)/\(h5.get fb).cells=some [bv,tv,.int .i64 node]/\(h5.get b).cells=some us/\(h5.get kb1).cells=some ku1/\(h5.get kb2).cells=some ku2) /\
     (∀kc:VK β,qLenL pv (.mk kc)=kc (.int .i64 (r.1.parts.length:Int))) /\
     ((r.2.out=true\/r.1.kind=3)->k (.agg [.int .i64 r.1.kind,.int .i64 r.1.num,pv]) (h5.set h.n (.own 0 [.int .i64 r.1.kind,.int .i64 r.1.num,pv]))=R) /\
     (¬(r.2.out=true\/r.1.kind=3)->(r.1.kind=2/\r.1.num=e.num/\(r.1.parts.length:Int)=e.bind)->∃Q:AV->H->Prop,Sp (β:=β) (ze t stdI m (.fn 218 []) [.ptr fb 0,pv] h5) Q/\∀u6 h6,Q u6 h6->∃fb6,u6 = .ptr fb6 0/\(h6.get b).cells=some us/\(h6.get kb1).cells=some ku1 /\
      ∀y4 y5 y6 y7 y8 y9 y10,l4 (.ptr mb 0) (.ptr fb6 0) (.int .i64 (e.kids.getD 1 0)) (.ptr h.n 0) y4 y5 y6 y7 y8 y9 y10 h6=R) /\
     (¬(r.2.out=true\/r.1.kind=3)->¬(r.1.kind=2/\r.1.num=e.num/\(r.1.parts.length:Int)=e.bind)->∀y4 y5 y6 y7 y8 y9 y10,l4 (.ptr mb 0) (.ptr fb 0) (.int .i64 (e.kids.getD 2 0)) (.ptr h.n 0) y4 y5 y6 y7 y8 y9 y10 h5=R):=by
   rintro u h3 ⟨g3,G3,s3,pm3,pv,eu,q3⟩
   obtain⟨l3,e3⟩:=l02.step pm2.gn s3;rw[e02] at e3;obtain⟨pm4,s4⟩:=pm3.pushH (.own 0 [.int .i64 0,.int .i64 0,.nils]);have l4':=pm3.loc (.own 0 [.int .i64 0,.int .i64 0,.nils]);obtain⟨l34,e34⟩:=l3.step pm3.gn s4;rw[e3] at e34;have pm5:=pm4.setL l4' (.own 0 [.int .i64 r.1.kind,.int .i64 r.1.num,pv]);have s05:=((s02.trans s3).trans s4).setL (i:=h3.n) (by have:=l3.lt;omega) (.own 0 [.int .i64 r.1.kind,.int .i64 r.1.num,pv]);have eg5:Ext g1 (g3.push .dead):=s3.eg.push _;obtain⟨cv3,hm3,_⟩:=pm3.m;have ltm:mb<h3.n:=by rw[<- pm3.gn];exact pm3.mlt
   have hl3:=l3.lt;have gn1:=S.pm.gn;have n23:h2.n=h1.n:=by rw[<- eh2];exact H.n_set _ _ _
   have hs3n:=s3.hn;have hfl:=S.fr.lt;have hbl:=hin.1;have hgo:(((h3.push (.own 0 [.int .i64 0,.int .i64 0,.nils])).set h3.n (.own 0 [.int .i64 r.1.kind,.int .i64 r.1.num,pv])).get h.n) = .own 0 [.int .i64 0,.int .i64 0,.nils]:=by rw[zg (by omega),e34]
   have fr5:=S.fr.step eg5 s3.A (λq hq=>by rw[S.pm.alen];exact S.gd.lt q hq);have q5:SlAt (g3.push .dead) pv (ptrs G3.A r.1.parts):=q3.ext s4.eg;refine⟨pv,cv3,_,eu,q3.sc,rfl,⟨ltm,hl3,by omega,by omega,by omega,by omega⟩,⟨by rw[hm3];rfl,?_⟩,⟨by rw[zB rfl];rfl,by rw[e3];rfl,by rw[hgo];rfl⟩,⟨⟨(vis g3 h3 s3.eg pm3.un).1,(vis g3 h3 s3.eg pm3.un).2,vk kb1 ku1 y1 z1 g3 h3 s3.eg pm3.un,vk kb2 ku2 y2 z2 g3 h3 s3.eg pm3.un⟩,(vis _ _ eg5 pm5.un).1,(vis _ _ eg5 pm5.un).2,vk kb1 ku1 y1 z1 _ _ eg5 pm5.un,vk kb2 ku2 y2 z2 _ _ eg5 pm5.un⟩,λkc=>by rw[q3.len,zC],λhc=>?_,λhc hd=>?_,λhc hd y4 y5 y6 y7 y8 y9 y10=>?_⟩
   ·rw[zg (by omega),zc (by omega),hm3];rfl
   ·have H:=Hret;rw[if_pos hc] at H;exact H _ _ G3 pv (s05.setL (i:=h.n) (Nat.le_refl _) _) (pm5.setL (l34.set _) _) q5
   ·have W6:=E.TN.w218 (β:=β) m (by have:=E.hm;omega) pm5 fr5 (ms:=r.1.parts) q5 (by have:=hd.2.2;have:=hpp.bind;omega);refine⟨_,W6,?_⟩
    rintro u6 h6 ⟨g6,fb6,s6,pm6,eu6,fr6⟩
    obtain⟨l6,e6⟩:=(l34.set (j:=h3.n) (.own 0 [.int .i64 r.1.kind,.int .i64 r.1.num,pv])).step pm5.gn s6;rw[hgo] at e6;have eg6:=eg5.trans s6.eg;refine⟨fb6,eu6,(vis _ _ eg6 pm6.un).2,vk kb1 ku1 y1 z1 _ _ eg6 pm6.un,λy4 y5 y6 y7 y8 y9 y10=>?_⟩;refine Hloop g6 h6 G3 r.2 fb6 (there++r.1.parts) (e.kids.getD 1 0) ⟨s05.trans s6,pm6,wok.1,by omega,rlf,l6,e6,fr6,gd3.app wok.2,f1 _ (by rw[List.length_append];have:=hd.2.2;omega)⟩ ?_ y4 y5 y6 y7 y8 y9 y10;show (if _ then _ else _:Fd × Mc)=_;rw[if_neg hc,if_pos hd]
   ·refine Hloop _ _ G3 r.2 fb there (e.kids.getD 2 0) ⟨s05,pm5,wok.1,by omega,rlf,l34.set _,hgo,fr5,gd3,f2⟩ ?_ y4 y5 y6 y7 y8 y9 y10;show (if _ then _ else _:Fd × Mc)=_;rw[if_neg hc,if_neg hd]
  unfold f189_J6;simp (disch:=first|omega|simp only[zD]<;>omega|assumption) only[↓zR,↓zRM,zR,zRM,reduceAdd,reduceMul,reduceToNat,zN,hmbc,hmbo,hset,eh2,eh2',v1,v2,v3,v4,hia,u0,u1,u2,u3,hgl,hgl1,hpt,eq_false c0,eq_false c1,eq_false c2,eq_false c3,eq_false c4,eq_true c5,i0',zz0,zy0,j0];refine W _ _ ?_;intro u h3 hu;refine Exists.elim (post u h3 hu) λpv hq=>Exists.elim hq λcv3 hq=>Exists.elim hq λh5 hq=>?_
  have eu:=hq.1;have psc:=hq.2.1;have eh5:=hq.2.2.1;have lt1:=hq.2.2.2.1.1;have lt2:=hq.2.2.2.1.2.1;have lt3:=hq.2.2.2.1.2.2.1;have lt4:=hq.2.2.2.1.2.2.2.1;have lt5:=hq.2.2.2.1.2.2.2.2.1;have lt6:=hq.2.2.2.1.2.2.2.2.2;have m3:=hq.2.2.2.2.1.1;have m5:=hq.2.2.2.2.1.2;have x5:=hq.2.2.2.2.2.1.1;have o3:=hq.2.2.2.2.2.1.2.1;have o5:=hq.2.2.2.2.2.1.2.2;have s1:=hq.2.2.2.2.2.2.1.1.1;have s2':=hq.2.2.2.2.2.2.1.1.2.1;have s3:=hq.2.2.2.2.2.2.1.1.2.2.1;have s4:=hq.2.2.2.2.2.2.1.1.2.2.2;have s5:=hq.2.2.2.2.2.2.1.2.1;have s6:=hq.2.2.2.2.2.2.1.2.2.1;have s7:=hq.2.2.2.2.2.2.1.2.2.2.1;have s8:=hq.2.2.2.2.2.2.1.2.2.2.2;have pl:=hq.2.2.2.2.2.2.2.1;have Fr:=hq.2.2.2.2.2.2.2.2.1;have Ft:=hq.2.2.2.2.2.2.2.2.2.1;have Fe:=hq.2.2.2.2.2.2.2.2.2.2
  by_cases ho1:r.2.out=true
  ·rw[ho1] at m3 m5;have fin:=Fr (.inl ho1);simp (disch:=first|omega|simp only[zD]<;>omega|assumption) only[↓zR,↓zRM,zR,zRM,reduceAdd,reduceMul,reduceToNat,zN,eu,psc,hpt,eh5,m3,m5,x5,o3,o5];exact fin
  ·have ho2:r.2.out=false:=by simpa using ho1
   rw[ho2] at m3 m5
   by_cases ck3:r.1.kind=3
   ·have fin:=Fr (.inr ck3);simp (disch:=first|omega|simp only[zD]<;>omega|assumption) only[↓zR,↓zRM,zR,zRM,reduceAdd,reduceMul,reduceToNat,zN,eu,psc,hpt,eh5,m3,m5,x5,o3,o5,eq_true ck3];exact fin
   ·have hnc:¬(r.2.out=true\/r.1.kind=3):=λhh=>hh.elim ho1 ck3
    by_cases d1:r.1.kind=2
    ·by_cases d2:r.1.num=e.num
     ·by_cases d3:(r.1.parts.length:Int)=e.bind
      ·refine Exists.elim (Ft hnc ⟨d1,d2,d3⟩) λQ hQ=>?_
       simp (disch:=first|omega|simp only[zD]<;>omega|assumption) only[↓zR,↓zRM,zR,zRM,reduceAdd,reduceMul,reduceToNat,zN,eu,psc,hpt,eh5,m3,m5,x5,o3,o5,s1,s2',s3,s4,s5,s6,s7,s8,pl,u0,u1,u2,u3,zcD,i1',i2',j1,j2,wch,eq_false ck3,eq_true d1,eq_true d2,eq_true d3];refine hQ.1 _ _ ?_;intro u6 h6 hu6;refine Exists.elim (hQ.2 u6 h6 hu6) λfb6 hz=>?_
       have eu6:=hz.1;have zb:=hz.2.1;have zk:=hz.2.2.1;simp (disch:=first|omega|simp only[zD]<;>omega|assumption) only[↓zR,↓zRM,zR,zRM,reduceAdd,reduceMul,reduceToNat,zN,eu6,zb,zk,u3,i1',j1,zcD,wch];exact hz.2.2.2 _ _ _ _ _ _ _
      ·have F:=Fe hnc (λhh=>d3 hh.2.2);simp (disch:=first|omega|simp only[zD]<;>omega|assumption) only[↓zR,↓zRM,zR,zRM,reduceAdd,reduceMul,reduceToNat,zN,eu,psc,hpt,eh5,m3,m5,x5,o3,o5,s1,s2',s3,s4,s5,s6,s7,s8,pl,u0,u1,u2,u3,zcD,i1',i2',j1,j2,wch,eq_false ck3,eq_true d1,eq_true d2,eq_false d3];exact F _ _ _ _ _ _ _
     ·have F:=Fe hnc (λhh=>d2 hh.2.1);simp (disch:=first|omega|simp only[zD]<;>omega|assumption) only[↓zR,↓zRM,zR,zRM,reduceAdd,reduceMul,reduceToNat,zN,eu,psc,hpt,eh5,m3,m5,x5,o3,o5,s1,s2',s3,s4,s5,s6,s7,s8,pl,u0,u1,u2,u3,zcD,i1',i2',j1,j2,wch,eq_false ck3,eq_true d1,eq_false d2];exact F _ _ _ _ _ _ _
    ·have F:=Fe hnc (λhh=>d1 hh.1);simp (disch:=first|omega|simp only[zD]<;>omega|assumption) only[↓zR,↓zRM,zR,zRM,reduceAdd,reduceMul,reduceToNat,zN,eu,psc,hpt,eh5,m3,m5,x5,o3,o5,s1,s2',s3,s4,s5,s6,s7,s8,pl,u0,u1,u2,u3,zcD,i1',i2',j1,j2,wch,eq_false ck3,eq_false d1];exact F _ _ _ _ _ _ _
 rw[if_neg c5] at Hret Hloop
 by_cases c6:e.kind=6
 ·rw[if_pos c6] at Hloop;have hk2':=hpp.kids2 (.inr c6);have f0:=(hkid 0 _ (zt e (by omega))).2.2 there (by rw[zh (.inl (by omega)),hl];omega);have f1:∀t':List Nat,(t'.length:Int)=l+1->zp p body t' (e.kids.getD 1 0):=λt' ht=>(hkid 1 _ (zt e (by omega))).2.2 t' (by
   have:more e (1:Nat)=1:=by unfold more;rw[if_pos (by rfl),if_neg c5,if_pos c6]
   rw[this];exact ht)
  obtain⟨kb0,ko0,ku0,i0,y0,z0,j0⟩:=SlAt.ptr (β:=β) hsw (j:=0) (x:=.int .i64 (e.kids.getD 0 0)) (by rw[zaT (by omega)]);obtain⟨kb1,ko1,ku1,i1,y1,z1,j1⟩:=SlAt.ptr (β:=β) hsw (j:=1) (x:=.int .i64 (e.kids.getD 1 0)) (by rw[zaT (by omega)]);have i0':∀kk:VK β,zO 1 w (.int .i64 0) (.mk kk)=kk (.ptr kb0 ko0):=i0;have i1':∀kk:VK β,zO 1 w (.int .i64 1) (.mk kk)=kk (.ptr kb1 ko1):=i1;have vk:∀kb ku,kb<g1.n->(g1.get kb).cells=some ku->∀g2 h2,Ext g1 g2->Un g2 h2->(h2.get kb).cells=some ku:=λkb ku hlt hz g2 h2 ee u=>by
   rw[u.get kb (by have:=ee.n;omega) (by rw[ee.get _ hlt,hz];simp),ee.get _ hlt,hz]
  have nk0:mb≠kb0:=λq=>by have:=S.pm.mhid;rw[q,z0] at this;cases this
  have nk1:mb≠kb1:=λq=>by have:=S.pm.mhid;rw[q,z1] at this;cases this
  have zz0:=vk kb0 ku0 y0 z0 g1 h1 (Ext.refl g1) S.pm.un;have zy0:=vk kb0 ku0 y0 z0 g1 h2 (Ext.refl g1) pm2.un;have zz1:=vk kb1 ku1 y1 z1 g1 h1 (Ext.refl g1) S.pm.un;have zy1:=vk kb1 ku1 y1 z1 g1 h2 (Ext.refl g1) pm2.un;have W:=E.TN.w219 (β:=β) m (by have:=E.hm;omega) pm2 w2 S.fr gd2 f0;have wok:=zcj (node:=node) f0 gd2 w2;have mok:=Mono.kid body there node (e.kids.getD 0 0) { M1 with left:=M1.left-1 };have cok:=zhx body there node (e.kids.getD 0 0) { M1 with left:=M1.left-1 };have hloop:∀g2 h2 G2 fb2,PT p mb dv body node g h G g2 h2 G2 (kidM body there node (e.kids.getD 0 0) { M1 with left:=M1.left-1 }).2 fb2 (there++[(kidM body there node (e.kids.getD 0 0) { M1 with left:=M1.left-1 }).1]) (e.kids.getD 1 0) N->∀y4 y5 y6 y7 y8 y9 y10,l4 (.ptr mb 0) (.ptr fb2 0) (.int .i64 (e.kids.getD 1 0)) (.ptr h.n 0) y4 y5 y6 y7 y8 y9 y10 h2=R:=λg2 h2 G2 fb2 P=>Hloop g2 h2 G2 _ fb2 _ _ P rfl
  clear Hloop Hret;generalize kidM body there node (e.kids.getD 0 0) { M1 with left:=M1.left-1 }=r at W wok mok cok hloop;have rlf:r.2.left<N:=by
   have q2:=mok.calls.length_le;unfold cnt at cok;simp only at cok q2 lf2;omega
  have gd3:=gd2.mono mok;have wch:=λkk:VK β=>SlAt.chk (β:=β) hsw kk
  have post:∀(u:AV) (h3:H),(∃g' G',Stq mb g1 h2 G1 g' h3 G'/\PM p mb dv g' h3 G' r.2/\u = .ptr (G'.A.getD r.1 0) 0) ->
    ∃ad,u = .ptr ad 0/\(b<h3.n/\kb1<h3.n)/\((h3.get b).cells=some us/\(h3.get kb1).cells=some ku1) /\
     ((h3.push (.own 0 [.ptr ad 0])).get b).cells=some us/\((h3.push (.own 0 [.ptr ad 0])).get kb1).cells=some ku1 /\
     ∃Q:AV->H->Prop,Sp (β:=β) (ze t stdI m (.fn 218 []) [.ptr fb 0,.sl h3.n 0 1 1 none] (h3.push (.own 0 [.ptr ad 0]))) Q/\∀u6 h6,Q u6 h6->∃fb6,u6 = .ptr fb6 0/\(h6.get b).cells=some us/\(h6.get kb1).cells=some ku1 /\
      ∀y4 y5 y6 y7 y8 y9 y10,l4 (.ptr mb 0) (.ptr fb6 0) (.int .i64 (e.kids.getD 1 0)) (.ptr h.n 0) y4 y5 y6 y7 y8 y9 y10 h6=R:=by
   rintro u h3 ⟨g3,G3,s3,pm3,eu⟩
   obtain⟨l3,e3⟩:=l02.step pm2.gn s3;rw[e02] at e3;obtain⟨pm4,s4⟩:=pm3.pushV (.own 0 [.ptr (G3.A.getD r.1 0) 0]);obtain⟨l4',e4⟩:=l3.step pm3.gn s4;rw[e3] at e4;have eg4:Ext g1 (g3.push (.own 0 [.ptr (G3.A.getD r.1 0) 0])):=s3.eg.trans s4.eg;have gn1:=S.pm.gn;have n23:h2.n=h1.n:=by rw[<- eh2];exact H.n_set _ _ _
   have hs3n:=s3.hn;have hbl:=hin.1;have fr4:=S.fr.step eg4 s3.A (λq hq=>by rw[S.pm.alen];exact S.gd.lt q hq);have sl4:SlAt (g3.push (.own 0 [.ptr (G3.A.getD r.1 0) 0])) (.sl h3.n 0 1 1 none) (ptrs G3.A [r.1]):=.inr ⟨h3.n,0,1,none,[.ptr (G3.A.getD r.1 0) 0],rfl,by rw[H.n_push,pm3.gn];omega,by rw[zf pm3.gn];rfl,rfl,by simp[ptrs]⟩;have W6:=E.TN.w218 (β:=β) m (by have:=E.hm;omega) pm4 fr4 (ms:=[r.1]) sl4 (by simp;omega);refine⟨_,eu,⟨by omega,by omega⟩,⟨(vis g3 h3 s3.eg pm3.un).2,vk kb1 ku1 y1 z1 g3 h3 s3.eg pm3.un⟩,(vis _ _ eg4 pm4.un).2,vk kb1 ku1 y1 z1 _ _ eg4 pm4.un,_,W6,?_⟩
   rintro u6 h6 ⟨g6,fb6,s6,pm6,eu6,fr6⟩
   obtain⟨l6,e6⟩:=l4'.step pm4.gn s6;rw[e4] at e6;have eg6:=eg4.trans s6.eg;refine⟨fb6,eu6,(vis _ _ eg6 pm6.un).2,vk kb1 ku1 y1 z1 _ _ eg6 pm6.un,λy4 y5 y6 y7 y8 y9 y10=>?_⟩;exact hloop g6 h6 G3 fb6 ⟨((s02.trans s3).trans s4).trans s6,pm6,wok.1,by omega,rlf,l6,e6,fr6,gd3.app (Gds.one wok.2),f1 _ (by rw[List.length_append];simp;omega)⟩ y4 y5 y6 y7 y8 y9 y10
  have hbs:∀(x:Nat) (hh:H) (kk:K β),zP 0 [.nilp] 1 [(0,1)] [.ptr x 0] hh (.mk kk)=kk (.sl hh.n 0 1 1 none) (hh.push (.own 0 [.ptr x 0])):=λx hh kk=>zb6 rfl hh kk
  unfold f189_J6;simp (disch:=first|omega|simp only[zD]<;>omega|assumption) only[↓zR,↓zRM,zR,zRM,reduceAdd,reduceMul,reduceToNat,zN,hmbc,hmbo,hset,eh2,eh2',v1,v2,v3,v4,hia,u0,u1,u2,u3,hgl,hgl1,hpt,eq_false c0,eq_false c1,eq_false c2,eq_false c3,eq_false c4,eq_false c5,eq_true c6,i0',i1',zz0,zy0,zz1,zy1,j0,j1];refine W _ _ ?_;intro u h3 hu;refine Exists.elim (post u h3 hu) λad hq=>?_
  have eu:=hq.1;have lt1:=hq.2.1.1;have lt2:=hq.2.1.2;have s1:=hq.2.2.1.1;have s2':=hq.2.2.1.2;have s3:=hq.2.2.2.1;have s4:=hq.2.2.2.2.1;refine Exists.elim hq.2.2.2.2.2 λQ hQ=>?_
  simp (disch:=first|omega|simp only[zD]<;>omega|assumption) only[↓zR,↓zRM,zR,zRM,reduceAdd,reduceMul,reduceToNat,zN,eu,s1,s2',s3,s4,u3,j1,i1',zcD,wch,↓hbs];refine hQ.1 _ _ ?_;intro u6 h6 hu6;refine Exists.elim (hQ.2 u6 h6 hu6) λfb6 hz=>?_
  have eu6:=hz.1;have zb:=hz.2.1;have zk:=hz.2.2.1;simp (disch:=first|omega|simp only[zD]<;>omega|assumption) only[↓zR,↓zRM,zR,zRM,reduceAdd,reduceMul,reduceToNat,zN,eu6,zb,zk,u3,i1',j1,zcD,wch];exact hz.2.2.2 _ _ _ _ _ _ _
 rw[if_neg c6] at Hret;have fin:=(ret (zc7,{ M1 with left:=M1.left-1 }) g1 h2 G1 .nils pm2.stp pm2 (.inl ⟨rfl,rfl⟩) Hret).2.2;unfold f189_J6;simp (disch:=first|omega|simp only[zD]<;>omega|assumption) only[↓zR,↓zRM,zR,zRM,reduceAdd,reduceMul,reduceToNat,zN,hmbc,hmbo,hset,eh2,eh2',v1,v2,v3,v4,hia,u0,u1,u2,u3,hgl,hgl1,hpt,eq_false c0,eq_false c1,eq_false c2,eq_false c3,eq_false c4,eq_false c5,eq_false c6,hb3];exact fin
theorem zj3{N:Nat}{M1:Mc}{body:List Ex}{there:List Nat}{node a:Int}(ho:M1.out=true):zm p (N+1) M1 body there node a=(fd0,M1):=by
 show (if M1.out=true then _ else _:Fd × Mc)=_;rw[if_pos ho]
theorem zj4{N:Nat}{M1:Mc}{body:List Ex}{there:List Nat}{node a:Int}(ho:M1.out=false)(hl:M1.left=0):zm p (N+1) M1 body there node a=(fd0,{ M1 with out:=true }):=by
 show (if M1.out=true then _ else _:Fd × Mc)=_;rw[if_neg (by rw[ho];simp)];show (if M1.left=0 then _ else _:Fd × Mc)=_;rw[if_pos hl]
theorem GN11.w189(TN:GN11 t)(TM:GNM t)(T:GA t)(hp:zo p=true)(hlen:∀d ∈ p,d.body.length<=1000):∀N n,30+3*N<=n->zhD β t p mb dv N n:=by
 intro N
 induction N using Nat.strongRecOn with
 | ind N IH=>
  intro n hn g h G M fb body there node a pm hw hc hlf fr hg hf k R hk;obtain⟨N0,rfl⟩:∃N0,N=N0+1:=⟨N-1,by omega⟩
  obtain⟨m,rfl⟩:∃m,n=m+1:=⟨n-1,by omega⟩
  obtain⟨pm1,s1⟩:=pm.pushH (.own 0 [.int .i64 0,.int .i64 0,.nils]);have l1:=pm.loc (.own 0 [.int .i64 0,.int .i64 0,.nils]);have S0:PT p mb dv body node g h G (g.push .dead) (h.push (.own 0 [.int .i64 0,.int .i64 0,.nils])) G M fb there a (N0+1) :=
   ⟨s1,pm1,hw,hc,hlf,l1,zf rfl,fr.step s1.eg s1.A (λq hq=>by rw[pm.alen];exact hg.lt q hq),hg,hf⟩
  have hbz:∀kk:VK β,zy [.int .i64 0,.int .i64 0,.nils] [] [] (.mk kk)=kk (.agg [.int .i64 0,.int .i64 0,.nils]):=λkk=>rfl
  have hpt:zar [AV.int .i64 0,.int .i64 0,.nils] 0 [.int .i64 0,.int .i64 0,.nils]=[.int .i64 0,.int .i64 0,.nils]:=rfl;rw[TN.c189];unfold f189;simp (disch:=first|omega|simp only[zD]<;>omega|assumption) only[↓zR,↓zRM,zR,zRM,reduceAdd,reduceMul,reduceToNat];refine zaa 11 m _ _ (λi x0 x1 x2 x3 x4 x5 x6 x7 x8 x9 x10 h'=>x0 = .ptr mb 0/\x3 = .ptr h.n 0/\∃g' G' M' fb' there' a',x1 = .ptr fb' 0/\x2 = .int .i64 a'/\PT p mb dv body node g h G g' h' G' M' fb' there' a' (i+1)/\zm p (N0+1) M body there node a=zm p (i+1) M' body there' node a'/\i<=N0) N0 (by omega) ?_ _ _ _ _ _ _ _ _ _ _ _ _
   ⟨rfl,rfl,_,G,M,fb,there,a,rfl,rfl,S0,rfl,Nat.le_refl _⟩
  intro l i ih x0 x1 x2 x3 x4 x5 x6 x7 x8 x9 x10 h' ⟨p0,p1,g',G',M',fb',there',a',p2,p3,S,hpe,hi⟩;rw[p0,p1,p2,p3];clear p0 p1 p2 p3;rw[hpe] at hk;obtain⟨cv,hmb,hmx⟩:=S.pm.m;have hgl:zaG (h'.get h.n)=some (0,[.int .i64 0,.int .i64 0,.nils]):=by rw[S.g0];rfl
  have hnm:mb≠h.n:=λq=>S.l0.m q.symm
  cases ho:M'.out with
  | true=>
   rw[ho] at hmb;have hmc:(h'.get mb).cells=some [dv,.int .i64 (M'.left:Int),cv,.bool true]:=by rw[hmb];rfl
   rw[zj3 ho] at hk;have fin:=hk (.agg [.int .i64 0,.int .i64 0,.nils]) (h'.set h.n (.own 0 [.int .i64 0,.int .i64 0,.nils])) ⟨g',G',S.st.setL (i:=h.n) (Nat.le_refl _) _,S.pm.setL S.l0 _,.nils,rfl,.inl ⟨rfl,rfl⟩⟩;simp (disch:=first|omega|simp only[zD]<;>omega|assumption) only[↓zR,↓zRM,zR,zRM,reduceAdd,reduceMul,reduceToNat,zN,↓f189_L4,hmc,↓f189_J1,hbz,hgl,hpt];exact fin
  | false=>
   rw[ho] at hmb;have hmc:(h'.get mb).cells=some [dv,.int .i64 (M'.left:Int),cv,.bool false]:=by rw[hmb];rfl
   have hmo:zaG (h'.get mb)=some (0,[dv,.int .i64 (M'.left:Int),cv,.bool false]):=by rw[hmb];rfl
   by_cases hl0:M'.left=0
   ·have hl0':((M'.left:Nat):Int)=0:=by omega
    obtain⟨pm2,s2⟩:=S.pm.setM (l:=M'.left) (o:=true) ⟨_,_,hmb⟩;obtain⟨l2,e2⟩:=S.l0.step S.pm.gn s2;rw[S.g0] at e2;rw[zj4 ho hl0] at hk;have hset:[dv,.int .i64 (M'.left:Int),cv,.bool false].set 3 (.bool true)=[dv,.int .i64 (M'.left:Int),cv,.bool true]:=rfl;have fin:=hk (.agg [.int .i64 0,.int .i64 0,.nils]) ((h'.set mb (.own 0 [dv,.int .i64 (M'.left:Int),cv,.bool true])).set h.n (.own 0 [.int .i64 0,.int .i64 0,.nils])) ⟨g',G',(S.st.trans s2).setL (i:=h.n) (Nat.le_refl _) _,pm2.setL l2 _,.nils,rfl,.inl ⟨rfl,rfl⟩⟩;rw[hl0'] at hmc hmo hset fin;simp (disch:=first|omega|simp only[zD]<;>omega|assumption) only[↓zR,↓zRM,zR,zRM,reduceAdd,reduceMul,reduceToNat,zN,↓f189_L4,hmc,hmo,↓f189_J5,hset,↓f189_J1,hbz,hgl,hpt];exact fin
   ·have hl0':¬ ((M'.left:Nat):Int)=0:=by omega
    obtain⟨pm2,s2⟩:=S.pm.setM (l:=M'.left) (o:=false) ⟨_,_,hmb⟩;have eM:({ M' with left:=M'.left,out:=false }:Mc)=M':=by rw[<- ho]
    rw[eM] at pm2;obtain⟨l2,e2⟩:=S.l0.step S.pm.gn s2;rw[S.g0] at e2;have S2:PT p mb dv body node g h G g' (h'.set mb (.own 0 [dv,.int .i64 (M'.left:Int),cv,.bool false])) G' M' fb' there' a' (i+1):=⟨S.st.trans s2,pm2,S.wf,S.ct,S.lf,l2,e2,S.fr,S.gd,S.fo⟩
    have E:Env8 β t p mb dv i m:=⟨TN,TM,T,hp,hlen,IH i (by omega) m (by omega),IH i (by omega) (m-1) (by omega),by omega⟩
    have hset:[dv,.int .i64 (M'.left:Int),cv,.bool false].set 3 (.bool false)=[dv,.int .i64 (M'.left:Int),cv,.bool false]:=rfl;simp (disch:=first|omega|simp only[zD]<;>omega|assumption) only[↓zR,↓zRM,zR,zRM,reduceAdd,reduceMul,reduceToNat,zN,↓f189_L4,hmc,hmo,↓f189_J5,hset,eq_false hl0'];refine j189 E S2 ho hl0 k l R (λg2 h2 G2 pv st pm3 q=>hk _ _ ⟨g2,G2,st,pm3,pv,rfl,q⟩) (λg2 h2 G2 M2 fb2 there2 a2 P he y4 y5 y6 y7 y8 y9 y10=>?_);have hi0:0<i:=by have:=P.lf;omega
    obtain⟨i0,rfl⟩:∃i0,i=i0+1:=⟨i-1,by omega⟩
    exact ih i0 (by omega) _ _ _ _ _ _ _ _ _ _ _ _ ⟨rfl,rfl,g2,G2,M2,fb2,there2,a2,rfl,rfl,P,hpe.trans he,by omega⟩
end
end Am.F
end
