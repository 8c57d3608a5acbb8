/- What is met: plain. -/
import Derived.Test.YtkbjmlcdmbajcaaDoorAmNmW
set_option linter.unusedVariables false
namespace Am.F
open Go Am
structure Mt where
 is:Bool
 code:Int
 left:Nat
def metL(rec:Nat→List UInt8→Thg→Mt):Nat→List (List UInt8)→List Thg→Mt
 | l,k::ks,x::xs=>let m:=rec l k x;if m.is=true then metL rec m.left ks xs else ⟨false,m.code,m.left⟩
 | l,_,_=>⟨true,0,l⟩
def metN(p:List Df)(N:Nat):Nat→Nat→List UInt8→Thg→Mt
 | 0,l,s,t=>⟨true,0,l⟩
 | d+1,l,s,t=>match tP s with
  | none=>⟨true,0,l⟩
  | some u=>if u.kind=0 then ⟨true,0,l⟩ else
   match zp p N l t with
   | (.bad c,l1)=>⟨false,if c=901 then 1001 else 0,l1⟩
   | (.ok f,l1)=>if f.kind=u.kind∧f.num=u.num∧f.parts.length=u.kids.length then metL (metN p N d) l1 u.kids f.parts else ⟨false,0,l1⟩
theorem zaj(rec:Nat→List UInt8→Thg→Mt)(l:Nat)(k:List UInt8)(ks:List (List UInt8))(x:Thg)(xs:List Thg):metL rec l (k::ks) (x::xs)=if (rec l k x).is=true then metL rec (rec l k x).left ks xs else ⟨false,(rec l k x).code,(rec l k x).left⟩:=by
 conv=>lhs;unfold metL
theorem zjR{rec:Nat→List UInt8→Thg→Mt}(h:∀l k x,(rec l k x).left≤l):∀(ks:List (List UInt8)) (xs:List Thg) (l:Nat),(metL rec l ks xs).left≤l
 | [],xs,l=>by unfold metL;exact Nat.le_refl _
 | k::ks,[],l=>by unfold metL;exact Nat.le_refl _
 | k::ks,x::xs,l=>by
  unfold metL
  simp only
  have h1:=h l k x
  split
  ·exact Nat.le_trans (zjR h ks xs _) h1
  ·exact h1
theorem zde(p:List Df)(N:Nat):∀(d l:Nat) (s:List UInt8) (t:Thg),(metN p N d l s t).left≤l
 | 0,l,s,t=>Nat.le_refl _
 | d+1,l,s,t=>by
  unfold metN
  cases tP s with
  | none=>exact Nat.le_refl _
  | some u=>
   simp only
   split
   ·exact Nat.le_refl _
   ·have h1:=zaT p N l t
    cases hr:zp p N l t with
    | mk r l1=>
     rw[hr] at h1
     cases r with
     | bad c=>exact h1
     | ok f=>
      simp only
      split
      ·exact Nat.le_trans (zjR (zde p N d) _ _ _) h1
      ·exact h1
def zbi(p:List Df)(f:Int)(args:List (List UInt8))(res:List UInt8)(fuel:Int):Prop:=za7 p f args fuel∧mayP res=true
instance (p:List Df) (f:Int) (args:List (List UInt8)) (res:List UInt8) (fuel:Int):Decidable (zbi p f args res fuel):=by unfold zbi;infer_instance
def zbb(p:List Df)(f:Int)(args:List (List UInt8))(res:List UInt8)(fuel:Int):Bool × Int :=
 if zbi p f args res fuel then
  let m:=metN p (fuel.toNat+1) (res.length+1) fuel.toNat res (zbF p f.toNat args)
  (m.is,m.code)
 else (false,1000)
theorem zeU{p:List Df}:∀(N l:Nat) (t:Thg),l<N→zp p (N+1) l t=zp p N l t
 | 0,l,t,hl=>absurd hl (by omega)
 | N+1,l,.term s,hl=>rfl
 | N+1,0,.part d a env,hl=>rfl
 | N+1,l+1,.part d a env,hl=>by
  have hl':l<N:=by omega
  have ih:=zeU (p:=p) N
  have i0:=fun t=>ih l t hl'
  have i1:=fun l' t (h:l'≤l)=>ih l' t (by omega)
  conv=>lhs;unfold zp
  conv=>rhs;unfold zp
  cases (za5 p d)[a]? with
  | none=>rfl
  | some e=>
   simp only[i0]
   by_cases c0:e.kind=0
   ·rw[if_pos c0,if_pos c0]
   rw[if_neg c0,if_neg c0]
   by_cases c1:e.kind=1
   ·rw[if_pos c1,if_pos c1]
   rw[if_neg c1,if_neg c1]
   by_cases c2:e.kind=2
   ·rw[if_pos c2,if_pos c2]
   rw[if_neg c2,if_neg c2]
   by_cases c3:e.kind=3
   ·rw[if_pos c3,if_pos c3]
   rw[if_neg c3,if_neg c3]
   have hle:=zaT p N l (.part d (e.kids.getD 0 0).toNat env)
   by_cases c4:e.kind=4
   ·rw[if_pos c4,if_pos c4]
    generalize zp p N l (.part d (e.kids.getD 0 0).toNat env)=r1 at hle
    obtain⟨r,l1⟩:=r1
    cases r with
    | bad c=>rfl
    | ok f=>simp only;rw[i1 l1 _ hle]
   rw[if_neg c4,if_neg c4]
   by_cases c5:e.kind=5
   ·rw[if_pos c5,if_pos c5]
    generalize zp p N l (.part d (e.kids.getD 0 0).toNat env)=r1 at hle
    obtain⟨r,l1⟩:=r1
    cases r with
    | bad c=>rfl
    | ok f=>simp only;rw[i1 l1 _ hle,i1 l1 _ hle]
   rw[if_neg c5,if_neg c5]
theorem zgm{p:List Df}(N l:Nat)(t:Thg)(hl:l<N):∀d,zp p (N+d) l t=zp p N l t
 | 0=>rfl
 | d+1=>by rw[show N+(d+1)=(N+d)+1 by omega,zeU _ _ _ (by omega),zgm N l t hl d]
theorem evalN_up{p:List Df}{N l d:Nat}{t:Thg}(hl:l+d<N)(h:(zp p N l t).1 ≠ .bad 901):zp p N (l+d) t=((zp p N l t).1,(zp p N l t).2+d):=by
 have h1:=zeV (p:=p) N l t d (by omega) h
 rw[zgm N (l+d) t hl d] at h1
 exact h1
theorem zg2{rec:Nat→List UInt8→Thg→Mt}{B:Nat}(hle:∀l k x,(rec l k x).left≤l)(h:∀l d k x,l+d<B→(rec l k x).is=true→rec (l+d) k x=⟨true,0,(rec l k x).left+d⟩)(h0:∀l k x,(rec l k x).is=true→(rec l k x).code=0) :
  ∀(ks:List (List UInt8)) (xs:List Thg) (l d:Nat),l+d<B→(metL rec l ks xs).is=true→metL rec (l+d) ks xs=⟨true,0,(metL rec l ks xs).left+d⟩
 | [],xs,l,d,hb,_=>by unfold metL;rfl
 | k::ks,[],l,d,hb,_=>by unfold metL;rfl
 | k::ks,x::xs,l,d,hb,ht=>by
  rw[zaj] at ht
  by_cases hr:(rec l k x).is=true
  ·rw[if_pos hr] at ht
   have hl:=hle l k x
   rw[zaj,zaj,if_pos hr,h l d k x hb hr,if_pos rfl]
   exact zg2 hle h h0 ks xs _ d (by omega) ht
  ·rw[if_neg hr] at ht;cases ht
theorem zci(p:List Df)(N:Nat):∀(d l:Nat) (s:List UInt8) (t:Thg),(metN p N d l s t).is=true→(metN p N d l s t).code=0
 | 0,l,s,t,_=>rfl
 | d+1,l,s,t,h=>by
  unfold metN at h⊢
  cases hs:tP s with
  | none=>rfl
  | some u=>
   rw[hs] at h
   simp only at h⊢
   by_cases h0:u.kind=0
   ·rw[if_pos h0]
   ·rw[if_neg h0] at h⊢
    cases hr:zp p N l t with
    | mk r l1=>
     rw[hr] at h
     cases r with
     | bad c=>cases h
     | ok f=>
      simp only at h⊢
      by_cases hc:f.kind=u.kind∧f.num=u.num∧f.parts.length=u.kids.length
      ·rw[if_pos hc] at h⊢;exact metL_code (zci p N d) _ _ _ h
      ·rw[if_neg hc] at h;cases h
where
 metL_code {rec:Nat→List UInt8→Thg→Mt} (hc:∀l k x,(rec l k x).is=true→(rec l k x).code=0):∀(ks:List (List UInt8)) (xs:List Thg) (l:Nat),(metL rec l ks xs).is=true→(metL rec l ks xs).code=0
  | [],xs,l,_=>by unfold metL;rfl
  | k::ks,[],l,_=>by unfold metL;rfl
  | k::ks,x::xs,l,h=>by
   rw[zaj] at h⊢
   by_cases hr:(rec l k x).is=true
   ·rw[if_pos hr] at h⊢;exact metL_code hc ks xs _ h
   ·rw[if_neg hr] at h;cases h
theorem zjQ(p:List Df)(N:Nat):∀(dep l d:Nat) (s:List UInt8) (t:Thg),l+d<N→(metN p N dep l s t).is=true→metN p N dep (l+d) s t=⟨true,0,(metN p N dep l s t).left+d⟩
 | 0,l,d,s,t,_,_=>rfl
 | dep+1,l,d,s,t,hb,h=>by
  unfold metN at h⊢
  cases hs:tP s with
  | none=>rfl
  | some u=>
   rw[hs] at h
   simp only at h⊢
   by_cases h0:u.kind=0
   ·rw[if_pos h0,if_pos h0]
   ·rw[if_neg h0] at h
    rw[if_neg h0,if_neg h0]
    have hle:=zaT p N l t
    cases hr:zp p N l t with
    | mk r l1=>
     rw[hr] at h hle
     cases r with
     | bad c=>cases h
     | ok f=>
      have:=evalN_up (p:=p) (N:=N) (l:=l) (d:=d) (t:=t) hb (by rw[hr];simp)
      rw[this,hr]
      simp only at h⊢
      by_cases hc:f.kind=u.kind∧f.num=u.num∧f.parts.length=u.kids.length
      ·rw[if_pos hc] at h
       rw[if_pos hc,if_pos hc]
       have hle':l1≤l:=hle
       exact zg2 (B:=N) (zde p N dep) (fun l' d' k x hb' ht=>zjQ p N dep l' d' k x hb' ht) (zci p N dep) _ _ _ _ (by omega) h
      ·rw[if_neg hc] at h;cases h
theorem zf0(p:List Df)(N dep:Nat):∀(ks:List (List UInt8)) (xs:List Thg) (l j:Nat),l<N→(metL (metN p N (dep+1)) l ks xs).is=true→(metL (metN p N (dep+1)) l (ks.set j [95]) xs).is=true
 | [],xs,l,j,_,h=>h
 | k::ks,[],l,j,_,h=>by
  cases j<;>(unfold metL;rfl)
 | k::ks,x::xs,l,0,hb,h=>by
  rw[List.set_cons_zero,zaj]
  rw[zaj] at h
  by_cases hr:(metN p N (dep+1) l k x).is=true
  ·rw[if_pos hr] at h
   have hh:metN p N (dep+1) l [95] x=⟨true,0,l⟩:=by
    unfold metN;rw[ze2];rfl
   rw[hh,if_pos rfl]
   have hl:=zde p N (dep+1) l k x
   have:=zg2 (rec:=metN p N (dep+1)) (B:=N) (zde p N (dep+1)) (fun l' d' k x hb' ht=>zjQ p N (dep+1) l' d' k x hb' ht) (zci p N (dep+1)) ks xs (metN p N (dep+1) l k x).left (l-(metN p N (dep+1) l k x).left) (by omega) h
   rw[show (metN p N (dep+1) l k x).left+(l-(metN p N (dep+1) l k x).left)=l by omega] at this
   rw[this]
  ·rw[if_neg hr] at h;cases h
 | k::ks,x::xs,l,j+1,hb,h=>by
  rw[List.set_cons_succ,zaj]
  rw[zaj] at h
  by_cases hr:(metN p N (dep+1) l k x).is=true
  ·rw[if_pos hr] at h⊢
   have hl:=zde p N (dep+1) l k x
   exact zf0 p N dep ks xs _ j (by omega) h
  ·rw[if_neg hr] at h;cases h
theorem zeP{r1 r2:Nat→List UInt8→Thg→Mt}:∀(ks:List (List UInt8)) (xs:List Thg) (l:Nat),(∀k ∈ ks,∀l x,r1 l k x=r2 l k x)→metL r1 l ks xs=metL r2 l ks xs
 | [],xs,l,_=>by unfold metL;rfl
 | k::ks,[],l,_=>by unfold metL;rfl
 | k::ks,x::xs,l,h=>by
  rw[zaj,zaj,h k List.mem_cons_self l x]
  split
  ·exact zeP ks xs _ fun k' hk=>h k' (List.mem_cons_of_mem _ hk)
  ·rfl
theorem zfh(p:List Df)(N:Nat):∀(d d' l:Nat) (s:List UInt8) (t:Thg),s.length<d→s.length<d'→metN p N d l s t=metN p N d' l s t
 | 0,d',l,s,t,h,_=>absurd h (by omega)
 | d+1,0,l,s,t,_,h=>absurd h (by omega)
 | d+1,d'+1,l,s,t,h,h'=>by
  unfold metN
  cases hs:tP s with
  | none=>rfl
  | some u=>
   simp only
   split
   ·rfl
   ·cases zp p N l t with
    | mk r l1=>
     cases r with
     | bad c=>rfl
     | ok f=>
      simp only
      split
      ·refine zeP _ _ _ fun k hk l x=>zfh p N d d' l k x ?_ ?_
       ·have:=(zdO hs k hk).2;omega
       ·have:=(zdO hs k hk).2;omega
      ·rfl
theorem zdp(sep:List UInt8):∀(ks:List (List UInt8)) (j:Nat),(∀k ∈ ks,1≤k.length)→(Lib.joinTail sep (ks.set j [95])).length≤(Lib.joinTail sep ks).length
 | [],j,_=>Nat.le_refl _
 | k::ks,0,h=>by
  have h1:=h k List.mem_cons_self
  simp[Lib.joinTail];omega
 | k::ks,j+1,h=>by
  have h1:=zdp sep ks j fun x hx=>h x (List.mem_cons_of_mem _ hx)
  simp[Lib.joinTail] at h1 ⊢;omega
theorem join_set(ks:List (List UInt8))(j:Nat)(h:∀k ∈ ks,1≤k.length):(Lib.join (ks.set j [95]) [32]).length≤(Lib.join ks [32]).length:=by
 cases ks with
 | nil=>exact Nat.le_refl _
 | cons k ks=>
  cases j with
  | zero=>
   have h1:=h k List.mem_cons_self
   rw[List.set_cons_zero,Lib.join_cons,Lib.join_cons,List.length_append,List.length_append]
   simp;omega
  | succ j=>
   have h1:=zdp [32] ks j fun x hx=>h x (List.mem_cons_of_mem _ hx)
   rw[List.set_cons_succ,Lib.join_cons,Lib.join_cons,List.length_append,List.length_append]
   omega
theorem mayP_pos{s:List UInt8}(h:mayP s=true):1≤s.length:=by
 cases s with
 | nil=>rw[zfi] at h;cases h
 | cons b r=>simp
theorem zj4{s:List UInt8}{u:Tm}(hs:tP s=some u){j:Nat}(hj:j<u.kids.length):∃s',zez u.kind u.num (u.kids.set j [95])=some s'∧tP s'=some ⟨u.kind,u.num,u.kids.set j [95],[]⟩:=by
 obtain⟨hl,h2,hre⟩:=zbX hs
 have hg:=zdc h2
 have hk2:u.kind=2∧0≤u.num∧u.num≤99∧u.kids.length≤3:=by
  rcases hg.form with⟨a,b,c⟩|⟨a,b,c⟩|⟨a,b,c,d⟩|⟨a,b,c,d⟩
  ·rw[c] at hj;simp at hj
  ·rw[c] at hj;simp at hj
  ·rw[d] at hj;simp at hj
  ·exact⟨a,b,c,d⟩
 obtain⟨k1,k2,k3,k4⟩:=hk2
 have hkm:=zdO hs
 have hset:∀y ∈ u.kids.set j [95],mayP y=true:=fun y hy=>by
  rcases List.mem_or_eq_of_mem_set hy with h|h
  ·exact (hkm y h).1
  ·rw[h];exact zf1
 have hcon:s=conP u.num u.kids:=by
  have:=zfU hs
  rw[this];unfold outT;rw[if_neg (by omega),if_neg (by omega),if_neg (by omega)]
 have hlen:(conP u.num (u.kids.set j [95])).length≤1024:=by
  rw[hcon] at hl
  refine Nat.le_trans ?_ hl
  unfold conP
  rw[List.length_set,if_pos (by omega),if_pos (by omega)]
  have:=join_set u.kids j fun k hk=>mayP_pos (hkm k hk).1
  simp only[List.length_append];omega
 have htp:=zi1 k2 k3 (kids:=u.kids.set j [95]) (by rw[List.length_set];exact k4) hset hlen
 refine⟨conP u.num (u.kids.set j [95]),?_,by rw[htp,k1]⟩
 rw[makeR_eq,k1]
 have e:outP 2 u.num (u.kids.set j [95])=conP u.num (u.kids.set j [95]):=by
  unfold outP;rw[if_pos ⟨rfl,⟨k2,k3⟩,by rw[List.length_set];exact k4,List.all_eq_true.2 hset⟩]
 rw[e,if_pos ((za8 _).2 ⟨_,htp⟩)]
theorem ziI{p:List Df}{f:Int}{args:List (List UInt8)}{res:List UInt8}{k:Int}(h:zbb p f args res k=(true,0)):zbb p f args [95] k=(true,0):=by
 unfold zbb at h⊢
 by_cases hm:zbi p f args res k
 ·rw[if_pos ⟨hm.1,zf1⟩]
  unfold metN;rw[ze2];rfl
 ·rw[if_neg hm] at h;cases h
theorem zg9{p:List Df}{f:Int}{args:List (List UInt8)}{res:List UInt8}{k:Int}(h:zbb p f args res k=(true,0)){u:Tm}(hu:tP res=some u){j:Nat}(hj:j<u.kids.length){s':List UInt8}(hs:tP s'=some ⟨u.kind,u.num,u.kids.set j [95],[]⟩):zbb p f args s' k=(true,0):=by
 unfold zbb at h⊢
 by_cases hm:zbi p f args res k
 case neg=>rw[if_neg hm] at h;cases h
 rw[if_pos hm] at h
 rw[if_pos ⟨hm.1,(za8 _).2 ⟨_,hs⟩⟩]
 have his:(metN p (k.toNat+1) (res.length+1) k.toNat res (zbF p f.toNat args)).is=true:=congrArg Prod.fst h
 have key:(metN p (k.toNat+1) (s'.length+1) k.toNat s' (zbF p f.toNat args)).is=true:=by
  have hd:metN p (k.toNat+1) (s'.length+1) k.toNat s' (zbF p f.toNat args)=metN p (k.toNat+1) (res.length+s'.length+1+1) k.toNat s' (zbF p f.toNat args):=zfh _ _ _ _ _ _ _ (by omega) (by omega)
  have hd':metN p (k.toNat+1) (res.length+1) k.toNat res (zbF p f.toNat args)=metN p (k.toNat+1) (res.length+s'.length+1+1) k.toNat res (zbF p f.toNat args):=zfh _ _ _ _ _ _ _ (by omega) (by omega)
  rw[hd]
  rw[hd'] at his
  unfold metN at his ⊢
  rw[hs]
  rw[hu] at his
  simp only at his ⊢
  by_cases h0:u.kind=0
  ·rw[if_pos h0]
  ·rw[if_neg h0] at his ⊢
   have hle:=zaT p (k.toNat+1) k.toNat (zbF p f.toNat args)
   cases hr:zp p (k.toNat+1) k.toNat (zbF p f.toNat args) with
   | mk r l1=>
    rw[hr] at his hle
    cases r with
    | bad c=>cases his
    | ok q=>
     have hle':l1≤k.toNat:=hle
     simp only at his ⊢
     rw[List.length_set]
     by_cases hc:q.kind=u.kind∧q.num=u.num∧q.parts.length=u.kids.length
     ·rw[if_pos hc] at his ⊢
      exact zf0 p (k.toNat+1) (res.length+s'.length) u.kids q.parts l1 j (by omega) his
     ·rw[if_neg hc] at his;cases his
 have hc:=zci _ _ _ _ _ _ key
 show ((metN p (k.toNat+1) (s'.length+1) k.toNat s' (zbF p f.toNat args)).is,(metN p (k.toNat+1) (s'.length+1) k.toNat s' (zbF p f.toNat args)).code)=(true,(0:Int))
 rw[key,hc]
theorem ziJ{p:List Df}{f:Int}{args:List (List UInt8)}{res:List UInt8}{k:Int}(h:(zbb p f args res k).1=true):(zbb p f args res k).2=0:=by
 unfold zbb at h⊢
 by_cases hm:zbi p f args res k
 ·rw[if_pos hm] at h⊢;exact zci _ _ _ _ _ _ h
 ·rw[if_neg hm] at h;cases h
theorem zj5{p:List Df}{f:Int}{args:List (List UInt8)}{res:List UInt8}{k:Int}(h:(zbb p f args res k).1=true):zbi p f args res k:=Classical.byContradiction fun hm=>by
 unfold zbb at h
 rw[if_neg hm] at h;cases h
end Am.F
