/- Below;what is met has the head that is meant: plain. -/
import Derived.Test.YtkbjmlcdmbajcaaGreatDoorAmHoV
set_option linter.unusedVariables false
namespace Am.F
open Go Am
def zc7(r:List UInt8->List UInt8->Bool):List (List UInt8)->List (List UInt8)->Bool
 | a::as,b::bs=>r a b&&zc7 r as bs
 | _,_=>true
def zbq:Nat->List UInt8->List UInt8->Bool
 | 0,_,_=>true
 | d+1,a,b=>match tP a,tP b with
  | some u,some v=>if u.kind=0 then true else decide (u.kind=v.kind/\u.num=v.num/\u.kids.length=v.kids.length)&&zc7 (zbq d) u.kids v.kids
  | _,_=>true
theorem zgI{p:List Df}{N d:Nat}(h:∀l s y,mayP s=true->mayP y=true->metN p N d l s (.term y)=⟨zbq d s y,0,l⟩):∀(ks ys:List (List UInt8)) (l:Nat),(∀k ∈ ks,mayP k=true)->(∀k ∈ ys,mayP k=true)->metL (metN p N d) l ks (ys.map .term)=⟨zc7 (zbq d) ks ys,0,l⟩
 | [],ys,l,_,_=>by unfold metL zc7;rfl
 | k::ks,[],l,_,_=>by unfold metL zc7;rfl
 | k::ks,y::ys,l,h1,h2=>by
  rw[List.map_cons,zcx,h l k y (h1 k List.mem_cons_self) (h2 y List.mem_cons_self)]
  conv=>rhs;unfold zc7
  cases hk:zbq d k y with
  | true=>
   rw[if_pos rfl,Bool.true_and];exact zgI h ks ys l (λx hx=>h1 x (List.mem_cons_of_mem _ hx)) λx hx=>h2 x (List.mem_cons_of_mem _ hx)
  | false=>rw[if_neg (by simp),Bool.false_and]
theorem zgH(p:List Df)(N:Nat):∀(d l:Nat) (s y:List UInt8),mayP s=true->mayP y=true->metN p (N+1) d l s (.term y)=⟨zbq d s y,0,l⟩
 | 0,l,s,y,_,_=>rfl
 | d+1,l,s,y,hs,hy=>by
  obtain⟨u,hu⟩:=(zZ s).1 hs;obtain⟨v,hv⟩:=(zZ y).1 hy;have hev:zp p (N+1) l (.term y)=(zdi y,l):=rfl;have hrd:zdi y=if v.kind=0 then .bad 902 else .ok ⟨v.kind,v.num,v.kids.map .term⟩:=by unfold zdi;rw[hv]
  unfold metN zbq;rw[hu,hv,hev,hrd];simp only
  by_cases h0:u.kind=0
  ·rw[if_pos h0,if_pos h0]
  rw[if_neg h0,if_neg h0]
  by_cases v0:v.kind=0
  ·rw[if_pos v0];have:decide (u.kind=v.kind/\u.num=v.num/\u.kids.length=v.kids.length)=false:=decide_eq_false λhh=>h0 (by rw[hh.1,v0])
   rw[this,Bool.false_and];rfl
  ·rw[if_neg v0];simp only[List.length_map]
   by_cases hc:u.kind=v.kind/\u.num=v.num/\u.kids.length=v.kids.length
   ·rw[if_pos ⟨hc.1.symm,hc.2.1.symm,hc.2.2.symm⟩,decide_eq_true hc,Bool.true_and];exact zgI (zgH p N d) _ _ _ (λk hk=>(zcX hu k hk).1) λk hk=>(zcX hv k hk).1
   ·rw[if_neg (λhh=>hc ⟨hh.1.symm,hh.2.1.symm,hh.2.2.symm⟩),decide_eq_false hc,Bool.false_and]
theorem zeE(d:Nat):∀(n:Nat) (ys:List (List UInt8)),(∀y ∈ ys,mayP y=true)->zc7 (zbq (d+1)) (List.replicate n [95]) ys=true
 | 0,ys,_=>by unfold zc7;rfl
 | n+1,[],_=>by rw[List.replicate_succ];unfold zc7;rfl
 | n+1,y::ys,h=>by
  rw[List.replicate_succ];unfold zc7;obtain⟨v,hv⟩:=(zZ y).1 (h y List.mem_cons_self);have:zbq (d+1) [95] y=true:=by unfold zbq;rw[zhi,hv];rfl
  rw[this,Bool.true_and];exact zeE d n ys λx hx=>h x (List.mem_cons_of_mem _ hx)
theorem zks{p:List Df}{f:Fnd}(h:zjp p f)(hc:f.kind=2->0<=f.num/\f.num<=99):tP (zfz f)=some ⟨f.kind,f.num,List.replicate f.parts.length [95],[]⟩:=by
 obtain⟨k,x,ps⟩:=f;obtain⟨h1,h2,h3,h4,h5,h6⟩:=h;simp only at h2 h3 h4 h5 h6 hc;unfold zfz;simp only;rcases h6 with rfl|rfl|rfl
 ·have:=h4 rfl
  subst this;rw[if_neg (by decide),if_pos rfl];exact zhh h5.1 h5.2
 ·obtain⟨c1,c2⟩:=hc rfl;have hlen:(conP x (List.replicate ps.length [95])).length<=1024:=by
   have hi:=zd8 (x:=x) (by omega) (by omega);have:ps.length=0\/ps.length=1\/ps.length=2\/ps.length=3:=by omega
   unfold conP;rcases this with q|q|q|q<;>rw[q]<;>simp[List.replicate,Lib.join]<;>omega
  rw[if_neg (by decide),if_neg (by decide)];exact zhj c1 c2 (by simpa using h3) (λy hy=>by rw[(List.mem_replicate.1 hy).2];exact zeD) hlen
 ·have:=h2 rfl
  unfold zaK at this;cases this;exact zjx
theorem zji{p:List Df}{f:Int}{args:List (List UInt8)}{res:List UInt8}{k:Int}(h:zaS p f args res k=(true,0))(hne:res≠[95]):(zc8 p f args k).2=0/\mayP res=true/\mayP (zc8 p f args k).1=true/\∀d,zbq (d+2) (zc8 p f args k).1 res=true:=by
 unfold zaS at h
 by_cases hm:zb5 p f args res k
 case neg=>rw[if_neg hm] at h;cases h
 rw[if_pos hm] at h;have his:(metN p (k.toNat+1) (res.length+1) k.toNat res (za9 p f.toNat args)).is=true:=congrArg Prod.fst h;obtain⟨u,hu⟩:=(zZ res).1 hm.2;obtain⟨df,_,_,_,_,_,wf,_⟩:=zb2 hm.1;have ok:=zbd hm.1.1 (k.toNat+1) k.toNat _ wf;have con:=zeR hm.1.1 (k.toNat+1) k.toNat _ wf (by omega);unfold metN at his;rw[hu] at his;simp only at his;have h0:¬ u.kind=0:=λh0=>hne (by
  have:=zgA hu
  rw[this];unfold outT;rw[if_pos h0])
 rw[if_neg h0] at his;unfold zc8;rw[if_pos hm.1];cases hr:zp p (k.toNat+1) k.toNat (za9 p f.toNat args) with
 | mk r l1=>
  rw[hr] at his ok con;cases r with
  | bad c=>cases his
  | ok q=>
   simp only at his;have fo:zjp p q:=ok;have htp:=zks fo con;refine⟨rfl,hm.2,(zZ _).2 ⟨_,htp⟩,λd=>?_⟩;show zbq (d+2) (zfz q) res=true
   by_cases hc:q.kind=u.kind/\q.num=u.num/\q.parts.length=u.kids.length
   ·unfold zbq;rw[htp,hu];simp only;rw[if_neg (by rw[hc.1];exact h0),List.length_replicate,decide_eq_true hc,Bool.true_and];exact zeE d _ _ λy hy=>(zcX hu y hy).1
   ·rw[if_neg hc] at his;cases his
def zab:List Df:=[⟨0,[⟨0,0,0,[]⟩]⟩,⟨1,[⟨1,0,0,[]⟩]⟩]
theorem zjg:zO zab=true:=by decide +kernel
theorem zgT{a b:List UInt8}(ha:mayP a=true)(hb:mayP b=true):zaS zab 1 [a] b 5=(zbq (b.length+1) b a,0):=by
 have hm:zb5 zab 1 [a] b 5:=⟨⟨zjg,by omega,by decide,rfl,by simp[ha],by omega,by omega⟩,hb⟩
 unfold zaS;rw[if_pos hm];have hev:∀l,zp zab 6 (l+1) (za9 zab 1 [a])=zp zab 5 l (.term a):=λl=>rfl
 obtain⟨u,hu⟩:=(zZ b).1 hb;have key:metN zab 6 (b.length+1) 5 b (za9 zab 1 [a])=⟨zbq (b.length+1) b a,0,if u.kind=0 then 5 else 4⟩:=by
  have h1:=zgH zab 5 (b.length+1) 4 b a hb ha;unfold metN at h1 ⊢;rw[hu] at h1 ⊢;simp only at h1 ⊢
  by_cases h0:u.kind=0
  ·rw[if_pos h0] at h1 ⊢;rw[if_pos h0];have:zbq (b.length+1) b a=true:=by have:=congrArg Mt.is h1;exact this.symm
   rw[this]
  ·rw[if_neg h0] at h1 ⊢;rw[if_neg h0,hev 4];have e:zp zab 5 4 (.term a)=zp zab (5+1) 4 (.term a):=rfl;rw[e];exact h1
 show ((metN zab 6 (b.length+1) 5 b (za9 zab 1 [a])).is,(metN zab 6 (b.length+1) 5 b (za9 zab 1 [a])).code)=_;rw[key]
theorem zkt{a b:List UInt8}(h:¬ (mayP a=true/\mayP b=true)):zaS zab 1 [a] b 5=(false,1000):=by
 unfold zaS;rw[if_neg λhm=>h ⟨by have:=hm.1.2.2.2.2.1;simpa using this,hm.2⟩]
end Am.F
