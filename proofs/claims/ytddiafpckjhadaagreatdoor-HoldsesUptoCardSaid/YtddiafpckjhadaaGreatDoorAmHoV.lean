/- What is met: plain. -/
import Derived.Test.YtddiafpckjhadaaGreatDoorAmNmW
set_option linter.unusedVariables false
namespace Am.F
open Go Am
structure Mt where
 is:Bool
 code:Int
 left:Nat
def metL(rec:Nat->List UInt8->Thg->Mt):Nat->List (List UInt8)->List Thg->Mt
 | l,k::ks,x::xs=>let m:=rec l k x;if m.is=true then metL rec m.left ks xs else ⟨false,m.code,m.left⟩
 | l,_,_=>⟨true,0,l⟩
def metN(p:List Df)(N:Nat):Nat->Nat->List UInt8->Thg->Mt
 | 0,l,s,t=>⟨true,0,l⟩
 | d+1,l,s,t=>match tP s with
  | none=>⟨true,0,l⟩
  | some u=>if u.kind=0 then ⟨true,0,l⟩ else
   match zp p N l t with
   | (.bad c,l1)=>⟨false,if c=901 then 1001 else 0,l1⟩
   | (.ok f,l1)=>if f.kind=u.kind/\f.num=u.num/\f.parts.length=u.kids.length then metL (metN p N d) l1 u.kids f.parts else ⟨false,0,l1⟩
theorem zdc(rec:Nat->List UInt8->Thg->Mt)(l:Nat)(k:List UInt8)(ks:List (List UInt8))(x:Thg)(xs:List Thg):metL rec l (k::ks) (x::xs)=if (rec l k x).is=true then metL rec (rec l k x).left ks xs else ⟨false,(rec l k x).code,(rec l k x).left⟩:=by
 conv=>lhs;unfold metL
theorem zjC{rec:Nat->List UInt8->Thg->Mt}(h:∀l k x,(rec l k x).left<=l):∀(ks:List (List UInt8)) (xs:List Thg) (l:Nat),(metL rec l ks xs).left<=l
 | [],xs,l=>by unfold metL;exact Nat.le_refl _
 | k::ks,[],l=>by unfold metL;exact Nat.le_refl _
 | k::ks,x::xs,l=>by
  unfold metL;simp only;have h1:=h l k x;split
  ·exact Nat.le_trans (zjC h ks xs _) h1
  ·exact h1
theorem zg2(p:List Df)(N:Nat):∀(d l:Nat) (s:List UInt8) (t:Thg),(metN p N d l s t).left<=l
 | 0,l,s,t=>Nat.le_refl _
 | d+1,l,s,t=>by
  unfold metN;cases tP s with
  | none=>exact Nat.le_refl _
  | some u=>
   simp only;split
   ·exact Nat.le_refl _
   ·have h1:=zaL p N l t;cases hr:zp p N l t with
    | mk r l1=>
     rw[hr] at h1;cases r with
     | bad c=>exact h1
     | ok f=>
      simp only;split
      ·exact Nat.le_trans (zjC (zg2 p N d) _ _ _) h1
      ·exact h1
def zee(p:List Df)(f:Int)(args:List (List UInt8))(res:List UInt8)(fuel:Int):Prop:=zat p f args fuel/\mayP res=true
instance (p:List Df) (f:Int) (args:List (List UInt8)) (res:List UInt8) (fuel:Int):Decidable (zee p f args res fuel):=by unfold zee;infer_instance
def zcB(p:List Df)(f:Int)(args:List (List UInt8))(res:List UInt8)(fuel:Int):Bool × Int :=
 if zee p f args res fuel then
  let m:=metN p (fuel.toNat+1) (res.length+1) fuel.toNat res (zcD p f.toNat args)
  (m.is,m.code)
 else (false,1000)
theorem zd7(p:List Df)(N:Nat):∀(d l:Nat) (s:List UInt8) (t:Thg),(metN p N d l s t).is=true->(metN p N d l s t).code=0
 | 0,l,s,t,_=>rfl
 | d+1,l,s,t,h=>by
  unfold metN at h⊢;cases hs:tP s with
  | none=>rfl
  | some u=>
   rw[hs] at h;simp only at h⊢
   by_cases h0:u.kind=0
   ·rw[if_pos h0]
   ·rw[if_neg h0] at h⊢;cases hr:zp p N l t with
    | mk r l1=>
     rw[hr] at h;cases r with
     | bad c=>cases h
     | ok f=>
      simp only at h⊢
      by_cases hc:f.kind=u.kind/\f.num=u.num/\f.parts.length=u.kids.length
      ·rw[if_pos hc] at h⊢;exact metL_code (zd7 p N d) _ _ _ h
      ·rw[if_neg hc] at h;cases h
where
 metL_code {rec:Nat->List UInt8->Thg->Mt} (hc:∀l k x,(rec l k x).is=true->(rec l k x).code=0):∀(ks:List (List UInt8)) (xs:List Thg) (l:Nat),(metL rec l ks xs).is=true->(metL rec l ks xs).code=0
  | [],xs,l,_=>by unfold metL;rfl
  | k::ks,[],l,_=>by unfold metL;rfl
  | k::ks,x::xs,l,h=>by
   rw[zdc] at h⊢
   by_cases hr:(rec l k x).is=true
   ·rw[if_pos hr] at h⊢;exact metL_code hc ks xs _ h
   ·rw[if_neg hr] at h;cases h
theorem zeV{rec:Nat->List UInt8->Thg->Mt}(hc:∀l k x,(rec l k x).code=0\/(rec l k x).code=1001):∀(ks:List (List UInt8)) (xs:List Thg) (l:Nat),(metL rec l ks xs).code=0\/(metL rec l ks xs).code=1001
 | [],xs,l=>by unfold metL;exact .inl rfl
 | k::ks,[],l=>by unfold metL;exact .inl rfl
 | k::ks,x::xs,l=>by
  rw[zdc];split
  ·exact zeV hc ks xs _
  ·exact hc l k x
theorem zeU(p:List Df)(N:Nat):∀(d l:Nat) (s:List UInt8) (t:Thg),(metN p N d l s t).code=0\/(metN p N d l s t).code=1001
 | 0,l,s,t=>.inl rfl
 | d+1,l,s,t=>by
  unfold metN;cases tP s with
  | none=>exact .inl rfl
  | some u=>
   simp only;split
   ·exact .inl rfl
   ·cases zp p N l t with
    | mk r l1=>
     cases r with
     | bad c=>
      simp only;split
      ·exact .inr rfl
      ·exact .inl rfl
     | ok f=>
      simp only;split
      ·exact zeV (zeU p N d) _ _ _
      ·exact .inl rfl
end Am.F
