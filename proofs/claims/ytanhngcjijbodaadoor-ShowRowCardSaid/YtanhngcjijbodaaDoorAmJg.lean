/- Texts that belong together: no condition. -/
import Derived.Test.YtanhngcjijbodaaDoorAmJf
import Derived.Lib.AtoiTie
set_option maxRecDepth 100000
set_option linter.unusedVariables false
set_option linter.unusedSimpArgs false
set_option linter.defProp false
section
namespace Am.F
open Go Am
def isD(b:UInt8):Prop:=48<=b.toNat/\b.toNat<=57
instance (b:UInt8):Decidable (isD b):=by unfold isD;infer_instance
end Am.F
end
section
namespace Am.F
open Go Am
def pL(t:List UInt8->Option Tm)(x:Int):Nat->List (List UInt8)->List UInt8->Option Tm
 | 0,_,_=>none
 | m+1,kids,r=>match t r with
  | none=>none
  | some u=>match u.rest with
   | []=>none
   | b::r2=>if b=41 then some ⟨2,x,kids++[r.take (r.length-u.rest.length)],r2⟩
    else if b=32 then pL t x m (kids++[r.take (r.length-u.rest.length)]) r2
    else none
def tL:Nat->List UInt8->Option Tm
 | 0,_=>none
 | f+1,l=>
  if l=[] then none
  else if bt l 0=95 then some ⟨0,0,[],l.drop 1⟩
  else if bt l 0=33 then some ⟨3,0,[],l.drop 1⟩
  else if bt l 0=64 then
   (if (dig (l.drop 1)).2=0\/99<(dig (l.drop 1)).1 then none
   else if [40] <+: (l.drop 1).drop (dig (l.drop 1)).2 then pL (tL f) (dig (l.drop 1)).1 3 [] (((l.drop 1).drop (dig (l.drop 1)).2).drop 1)
   else some ⟨2,(dig (l.drop 1)).1,[],(l.drop 1).drop (dig (l.drop 1)).2⟩)
  else if bt l 0=45 then
   (if (dig (l.drop 1)).2=0\/(dig (l.drop 1)).1=0\/32768<(dig (l.drop 1)).1 then none
   else some ⟨1,-(dig (l.drop 1)).1,[],(l.drop 1).drop (dig (l.drop 1)).2⟩)
  else if (dig l).2=0\/32767<(dig l).1 then none
  else some ⟨1,(dig l).1,[],l.drop (dig l).2⟩
def Suf(l r:List UInt8):Prop:=∃p,p≠[]/\l=p++r
theorem Suf.lt{l r:List UInt8}(h:Suf l r):r.length<l.length:=by
 obtain⟨p,hp,rfl⟩:=h;have:=List.length_pos_iff.2 hp
 rw[List.length_append];omega
theorem Suf.trans{l m r:List UInt8}(h:Suf l m)(h':Suf m r):Suf l r:=by
 obtain⟨p,hp,rfl⟩:=h;obtain⟨q,hq,rfl⟩:=h';exact⟨p++q,λe=>hp (List.append_eq_nil_iff.1 e).1,(List.append_assoc ..).symm⟩
theorem Suf.cons(b:UInt8)(r:List UInt8):Suf (b::r) r:=⟨[b],by simp,rfl⟩
def Stp(r:List UInt8):Prop:=wA r=[]
theorem Stp.nil:Stp []:=rfl
end Am.F
end
section
namespace Am.F
open Go Am
def ks(kids:List (List UInt8))(r:List UInt8):List UInt8:=Lib.join kids [32]++41::r
def outT(u:Tm):List UInt8:=if u.kind=0 then [95] else if u.kind=3 then [33] else if u.kind=1 then Lib.itoa u.num else conP u.num u.kids
structure Good (f:Nat) (l:List UInt8) (u:Tm):Prop where
 text:l=outT u++u.rest
 form:(u.kind=0/\u.num=0/\u.kids=[])\/(u.kind=3/\u.num=0/\u.kids=[])\/(u.kind=1/\-32768<=u.num/\u.num<=32767/\u.kids=[])\/(u.kind=2/\0<=u.num/\u.num<=99/\u.kids.length<=3)
 kids:∀y ∈ u.kids,∃v,tL f y=some v/\v.rest=[]
end Am.F
end
section
namespace Am.F
open Go Am
section
variable {β:Type} {t:ETree}
end
end Am.F
end
