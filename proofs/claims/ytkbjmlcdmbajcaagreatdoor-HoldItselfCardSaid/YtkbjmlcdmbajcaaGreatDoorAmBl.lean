/- Walks: the reference's Below. -/
import Derived.Test.YtkbjmlcdmbajcaaGreatDoorAmHoW
import Derived.Test.YtkbjmlcdmbajcaaGreatDoorAmGBLW
open Nat (reduceAdd reduceMul)
open Int (reduceToNat)
set_option linter.unusedSimpArgs false
set_option linter.unusedVariables false
namespace Am.F
open Go Am
section
variable {t:ETree}
def LessOk(t:ETree)(d n:Nat):Prop:=∀{β:Type} (a b:List UInt8) (h:H),mayP a=true->mayP b=true->a.length<d->Sp (β:=β) (zc t stdI n (.fn 173 []) [.str a,.str b] h) λu h'=>Ext h h'/\u = .bool (zbq d a b)
theorem zjf(r:List UInt8->List UInt8->Bool)(a:List UInt8)(as:List (List UInt8))(b:List UInt8)(bs:List (List UInt8)):zc7 r (a::as) (b::bs)=(r a b&&zc7 r as bs):=rfl
theorem GBL.less(TB:GBL t)(T:GA t)(d:Nat):∀n:Nat,2100+d<=n->LessOk t d n:=by
 induction d with
 | zero=>intro n _ β a b h _ _ hd;exact absurd hd (by omega)
 | succ d ihd=>
  intro n hn β a b h ha hb hd k R hk;obtain⟨m,rfl⟩:∃m,n=m+1:=⟨n-1,by omega⟩
  have ih:LessOk t d m:=ihd m (by omega);obtain⟨u,hu⟩:=(zZ a).1 ha;obtain⟨v,hv⟩:=(zZ b).1 hb;have hrfa:refP a=some (toC a u):=by rw[zcs,hu];rfl
  have hrfb:refP b=some (toC b v):=by rw[zcs,hv];rfl
  have la:=(zaP hu).1;have lb:=(zaP hv).1;have hka:=zcL hu;have hless:zbq (d+1) a b=if u.kind=0 then true else decide (u.kind=v.kind/\u.num=v.num/\u.kids.length=v.kids.length)&&zc7 (zbq d) u.kids v.kids:=by
   conv=>lhs;unfold zbq
   rw[hu,hv]
  have W1:=T.w12 (β:=β) m (by omega) a (by omega) h;rw[hrfa] at W1;rw[TB.c173];unfold f173;simp (disch:=first|omega|simp only[zD]<;>omega|assumption) only[↓zR,↓zRM,zR,zRM,reduceAdd,reduceMul,reduceToNat];refine W1 _ _ ?_;intro x h1 ⟨e1,eu⟩;obtain⟨c,eu,hc⟩:∃c,x = .tup [.int .i64 u.kind,.int .i64 u.num,c,.int .i64 0]/\zP h1 h.n h1.n 1 c (strs u.kids):=eu;subst eu;have W2:=T.w12 (β:=β) m (by omega) b (by omega) h1;rw[hrfb] at W2;simp (disch:=first|omega|simp only[zD]<;>omega|assumption) only[↓zR,↓zRM,zR,zRM,reduceAdd,reduceMul,reduceToNat];refine W2 _ _ ?_;intro y h2 ⟨e2,eu⟩;obtain⟨c2,eu,hc2⟩:∃c,y = .tup [.int .i64 v.kind,.int .i64 v.num,c,.int .i64 0]/\zP h2 h1.n h2.n 1 c (strs v.kids):=eu;subst eu;have s1:SlAt h2 c (strs u.kids):=(hc.sl (Nat.le_refl _)).ext e2;have s2:SlAt h2 c2 (strs v.kids):=hc2.sl (Nat.le_refl _);have l1:∀kc:VK β,qLenL c (.mk kc)=kc (.int .i64 (u.kids.length:Int)):=λkc=>by rw[s1.len,zak]
  have l2:∀kc:VK β,qLenL c2 (.mk kc)=kc (.int .i64 (v.kids.length:Int)):=λkc=>by rw[s2.len,zak]
  have e12:=e1.trans e2
  by_cases h0:u.kind=0
  ·simp (disch:=first|omega|simp only[zD]<;>omega|assumption) only[↓zR,↓zRM,zR,zRM,reduceAdd,reduceMul,reduceToNat,eq_true h0];exact hk _ _ ⟨e12,by rw[hless,if_pos h0]⟩
  rw[if_neg h0] at hless;have no:¬ (u.kind=v.kind/\u.num=v.num/\u.kids.length=v.kids.length)->k (.bool false) h2=R:=λhno=>hk _ _ ⟨e12,by rw[hless,decide_eq_false hno,Bool.false_and]⟩
  by_cases y1:u.kind=v.kind
  case neg=>
   simp (disch:=first|omega|simp only[zD]<;>omega|assumption) only[↓zR,↓zRM,zR,zRM,reduceAdd,reduceMul,reduceToNat,↓f173_J10,eq_false h0,eq_false y1];exact no λhh=>y1 hh.1
  by_cases y2:u.num=v.num
  case neg=>
   simp (disch:=first|omega|simp only[zD]<;>omega|assumption) only[↓zR,↓zRM,zR,zRM,reduceAdd,reduceMul,reduceToNat,↓f173_J10,eq_false h0,eq_true y1,eq_false y2];exact no λhh=>y2 hh.2.1
  by_cases y3:u.kids.length=v.kids.length
  case neg=>
   have y3':¬ (u.kids.length:Int)=(v.kids.length:Int):=by omega
   simp (disch:=first|omega|simp only[zD]<;>omega|assumption) only[↓zR,↓zRM,zR,zRM,reduceAdd,reduceMul,reduceToNat,↓f173_J10,eq_false h0,eq_true y1,eq_true y2,l1,l2,eq_false y3'];exact no λhh=>y3 hh.2.2
  have y3':(u.kids.length:Int)=(v.kids.length:Int):=by omega
  rw[decide_eq_true ⟨y1,y2,y3⟩,Bool.true_and] at hless;have hkl:=hka.2.1;simp (disch:=first|omega|simp only[zD]<;>omega|assumption) only[↓zR,↓zRM,zR,zRM,reduceAdd,reduceMul,reduceToNat,↓f173_J10,↓f173_J11,eq_false h0,eq_true y1,eq_true y2,l1,l2,eq_true y3'];refine zL 21 m _ _ (λi x0 x1 x2 x3 x4 x5 x6 x7 x8 x9 x10 x11 x12 x13 x14 x15 x16 x17 x18 x19 x20 h'=>Ext h2 h'/\x5=c/\x8=c2/\∃j:Nat,x9 = .int .i64 (j:Int)/\j+i=u.kids.length/\zc7 (zbq d) u.kids v.kids=zc7 (zbq d) (u.kids.drop j) (v.kids.drop j)) u.kids.length (by omega) ?_ _ _ _ _ _ _ _ _ _ _ _ _ _ _ _ _ _ _ _ _ _ _
   ⟨Ext.refl _,rfl,rfl,0,rfl,by omega,rfl⟩
  intro l i ihl x0 x1 x2 x3 x4 x5 x6 x7 x8 x9 x10 x11 x12 x13 x14 x15 x16 x17 x18 x19 x20 h' ⟨f1,p5,p8,j,p9,f2,f3⟩;subst p5 p8 p9;cases i with
  | zero=>
   have hj:j=u.kids.length:=by omega
   have cj:¬ (j:Int)<(u.kids.length:Int):=by omega
   simp (disch:=first|omega|simp only[zD]<;>omega|assumption) only[↓zR,↓zRM,zR,zRM,reduceAdd,reduceMul,reduceToNat,↓f173_J12,↓f173_J15,↓f173_J14,↓f173_L13,↓f173_J11,↓f173_J10,l1,eq_false cj];refine hk _ _ ⟨e12.trans f1,?_⟩;rw[hless,f3,List.drop_eq_nil_of_le (by omega)];rfl
  | succ i=>
   have hj:j<u.kids.length:=by omega
   have cj:(j:Int)<(u.kids.length:Int):=by omega
   obtain⟨x,hx⟩:∃x,u.kids[j]?=some x:=⟨_,List.getElem?_eq_getElem hj⟩
   obtain⟨y,hy⟩:∃y,v.kids[j]?=some y:=⟨_,List.getElem?_eq_getElem (by omega)⟩
   have hdk:u.kids.drop j=x::u.kids.drop (j+1):=by rw[List.drop_eq_getElem_cons hj];congr 1;exact (List.getElem?_eq_some_iff.1 hx).2
   have hdp:v.kids.drop j=y::v.kids.drop (j+1):=by rw[List.drop_eq_getElem_cons (by omega)];congr 1;exact (List.getElem?_eq_some_iff.1 hy).2
   rw[hdk,hdp,zjf] at f3;have q1:=λkc:VK β=>(s1.ext f1).loadS (i:=(j:Int)) (kd:=.i64) (by omega) (by omega) kc
   rw[Int.toNat_natCast,show u.kids.getD j []=x by rw[List.getD_eq_getElem?_getD,hx];rfl] at q1;have q2:=λkc:VK β=>(s2.ext f1).loadS (i:=(j:Int)) (kd:=.i64) (by omega) (by omega) kc
   rw[Int.toNat_natCast,show v.kids.getD j []=y by rw[List.getD_eq_getElem?_getD,hy];rfl] at q2;simp (disch:=first|omega|simp only[zD]<;>omega|assumption) only[↓zR,↓zRM,zR,zRM,reduceAdd,reduceMul,reduceToNat,↓f173_J12,↓f173_J15,↓f173_J14,↓f173_L13,↓f173_J11,↓f173_J10,l1,eq_true cj,q1,q2];refine ih x y h' (zcX hu x (List.mem_of_getElem? hx)).1 (zcX hv y (List.mem_of_getElem? hy)).1 (by have:=(zcX hu x (List.mem_of_getElem? hx)).2;omega) _ _ ?_;intro r h5 ⟨e5,er⟩;subst er;cases hl:zbq d x y with
   | false=>
    rw[hl,Bool.false_and] at f3;simp (disch:=first|omega|simp only[zD]<;>omega|assumption) only[↓zR,↓zRM,zR,zRM,reduceAdd,reduceMul,reduceToNat,↓f173_J12,↓f173_J15,↓f173_J14,↓f173_L13,↓f173_J11,↓f173_J10,hl];exact hk _ _ ⟨(e12.trans f1).trans e5,by rw[hless,f3]⟩
   | true=>
    rw[hl,Bool.true_and] at f3;simp (disch:=first|omega|simp only[zD]<;>omega|assumption) only[↓zR,↓zRM,zR,zRM,reduceAdd,reduceMul,reduceToNat,↓f173_J12,↓f173_J15,↓f173_J14,↓f173_L13,↓f173_J11,↓f173_J10,hl];exact ihl i (by omega) _ _ _ _ _ _ _ _ _ _ _ _ _ _ _ _ _ _ _ _ _ _ ⟨f1.trans e5,rfl,rfl,j+1,zaM j,by omega,f3⟩
variable {β:Type}
theorem GBL.w146(TB:GBL t)(T:GA t)(n:Nat)(a b:List UInt8)(ha:a.length<=9223372036854775807)(hb:b.length<=9223372036854775807)(hn:3200<=n)(h:H) :
  Sp (β:=β) (zc t stdI n (.fn 146 []) [.str a,.str b] h) λu h'=>Ext h h'/\u=if mayP a=true/\mayP b=true then .tup [.bool (zbq (a.length+1) a b),.int .i64 0] else .tup [.bool false,.int .i64 300]:=by
 intro k R hk;obtain⟨m,rfl⟩:∃m,n=m+1:=⟨n-1,by omega⟩
 have Wa:=T.w18 (β:=β) m (by omega) a ha h;rw[TB.c146];unfold f146;simp (disch:=first|omega|simp only[zD]<;>omega|assumption) only[↓zR,↓zRM,zR,zRM,reduceAdd,reduceMul,reduceToNat];refine Wa _ _ ?_;intro u h1 ⟨e1,eu⟩;rw[zcy] at eu;subst eu;cases hma:mayP a with
 | false=>
  simp (disch:=first|omega|simp only[zD]<;>omega|assumption) only[↓zR,↓zRM,zR,zRM,reduceAdd,reduceMul,reduceToNat,hma];exact hk _ _ ⟨e1,by rw[if_neg (λhh=>by rw[hh.1] at hma;cases hma)]⟩
 | true=>
  simp (disch:=first|omega|simp only[zD]<;>omega|assumption) only[↓zR,↓zRM,zR,zRM,reduceAdd,reduceMul,reduceToNat,hma];refine T.w18 m (by omega) b hb h1 _ _ ?_;intro u h2 ⟨e2,eu⟩;rw[zcy] at eu;subst eu;cases hmb:mayP b with
  | false=>
   simp (disch:=first|omega|simp only[zD]<;>omega|assumption) only[↓zR,↓zRM,zR,zRM,reduceAdd,reduceMul,reduceToNat,hmb];exact hk _ _ ⟨e1.trans e2,by rw[if_neg (λhh=>by rw[hh.2] at hmb;cases hmb)]⟩
  | true=>
   have hla:a.length<=1024:=by obtain⟨u,hu⟩:=(zZ a).1 hma;exact (zaP hu).1
   simp (disch:=first|omega|simp only[zD]<;>omega|assumption) only[↓zR,↓zRM,zR,zRM,reduceAdd,reduceMul,reduceToNat,↓f146_J0,hmb];refine TB.less T (a.length+1) m (by omega) a b h2 hma hmb (Nat.lt_succ_self _) _ _ ?_;intro u h3 ⟨e3,eu⟩;subst eu;exact hk _ _ ⟨(e1.trans e2).trans e3,by rw[if_pos ⟨hma,hmb⟩]⟩
end
end Am.F
