/- Texts that belong together: no condition. -/
import Derived.Test.YtginckfdokjjpaaDoorAmJc
import Derived.Test.YtginckfdokjjpaaDoorAmJh
import Derived.Test.YtginckfdokjjpaaDoorAmJg
import Derived.Test.YtginckfdokjjpaaDoorAmJf
set_option maxRecDepth 100000
set_option linter.unusedVariables false
set_option linter.unusedSimpArgs false
set_option linter.defProp false
section
namespace Am.T
open Go
end Am.T
end
section
namespace Am.F
open Go Am
section
variable {β:Type} {t:ETree} {I:FI} (n:Nat) (a:List AV) (h:H) (k:K β)
end
end Am.F
end
section
namespace Am.F
open Go Am
def NdC(h:H)(cs:List AV)(x:Nd):Prop:=∃w,cs=zg7 x w/\SlAt h w (strs x.args)
theorem NdC.stays:zgr NdC:=λ_ _ _ _ ⟨w,h1,h2⟩ e=>⟨w,h1,h2.ext e⟩
def NextP(x:Nd)(i:Nat):Prop:=i<512/\eqMay x=true/\(0<=x.parent/\x.parent<(i:Int)\/i=0/\x.parent = -1)
def zhI(ns:List Nd):Prop:=ns≠[]/\∀(q:Nat) (x:Nd),ns[q]?=some x->NextP x q
theorem zhI.take{ns:List Nd}(h:zhI ns){k:Nat}(hk:0<k)(hk2:k<=ns.length):zhI (ns.take k):=by
 refine⟨λhn=>?_,λq x hq=>h.2 q x ?_⟩
 ·have:=congrArg List.length hn
  rw[List.length_take,List.length_nil] at this;omega
 ·rw[List.getElem?_take] at hq;split at hq
  ·exact hq
  ·cases hq
section
variable {β:Type} {t:ETree}
end
end Am.F
end
section
namespace Am.F
open Go Am
structure Levels (d:Df) (lv:List Int):Prop where
 len:lv.length=d.body.length
 last:lv.getD (d.body.length-1) 0=d.params
 part:∀(i:Nat) (e:Ex),d.body[i]?=some e->(0<=lv.getD i 0/\lv.getD i 0<=8)/\zbd e (lv.getD i 0)/\∀(k:Nat) (kid:Int),e.kids[k]?=some kid->(0<=kid/\kid<(i:Int))/\lv.getD kid.toNat 0=lv.getD i 0+more e k
theorem zcz(i:Nat)(e:Ex):∀(ks:List Int) (k:Nat) (lv lv':List Int),zbO i e k ks lv=some lv'->i<lv.length->¬ lv.getD i 0 = -1->(∀q,0<=lv.getD i 0+more e q) ->
  lv'.length=lv.length/\(∀j,¬ lv.getD j 0 = -1->lv'.getD j 0=lv.getD j 0)/\∀(q:Nat) (kid:Int),ks[q]?=some kid->(0<=kid/\kid<(i:Int))/\lv'.getD kid.toNat 0=lv.getD i 0+more e (k+q:Nat)
 | [],k,lv,lv',h,_,_,_=>by
  cases h;exact⟨rfl,λ_ _=>rfl,λq kid hq=>by simp at hq⟩
 | kid::ks,k,lv,lv',h,hi,hn,hp=>by
  have h':(if 0<=kid/\kid<(i:Int)/\lv.getD kid.toNat 0 = -1 then zbO i e (k+1) ks (lv.set kid.toNat (lv.getD i 0+more e k)) else none)=some lv':=h
  by_cases hc:0<=kid/\kid<(i:Int)/\lv.getD kid.toNat 0 = -1
  ·rw[if_pos hc] at h';obtain⟨c1,c2,c3⟩:=hc;have hne:kid.toNat≠i:=by omega
   have hgi:(lv.set kid.toNat (lv.getD i 0+more e k)).getD i 0=lv.getD i 0:=getD_set_ne _ _ hne;obtain⟨s1,s2,s3⟩:=zcz i e ks (k+1) _ lv' h' (by rw[List.length_set];exact hi) (by rw[hgi];exact hn) (by rw[hgi];exact hp);rw[hgi] at s3;have hkl:kid.toNat<lv.length:=by omega
   have hself:(lv.set kid.toNat (lv.getD i 0+more e k)).getD kid.toNat 0=lv.getD i 0+more e k:=getD_set_eq _ _ hkl;refine⟨by rw[s1,List.length_set],λj hj=>?_,λq x hq=>?_⟩
   ·have hjk:kid.toNat≠j:=λhh=>by rw[<- hh] at hj;exact hj c3
    have:=s2 j (by rw[getD_set_ne _ _ hjk];exact hj)
    rw[this,getD_set_ne _ _ hjk]
   ·cases q with
    | zero=>
     cases hq;refine⟨⟨c1,c2⟩,?_⟩;have:=s2 kid.toNat (by rw[hself];have:=hp k;omega)
     rw[this,hself];rfl
    | succ q=>
     obtain⟨t1,t2⟩:=s3 q x hq;refine⟨t1,?_⟩;rw[t2];congr 3;omega
  ·rw[if_neg hc] at h';cases h'
theorem zcM(body:List Ex):∀(i:Nat) (lv:List Int),zc7 body i lv=true->i<=lv.length->lv.length=body.length->(∀q,-1<=lv.getD q 0) ->
  ∃fin:List Int,fin.length=lv.length/\(∀j,¬ lv.getD j 0 = -1->fin.getD j 0=lv.getD j 0) /\
   ∀(j:Nat) (e:Ex),j<i->body[j]?=some e->(0<=fin.getD j 0/\fin.getD j 0<=8)/\zbd e (fin.getD j 0)/\∀(k:Nat) (kid:Int),e.kids[k]?=some kid->(0<=kid/\kid<(j:Int))/\fin.getD kid.toNat 0=fin.getD j 0+more e k
 | 0,lv,_,_,_,_=>⟨lv,rfl,λ_ _=>rfl,λj e hj=>absurd hj (by omega)⟩
 | i+1,lv,h,hi,hl,hb=>by
  obtain⟨e,he⟩:∃e,body[i]?=some e:=⟨_,List.getElem?_eq_getElem (by omega)⟩
  by_cases c1:lv.getD i 0 = -1
  ·rw[zdw body i lv he (.inl c1)] at h;cases h
  by_cases c2:8<lv.getD i 0
  ·rw[zdw body i lv he (.inr (.inl c2))] at h;cases h
  by_cases c3:zbd e (lv.getD i 0)
  case neg=>rw[zdw body i lv he (.inr (.inr c3))] at h;cases h
  rw[bodyGo_s body i lv he c1 c2 c3] at h;cases hk:zbO i e 0 e.kids lv with
  | none=>rw[hk] at h;cases h
  | some lv'=>
   rw[hk] at h;have hbi:=hb i;have hm:=λq:Int=>more_le c3.bind q
   obtain⟨s1,s2,s3⟩:=zcz i e e.kids 0 lv lv' hk (by omega) c1 (λq=>by have:=hm q;omega);have hb':∀q,-1<=lv'.getD q 0:=by
    intro q
    by_cases hq:lv.getD q 0 = -1
    ·-- it may have been a kid's place,or stays
     exact kids_lb i e e.kids 0 lv lv' hk hb (λq=>by have:=hm q;omega) q
    ·rw[s2 q hq];exact hb q
   obtain⟨fin,f1,f2,f3⟩:=zcM body i lv' h (by omega) (by omega) hb';have hfi:fin.getD i 0=lv.getD i 0:=by rw[f2 i (by rw[s2 i c1];exact c1),s2 i c1]
   refine⟨fin,by omega,λj hj=>by rw[f2 j (by rw[s2 j hj];exact hj),s2 j hj],λj x hj hx=>?_⟩;rcases Nat.lt_or_ge j i with hji|hji
   ·exact f3 j x hji hx
   ·have:j=i:=by omega
    subst this;rw[he] at hx;cases hx;rw[hfi];refine⟨⟨by omega,by omega⟩,c3,λk kid hkid=>?_⟩;obtain⟨t1,t2⟩:=s3 k kid hkid;refine⟨t1,?_⟩;rw[Nat.zero_add] at t2;have hmk:=hm k;rw[f2 kid.toNat (by rw[t2];omega),t2]
where
 kids_lb (i:Nat) (e:Ex):∀(ks:List Int) (k:Nat) (lv lv':List Int),zbO i e k ks lv=some lv'->(∀q,-1<=lv.getD q 0)->(∀q:Int,0<=lv.getD i 0+more e q)->∀q,-1<=lv'.getD q 0
  | [],k,lv,lv',h,hb,_,q=>by cases h;exact hb q
  | kid::ks,k,lv,lv',h,hb,hp,q=>by
   have h':(if 0<=kid/\kid<(i:Int)/\lv.getD kid.toNat 0 = -1 then zbO i e (k+1) ks (lv.set kid.toNat (lv.getD i 0+more e k)) else none)=some lv':=h
   by_cases hc:0<=kid/\kid<(i:Int)/\lv.getD kid.toNat 0 = -1
   ·rw[if_pos hc] at h';have hgi:(lv.set kid.toNat (lv.getD i 0+more e k)).getD i 0=lv.getD i 0:=getD_set_ne _ _ (by omega);refine kids_lb i e ks (k+1) _ lv' h' (λq=>?_) (by rw[hgi];exact hp) q
    by_cases hq:kid.toNat=q
    ·subst hq
     by_cases hl:kid.toNat<lv.length
     ·rw[getD_set_eq _ _ hl];have:=hp k;omega
     ·rw[List.set_eq_of_length_le (by omega)];exact hb _
    ·rw[getD_set_ne _ _ hq];exact hb q
   ·rw[if_neg hc] at h';cases h'
theorem zds{d:Df}(h:zcJ d=true):∃lv,Levels d lv:=by
 have hl:=zc5 h;unfold zcJ at h;rw[Bool.and_eq_true] at h;obtain⟨h1,h2⟩:=h;have h1:=of_decide_eq_true h1;have hfl:(zby d).length=d.body.length:=by unfold zby;rw[List.length_append,List.length_replicate];simp;omega
 have hlast:(zby d).getD (d.body.length-1) 0=d.params:=by
  unfold zby;rw[List.getD_eq_getElem?_getD,List.getElem?_append_right (by rw[List.length_replicate];omega),List.length_replicate,Nat.sub_self];rfl
 obtain⟨fin,f1,f2,f3⟩:=zcM d.body d.body.length (zby d) h2 (by omega) hfl (λq=>by
  by_cases hq:q=d.body.length-1
  ·rw[hq,hlast];omega
  ·unfold zby;rw[List.getD_eq_getElem?_getD];rcases Nat.lt_or_ge q (d.body.length-1) with hq2|hq2
   ·rw[List.getElem?_append_left (by rw[List.length_replicate];exact hq2),List.getElem?_replicate,if_pos hq2];simp
   ·rw[List.getElem?_eq_none (by rw[List.length_append,List.length_replicate];simp;omega)];simp)
 refine⟨fin,by omega,?_,λi e he=>f3 i e (List.getElem?_eq_some_iff.1 he).1 he⟩;rw[f2 _ (by rw[hlast];omega),hlast]
end Am.F
end
section
namespace Am.T
open Go
def s155:SFn:=.src 36 [0,1,2,3,4,8,9,10,11,12,13,14,15,21,22,23,26,30,31,34] [.tmp 5,.tmp 6]<|.seq (.reg [.set 4 (.P 4 (.box 0) [.V 0]),.set 5 (.M 8 (.k (.str []))),.set 6 (.M 9 (.I 0))])<|.seq (.reg [.set 12 (.M 15 (.P 20 (.call 181) [.P 16 (.loadN 1) [.V 4],.W 1 17,.W 2 18,.W 3 19])),.set 13 (.P 21 (.ext 0) [.V 12]),.set 14 (.P 22 (.ext 1) [.V 12]),.set 15 (.P 23 (.ext 2) [.V 12]),.set 8 (.P 11 (.alloc 0 [.str [],.nils,.int .i64 0,.nils]) []),.set 7 (.M 10 (.V 13)),.ef (.op none (.store 4) [.V 8,.V 14]),.set 9 (.M 12 (.V 15))])<|.seq (.ifr [] (.P 25 .notB [.W 9 24]) (.seq (.reg [.set 5 (.M 8 (.k (.str []))),.set 6 (.M 9 (.I 900))])<|.ret) .skip)<|.seq (.reg [.set 16 (.M 26 (.P 29 (.call 184) [.W 7 27,.P 28 (.loadN 4) [.V 8]])),.set 17 (.P 30 (.ext 0) [.V 16]),.set 18 (.P 31 (.ext 1) [.V 16]),.set 10 (.P 13 (.alloc 0 [.int .i64 0,.int .i64 0,.nils]) []),.ef (.op none (.store 3) [.V 10,.V 17]),.set 11 (.M 14 (.V 18))])<|.seq (.ifr [] (.P 33 (.binI .neq) [.W 11 32,.I 0]) (.seq (.reg [.set 19 (.M 34 (.V 11)),.set 5 (.M 8 (.k (.str []))),.set 6 (.M 9 (.V 19))])<|.ret) .skip)<|.seq (.reg [.set 5 (.M 8 (.P 35 (.call 185) [.V 10])),.set 6 (.M 9 (.I 0))])<|.ret
def s181:SFn:=.src 76 [0,1,2,3,4,8,9,10,11,12,14,53,59,60,61,62,71,75] [.tmp 5,.cellN 6 4,.tmp 7]<|.seq (.reg [.set 4 (.P 4 (.box 0) [.V 0]),.set 5 (.M 8 (.k .nilp)),.set 6 (.P 9 (.alloc 0 [.str [],.nils,.int .i64 0,.nils]) []),.set 7 (.M 10 (.k (.bool false)))])<|.seq (.ifr [] (.or 49 52 (.or 45 48 (.or 40 44 (.or 29 39 (.or 22 28 (.or 18 21 (.P 17 .notB [.P 16 (.call 157) [.P 15 (.loadN 1) [.V 4]]]) (.P 20 (.binI .lss) [.W 1 19,.I 0])) (.P 27 (.binI .geq) [.W 1 23,.P 26 .lenL [.P 25 .load1 [.P 24 (.fadr 0) [.V 4]]]])) (.P 38 (.binI .neq) [.P 31 .lenL [.W 2 30],.P 37 .load1 [.P 36 (.fadr 0) [.P 35 (.iadr 2) [.P 33 .load1 [.P 32 (.fadr 0) [.V 4]],.W 1 34]]]])) (.P 43 .notB [.P 42 (.call 26) [.W 2 41]])) (.P 47 (.binI .lss) [.W 3 46,.I 0])) (.P 51 (.binI .gtr) [.W 3 50,.I 400])) (.seq (.reg [.set 11 (.P 53 (.build [.str [],.nils,.int .i64 0,.nils] []) []),.set 5 (.M 8 (.k .nilp)),.ef (.op none (.store 4) [.V 6,.V 11]),.set 7 (.M 10 (.k (.bool false)))])<|.ret) .skip)<|.seq (.reg [.set 8 (.M 11 (.P 58 (.box 0) [.P 57 (.build [.nils,.int .i64 0] [(0 ,1),(1 ,1)]) [.P 55 .load1 [.P 54 (.fadr 0) [.V 4]],.W 3 56]]))])<|.seq (.reg [.set 9 (.M 12 (.k .nils))])<|.seq (.seq (.reg [.set 12 (.M 59 (.V 2)),.set 13 (.P 60 .lenL [.V 12]),.set 14 (.M 61 (.I 0))])<|.block 0<|.loop [1,6,8,9,12,13,14]<|.seq (.reg [.set 15 (.P 62 (.binI .lss) [.V 14,.V 13])])<|.seq (.cond (.t 15) .skip (.exit 0))<|.seq (.block 1<|.seq (.reg [.set 10 (.M 14 (.P 64 .load1 [.P 63 (.iadr 1) [.V 12,.V 14]]))])<|.reg [.set 9 (.M 12 (.P 69 (.app 0 4 72) [.W 9 65,.P 68 (.bslice 0 [.str [],.nils,.int .i64 0,.nils] 1 [(0 ,4)]) [.P 67 (.call 204) [.W 10 66]]]))])<|.reg [.set 14 (.M 61 (.P 70 (.binI .add) [.V 14,.I 1]))])<|.seq (.reg [.set 16 (.M 71 (.V 8)),.set 17 (.P 75 (.call 205) [.W 8 72,.W 1 73,.W 9 74]),.set 5 (.M 8 (.V 16)),.ef (.op none (.store 4) [.V 6,.V 17]),.set 7 (.M 10 (.k (.bool true)))])<|.ret
def s184:SFn:=.src 139 [0,1,3,4,5,6,7,8,18,33,34,35,36,85,89,90,100,101,102,136,137,138] [.cellN 3 3,.tmp 4]<|.seq (.reg [.set 2 (.P 3 (.box 0) [.V 1]),.set 3 (.P 4 (.alloc 0 [.int .i64 0,.int .i64 0,.nils]) []),.set 4 (.M 5 (.I 0))])<|.seq (.block 0<|.loop [0,2,3]<|.seq (.ifr [] (.P 11 (.isNil .sl true) [.P 10 .load1 [.P 9 (.fadr 1) [.V 2]]]) .skip (.exit 0))<|.block 1<|.seq (.ifr [] (.P 16 (.binI .eql) [.P 15 .load1 [.P 14 (.fadr 1) [.P 13 .nilCheck [.W 0 12]]],.I 0]) (.seq (.reg [.ef (.op none (.store 3) [.V 3,.P 17 (.build [.int .i64 0,.int .i64 0,.nils] []) []]),.set 4 (.M 5 (.I 901))])<|.ret) .skip)<|.seq (.reg [.set 8 (.M 18 (.V 0)),.ef (.opr none (.store 1) (.P 24 (.fadr 1) [.P 23 .nilCheck [.V 8]]) (.P 22 (.binI .sub) [.P 21 .load1 [.P 20 (.fadr 1) [.P 19 .nilCheck [.V 8]]],.I 1]))])<|.seq (.reg [.set 5 (.M 6 (.P 29 (.iadr 4) [.P 26 .load1 [.P 25 (.fadr 1) [.V 2]],.P 28 .load1 [.P 27 (.fadr 2) [.V 2]]]))])<|.seq (.reg [.set 9 (.P 33 .load1 [.P 32 (.fadr 0) [.P 31 .nilCheck [.W 5 30]]])])<|.block 2<|.ifr [] (.M 37 (.P 38 (.binI .eql) [.V 9,.I 0])) (.seq (.reg [.ef (.op none (.store 3) [.V 3,.P 43 (.build [.int .i64 0,.int .i64 0,.nils] [(0 ,1),(1 ,1)]) [.I 1,.P 42 .load1 [.P 41 (.fadr 1) [.P 40 .nilCheck [.W 5 39]]]]]),.set 4 (.M 5 (.I 0))])<|.ret) (.ifr [] (.M 44 (.P 45 (.binI .eql) [.V 9,.I 1])) (.dreg [46,47,48,49,50,51,52,53] [⟨ (some 22),.fadr 3,[.t 2],none⟩,⟨ (some 23),.load1,[.t 22],none⟩,⟨ (some 24),.mov,[.t 5],none⟩,⟨ (some 25),.nilCheck,[.t 24],none⟩,⟨ (some 26),.fadr 1,[.t 25],none⟩,⟨ (some 27),.load1,[.t 26],none⟩,⟨ (some 28),.iadr 4,[.t 23,.t 27],none⟩,⟨ (some 29),.loadN 4,[.t 28],none⟩,⟨none,.store 4,[.t 2,.t 29],none⟩] [.op 0,.op 1,.op 2,.op 3,.op 4,.op 5,.op 6,.op 7,.op 8]) (.ifr [] (.M 54 (.P 55 (.binI .eql) [.V 9,.I 2])) (.dreg [56,57,58,59,60,61,62] [⟨ (some 22),.mov,[.t 0],none⟩,⟨ (some 23),.mov,[.t 5],none⟩,⟨ (some 24),.nilCheck,[.t 23],none⟩,⟨ (some 25),.fadr 1,[.t 24],none⟩,⟨ (some 26),.load1,[.t 25],none⟩,⟨ (some 27),.call 206,[.t 2],none⟩,⟨ (some 28),.call 205,[.t 22,.t 26,.t 27],none⟩,⟨none,.store 4,[.t 2,.t 28],none⟩] [.op 0,.op 1,.op 2,.op 3,.op 4,.op 5,.chk 4,.op 6,.op 7]) (.ifr [] (.M 63 (.P 64 (.binI .eql) [.V 9,.I 3])) (.seq (.dreg [65,66,67,68,69,70] [⟨ (some 22),.mov,[.t 5],none⟩,⟨ (some 23),.nilCheck,[.t 22],none⟩,⟨ (some 24),.fadr 1,[.t 23],none⟩,⟨ (some 25),.load1,[.t 24],none⟩,⟨ (some 26),.call 206,[.t 2],none⟩,⟨ (some 27),.build [.int .i64 0,.int .i64 0,.nils] [(0 ,1),(1 ,1),(2 ,1)],[.c (.int .i64 2),.t 25,.t 26],none⟩,⟨none,.store 3,[.t 3,.t 27],none⟩,⟨ (some 4),.mov,[.c (.int .i64 0)],none⟩] [.op 0,.op 1,.op 2,.op 3,.op 4,.chk 3,.op 5,.op 6,.op 7])<|.ret) (.ifr [] (.M 71 (.P 72 (.binI .eql) [.V 9,.I 4])) (.seq (.dreg [73,74,75,76,77,78,79,80,81,82] [⟨ (some 22),.mov,[.t 0],none⟩,⟨ (some 23),.mov,[.t 5],none⟩,⟨ (some 24),.nilCheck,[.t 23],none⟩,⟨ (some 25),.fadr 1,[.t 24],none⟩,⟨ (some 26),.load1,[.t 25],none⟩,⟨ (some 27),.call 208,[.t 2,.c (.int .i64 0),.c .nils],none⟩,⟨ (some 28),.call 208,[.t 2,.c (.int .i64 1),.c .nils],none⟩,⟨ (some 29),.call 207,[.t 22,.t 26,.t 27,.t 28],none⟩,⟨ (some 30),.ext 0,[.t 29],none⟩,⟨ (some 31),.ext 1,[.t 29],none⟩,⟨none,.store 3,[.t 3,.t 30],none⟩,⟨ (some 4),.mov,[.t 31],none⟩] [.op 0,.op 1,.op 2,.op 3,.op 4,.op 5,.chk 4,.op 6,.chk 4,.op 7,.op 8,.op 9,.op 10,.op 11])<|.ret) (.ifr [] (.M 83 (.P 84 (.binI .eql) [.V 9,.I 5])) (.seq (.reg [.set 13 (.M 85 (.P 88 (.call 184) [.W 0 86,.P 87 (.call 208) [.V 2,.I 0,.k .nils]])),.set 14 (.P 89 (.ext 0) [.V 13]),.set 15 (.P 90 (.ext 1) [.V 13]),.set 6 (.P 7 (.alloc 0 [.int .i64 0,.int .i64 0,.nils]) []),.ef (.op none (.store 3) [.V 6,.V 14]),.set 7 (.M 8 (.V 15))])<|.block 3<|.ifr [] (.M 92 (.or 95 99 (.P 94 (.binI .neq) [.W 7 93,.I 0]) (.P 98 (.binI .eql) [.P 97 .load1 [.P 96 (.fadr 0) [.V 6]],.I 3]))) (.seq (.reg [.set 16 (.P 100 (.loadN 3) [.V 6]),.set 17 (.M 101 (.V 7)),.ef (.op none (.store 3) [.V 3,.V 16]),.set 4 (.M 5 (.V 17))])<|.ret) (.seq (.dreg [103,104,105,106,107,108,109,110,111,112,113,114,115,116,117,118,119,120,121,122,123,124] [⟨ (some 22),.fadr 0,[.t 6],none⟩,⟨ (some 23),.load1,[.t 22],none⟩,⟨ (some 24),.binI .eql,[.t 23,.c (.int .i64 2)],none⟩,⟨ (some 25),.mov,[.t 24],none⟩,⟨ (some 26),.fadr 1,[.t 6],(some (25 ,true)) ⟩,⟨ (some 27),.load1,[.t 26],(some (25 ,true)) ⟩,⟨ (some 28),.mov,[.t 5],(some (25 ,true)) ⟩,⟨ (some 29),.nilCheck,[.t 28],(some (25 ,true)) ⟩,⟨ (some 30),.fadr 1,[.t 29],(some (25 ,true)) ⟩,⟨ (some 31),.load1,[.t 30],(some (25 ,true)) ⟩,⟨ (some 32),.binI .eql,[.t 27,.t 31],(some (25 ,true)) ⟩,⟨ (some 33),.pick,[.t 25,.t 32,.c (.bool false)],none⟩,⟨ (some 34),.mov,[.t 33],none⟩,⟨ (some 35),.fadr 2,[.t 6],(some (34 ,true)) ⟩,⟨ (some 36),.load1,[.t 35],(some (34 ,true)) ⟩,⟨ (some 37),.lenL,[.t 36],(some (34 ,true)) ⟩,⟨ (some 38),.mov,[.t 5],(some (34 ,true)) ⟩,⟨ (some 39),.nilCheck,[.t 38],(some (34 ,true)) ⟩,⟨ (some 40),.fadr 2,[.t 39],(some (34 ,true)) ⟩,⟨ (some 41),.load1,[.t 40],(some (34 ,true)) ⟩,⟨ (some 42),.binI .eql,[.t 37,.t 41],(some (34 ,true)) ⟩,⟨ (some 43),.pick,[.t 34,.t 42,.c (.bool false)],none⟩,⟨ (some 18),.mov,[.t 43],none⟩] [.op 0,.op 1,.op 2,.op 3,.op 4,.op 5,.op 6,.op 7,.op 8,.op 9,.op 10,.op 11,.op 12,.op 13,.op 14,.op 15,.op 16,.op 17,.op 18,.op 19,.op 20,.op 21,.op 22])<|.cond (.t 18) (.reg [.ef (.op none (.store 4) [.V 2,.P 127 (.call 208) [.V 2,.I 1,.P 126 .load1 [.P 125 (.fadr 2) [.V 6]]]])]) (.reg [.ef (.op none (.store 4) [.V 2,.P 91 (.call 208) [.V 2,.I 2,.k .nils]])]))) (.ifr [] (.M 128 (.P 129 (.binI .eql) [.V 9,.I 6])) (.reg [.ef (.op none (.store 4) [.V 2,.P 132 (.call 208) [.V 2,.I 1,.P 131 (.bslice 0 [.str [],.nils,.int .i64 0,.nils] 1 [(0 ,4)]) [.P 130 (.call 208) [.V 2,.I 0,.k .nils]]]])]) (.seq (.reg [.set 10 (.P 34 (.call 209) []),.set 11 (.P 35 (.ext 0) [.V 10]),.set 12 (.P 36 (.ext 1) [.V 10]),.ef (.op none (.store 3) [.V 3,.V 11]),.set 4 (.M 5 (.V 12))])<|.ret))))))))<|.seq (.reg [.set 19 (.P 136 (.call 210) [.W 0 133,.P 135 .load1 [.P 134 (.fadr 0) [.V 2]]]),.set 20 (.P 137 (.ext 0) [.V 19]),.set 21 (.P 138 (.ext 1) [.V 19]),.ef (.op none (.store 3) [.V 3,.V 20]),.set 4 (.M 5 (.V 21))])<|.ret
def s185:SFn:=.src 28 [0,2,6] [.tmp 1]<|.seq (.reg [.set 1 (.M 2 (.k (.str [])))])<|.seq (.seq (.reg [.set 2 (.P 6 .load1 [.P 5 (.fadr 0) [.P 4 .nilCheck [.W 0 3]]])])<|.block 0<|.ifr [] (.M 7 (.P 8 (.binI .eql) [.V 2,.I 3])) (.seq (.reg [.set 1 (.M 2 (.k (.str [33])))])<|.ret) (.ifr [] (.M 9 (.P 10 (.binI .eql) [.V 2,.I 1])) (.seq (.reg [.set 1 (.M 2 (.P 15 (.call 29) [.P 14 .load1 [.P 13 (.fadr 1) [.P 12 .nilCheck [.W 0 11]]]]))])<|.ret) .skip))<|.seq (.dreg [16,17,18,19,20,21,22,23,24,25,26,27] [⟨ (some 3),.mov,[.t 0],none⟩,⟨ (some 4),.nilCheck,[.t 3],none⟩,⟨ (some 5),.fadr 1,[.t 4],none⟩,⟨ (some 6),.load1,[.t 5],none⟩,⟨ (some 7),.bslice 0 [.str []] 1 [(0 ,1)],[.c (.str [95])],none⟩,⟨ (some 8),.mov,[.t 0],none⟩,⟨ (some 9),.nilCheck,[.t 8],none⟩,⟨ (some 10),.fadr 2,[.t 9],none⟩,⟨ (some 11),.load1,[.t 10],none⟩,⟨ (some 12),.lenL,[.t 11],none⟩,⟨ (some 13),.call 211,[.t 7,.t 12],none⟩,⟨ (some 14),.call 27,[.t 6,.t 13],none⟩,⟨ (some 1),.mov,[.t 14],none⟩] [.op 0,.op 1,.op 2,.op 3,.op 5,.op 6,.op 7,.op 8,.op 9,.op 4,.chk 8,.chk 3,.op 10,.chk 3,.op 11,.op 12])<|.ret
def s204:SFn:=.src 5 [0,2] [.cellN 1 4]<|.seq (.reg [.set 1 (.P 2 (.alloc 0 [.str [],.nils,.int .i64 0,.nils]) [])])<|.seq (.reg [.ef (.op none (.store 4) [.V 1,.P 4 (.build [.str [],.nils,.int .i64 0,.nils] [(0 ,1)]) [.W 0 3]])])<|.ret
def s205:SFn:=.src 22 [0,1,2,6,7] [.cellN 3 4]<|.seq (.reg [.set 3 (.P 6 (.alloc 0 [.str [],.nils,.int .i64 0,.nils]) [])])<|.seq (.reg [.set 4 (.M 7 (.P 15 .load1 [.P 14 (.fadr 1) [.P 13 (.iadr 2) [.P 11 .load1 [.P 10 (.fadr 0) [.P 9 .nilCheck [.W 0 8]]],.W 1 12]]]))])<|.seq (.reg [.ef (.op none (.store 4) [.V 3,.P 21 (.build [.str [],.nils,.int .i64 0,.nils] [(1 ,1),(2 ,1),(3 ,1)]) [.W 4 16,.P 19 (.binI .sub) [.P 18 .lenL [.W 4 17],.I 1],.W 2 20]])])<|.ret
def s206:SFn:=.src 28 [0,2,3,4,16,17,18] [.tmp 1]<|.seq (.reg [.set 1 (.M 2 (.k .nils))])<|.seq (.reg [.set 2 (.M 3 (.k .nils))])<|.seq (.seq (.dreg [5,6,7,8,9,10,11,12,13,14,15] [⟨ (some 7),.mov,[.t 0],none⟩,⟨ (some 8),.nilCheck,[.t 7],none⟩,⟨ (some 9),.fadr 1,[.t 8],none⟩,⟨ (some 10),.load1,[.t 9],none⟩,⟨ (some 11),.mov,[.t 0],none⟩,⟨ (some 12),.nilCheck,[.t 11],none⟩,⟨ (some 13),.fadr 2,[.t 12],none⟩,⟨ (some 14),.load1,[.t 13],none⟩,⟨ (some 15),.iadr 4,[.t 10,.t 14],none⟩,⟨ (some 16),.fadr 3,[.t 15],none⟩,⟨ (some 17),.load1,[.t 16],none⟩,⟨ (some 4),.lenL,[.t 17],none⟩,⟨ (some 5),.mov,[.c (.int .i64 0)],none⟩] [.op 0,.op 1,.op 2,.op 3,.op 4,.op 5,.op 6,.op 7,.op 8,.op 9,.op 10,.op 11,.op 12])<|.block 0<|.loop [0,2,4,5]<|.seq (.reg [.set 6 (.P 18 (.binI .lss) [.V 5,.V 4])])<|.seq (.cond (.t 6) .skip (.exit 0))<|.seq (.block 1<|.seq (.reg [.set 3 (.M 4 (.W 5 19))])<|.reg [.set 2 (.M 3 (.P 25 (.app 0 4 72) [.W 2 20,.P 24 (.bslice 0 [.str [],.nils,.int .i64 0,.nils] 1 [(0 ,4)]) [.P 23 (.call 208) [.W 0 21,.W 3 22,.k .nils]]]))])<|.reg [.set 5 (.M 17 (.P 26 (.binI .add) [.V 5,.I 1]))])<|.seq (.reg [.set 1 (.M 2 (.W 2 27))])<|.ret
def s207:SFn:=.src 58 [0,1,2,3,6,7,8,9,10,11,12,13,14,15,19,20,21,22,23,25,26,30,31,34,35,39,40,41,42,47,54,55] [.cellN 6 3,.tmp 7]<|.seq (.reg [.set 4 (.P 6 (.box 0) [.V 2]),.set 5 (.P 7 (.box 0) [.V 3]),.set 6 (.P 8 (.alloc 0 [.int .i64 0,.int .i64 0,.nils]) []),.set 7 (.M 9 (.I 0))])<|.seq (.reg [.set 8 (.P 10 (.alloc 0 [.int .i64 0,.int .i64 0]) [])])<|.seq (.seq (.reg [.set 14 (.P 19 (.bslice 0 [.str [],.nils,.int .i64 0,.nils,.str [],.nils,.int .i64 0,.nils] 2 [(0 ,4),(4 ,4)]) [.P 17 (.loadN 4) [.V 4],.P 18 (.loadN 4) [.V 5]]),.set 15 (.P 20 .lenL [.V 14]),.set 16 (.M 21 (.I 0))])<|.block 0<|.loop [0,1,6,8,14,15,16]<|.seq (.reg [.set 17 (.P 22 (.binI .lss) [.V 16,.V 15])])<|.seq (.cond (.t 17) .skip (.exit 0))<|.seq (.block 1<|.seq (.reg [.set 18 (.M 23 (.V 16)),.set 19 (.P 25 (.loadN 4) [.P 24 (.iadr 4) [.V 14,.V 16]]),.set 10 (.P 12 (.alloc 0 [.str [],.nils,.int .i64 0,.nils]) []),.set 9 (.M 11 (.V 18)),.ef (.op none (.store 4) [.V 10,.V 19])])<|.seq (.reg [.set 20 (.M 26 (.P 29 (.call 184) [.W 0 27,.P 28 (.loadN 4) [.V 10]])),.set 21 (.P 30 (.ext 0) [.V 20]),.set 22 (.P 31 (.ext 1) [.V 20]),.set 11 (.P 13 (.alloc 0 [.int .i64 0,.int .i64 0,.nils]) []),.ef (.op none (.store 3) [.V 11,.V 21]),.set 12 (.M 14 (.V 22))])<|.seq (.ifr [] (.P 33 (.binI .neq) [.W 12 32,.I 0]) (.seq (.reg [.set 23 (.P 34 (.build [.int .i64 0,.int .i64 0,.nils] []) []),.set 24 (.M 35 (.V 12)),.ef (.op none (.store 3) [.V 6,.V 23]),.set 7 (.M 9 (.V 24))])<|.ret) .skip)<|.seq (.ifr [] (.P 38 (.binI .neq) [.P 37 .load1 [.P 36 (.fadr 0) [.V 11]],.I 1]) (.seq (.reg [.set 25 (.P 39 (.call 209) []),.set 26 (.P 40 (.ext 0) [.V 25]),.set 27 (.P 41 (.ext 1) [.V 25]),.ef (.op none (.store 3) [.V 6,.V 26]),.set 7 (.M 9 (.V 27))])<|.ret) .skip)<|.reg [.set 28 (.M 42 (.V 9)),.ef (.opr none (.store 1) (.P 45 (.iadrA 2 1) [.V 8,.V 28]) (.P 44 .load1 [.P 43 (.fadr 1) [.V 11]]))])<|.reg [.set 16 (.M 21 (.P 46 (.binI .add) [.V 16,.I 1]))])<|.seq (.reg [.set 29 (.M 47 (.P 53 (.call 226) [.W 1 48,.P 50 .load1 [.P 49 (.iadrA 2 1) [.V 8,.I 0]],.P 52 .load1 [.P 51 (.iadrA 2 1) [.V 8,.I 1]]])),.set 30 (.P 54 (.ext 0) [.V 29]),.set 31 (.P 55 (.ext 1) [.V 29]),.set 13 (.M 15 (.V 30)),.ef (.W 31 16)])<|.seq (.reg [.ef (.op none (.store 3) [.V 6,.P 57 (.build [.int .i64 0,.int .i64 0,.nils] [(0 ,1),(1 ,1)]) [.I 1,.W 13 56]]),.set 7 (.M 9 (.I 0))])<|.ret
def s208:SFn:=.src 33 [0,1,2,6] [.cellN 3 4]<|.seq (.reg [.set 3 (.P 6 (.alloc 0 [.str [],.nils,.int .i64 0,.nils]) [])])<|.seq (.dreg [7,8,9,10,11,12,13,14,15,16,17,18,19,20,21,22,23,24,25,26,27,28,29,30,31,32] [⟨ (some 4),.mov,[.t 0],none⟩,⟨ (some 5),.nilCheck,[.t 4],none⟩,⟨ (some 6),.fadr 1,[.t 5],none⟩,⟨ (some 7),.load1,[.t 6],none⟩,⟨ (some 8),.mov,[.t 0],none⟩,⟨ (some 9),.nilCheck,[.t 8],none⟩,⟨ (some 10),.fadr 1,[.t 9],none⟩,⟨ (some 11),.load1,[.t 10],none⟩,⟨ (some 12),.mov,[.t 0],none⟩,⟨ (some 13),.nilCheck,[.t 12],none⟩,⟨ (some 14),.fadr 2,[.t 13],none⟩,⟨ (some 15),.load1,[.t 14],none⟩,⟨ (some 16),.iadr 4,[.t 11,.t 15],none⟩,⟨ (some 17),.fadr 3,[.t 16],none⟩,⟨ (some 18),.load1,[.t 17],none⟩,⟨ (some 19),.mov,[.t 1],none⟩,⟨ (some 20),.iadr 1,[.t 18,.t 19],none⟩,⟨ (some 21),.load1,[.t 20],none⟩,⟨ (some 22),.mov,[.t 0],none⟩,⟨ (some 23),.nilCheck,[.t 22],none⟩,⟨ (some 24),.fadr 3,[.t 23],none⟩,⟨ (some 25),.load1,[.t 24],none⟩,⟨ (some 26),.mov,[.t 2],none⟩,⟨ (some 27),.bslice 0 [.nils,.nils] 2 [(0 ,1),(1 ,1)],[.t 25,.t 26],none⟩,⟨ (some 28),.call 227,[.t 27],none⟩,⟨ (some 29),.build [.str [],.nils,.int .i64 0,.nils] [(1 ,1),(2 ,1),(3 ,1)],[.t 7,.t 21,.t 28],none⟩,⟨none,.store 4,[.t 3,.t 29],none⟩] [.op 0,.op 1,.op 2,.op 3,.op 4,.op 5,.op 6,.op 7,.op 8,.op 9,.op 10,.op 11,.op 12,.op 13,.op 14,.op 15,.op 16,.op 17,.op 18,.op 19,.op 20,.op 21,.op 22,.op 23,.chk 17,.chk 14,.chk 11,.chk 7,.chk 3,.op 24,.chk 17,.chk 14,.chk 11,.chk 7,.chk 3,.op 25,.op 26])<|.ret
def s209:SFn:=.src 3 [0,1] [.cellN 0 3,.tmp 1]<|.seq (.reg [.set 0 (.P 0 (.alloc 0 [.int .i64 0,.int .i64 0,.nils]) []),.set 1 (.M 1 (.I 0))])<|.seq (.reg [.ef (.op none (.store 3) [.V 0,.P 2 (.build [.int .i64 0,.int .i64 0,.nils] [(0 ,1)]) [.I 3]]),.set 1 (.M 1 (.I 0))])<|.ret
def s210:SFn:=.src 41 [1,4,5,6,7,8,10,12,13,16,17,18,19,25,26,27,28,29] [.cellN 1 3,.tmp 2]<|.seq (.reg [.set 1 (.P 4 (.alloc 0 [.int .i64 0,.int .i64 0,.nils]) []),.set 2 (.M 5 (.I 0))])<|.seq (.reg [.set 8 (.M 13 (.P 15 (.call 11) [.W 0 14])),.set 9 (.P 16 (.ext 0) [.V 8]),.set 10 (.P 17 (.ext 1) [.V 8]),.set 11 (.P 18 (.ext 2) [.V 8]),.set 12 (.P 19 (.ext 3) [.V 8]),.set 3 (.M 6 (.V 9)),.set 4 (.M 7 (.V 10)),.set 5 (.M 8 (.V 11)),.ef (.W 12 9)])<|.seq (.ifr [] (.P 21 (.binI .eql) [.W 3 20,.I 0]) (.seq (.reg [.ef (.op none (.store 3) [.V 1,.P 22 (.build [.int .i64 0,.int .i64 0,.nils] []) []]),.set 2 (.M 5 (.I 902))])<|.ret) .skip)<|.seq (.reg [.set 13 (.P 25 (.build [.int .i64 0,.int .i64 0,.nils] [(0 ,1),(1 ,1)]) [.W 3 23,.W 4 24]),.set 6 (.P 10 (.alloc 0 [.int .i64 0,.int .i64 0,.nils]) []),.ef (.op none (.store 3) [.V 6,.V 13])])<|.seq (.seq (.reg [.set 14 (.M 26 (.V 5)),.set 15 (.P 27 .lenL [.V 14]),.set 16 (.M 28 (.I 0))])<|.block 0<|.loop [1,6,14,15,16]<|.seq (.reg [.set 17 (.P 29 (.binI .lss) [.V 16,.V 15])])<|.seq (.cond (.t 17) .skip (.exit 0))<|.seq (.block 1<|.seq (.reg [.set 7 (.M 12 (.P 31 .load1 [.P 30 (.iadr 1) [.V 14,.V 16]]))])<|.dreg [32,33,34,35,36,37,38] [⟨ (some 18),.fadr 2,[.t 6],none⟩,⟨ (some 19),.load1,[.t 18],none⟩,⟨ (some 20),.mov,[.t 7],none⟩,⟨ (some 21),.call 204,[.t 20],none⟩,⟨ (some 22),.bslice 0 [.str [],.nils,.int .i64 0,.nils] 1 [(0 ,4)],[.t 21],none⟩,⟨ (some 23),.app 0 4 72,[.t 19,.t 22],none⟩,⟨ (some 24),.fadr 2,[.t 6],none⟩,⟨none,.store 1,[.t 24,.t 23],none⟩] [.op 0,.op 1,.op 2,.op 3,.chk 1,.op 4,.chk 1,.op 5,.op 6,.op 7])<|.reg [.set 16 (.M 28 (.P 39 (.binI .add) [.V 16,.I 1]))])<|.seq (.reg [.ef (.op none (.store 3) [.V 1,.P 40 (.loadN 3) [.V 6]]),.set 2 (.M 5 (.I 0))])<|.ret
def s211:SFn:=.src 48 [0,1,4,5,6,7,8,12,19,20,29] [.tmp 2]<|.seq (.reg [.set 2 (.M 4 (.k .nils))])<|.seq (.ifr [] (.P 10 (.binI .lss) [.W 1 9,.I 0]) (.reg [.ef (.P 11 .mkifc [.k (.str [99,97,110,110,111,116,32,98,101,32,110,101,103,97,116,105,118,101])]),.ef (.op none .bad [])]) .skip)<|.seq (.reg [.set 7 (.M 12 (.P 18 (.call 228) [.P 15 (.conv .u64) [.P 14 .lenL [.W 0 13]],.P 17 (.conv .u64) [.W 1 16]])),.set 8 (.P 19 (.ext 0) [.V 7]),.set 9 (.P 20 (.ext 1) [.V 7]),.set 3 (.M 5 (.V 8)),.set 4 (.M 6 (.V 9))])<|.seq (.ifr [] (.or 23 26 (.P 22 (.binI .gtr) [.W 3 21,.k (.int .u64 0)]) (.P 25 (.binI .gtr) [.W 4 24,.k (.int .u64 9223372036854775807)])) (.reg [.ef (.P 27 .mkifc [.k (.str [116,104,101,32,114,101,115,117,108,116,32,111,102,32,40,108,101,110,40,120,41,32,42,32,99,111,117,110,116,41,32,111,118,101,114,102,108,111,119,115])]),.ef (.op none .bad [])]) .skip)<|.seq (.reg [.set 10 (.P 29 (.conv .i64) [.W 4 28]),.set 5 (.M 7 (.P 30 (.mkslice 0 [.str []] 16) [.V 10,.V 10]))])<|.seq (.reg [.set 6 (.M 8 (.P 33 (.cpy 1) [.W 5 31,.W 0 32]))])<|.seq (.block 0<|.loop [5,6]<|.seq (.ifr [] (.P 37 (.binI .lss) [.W 6 34,.P 36 .lenL [.W 5 35]]) .skip (.exit 0))<|.block 1<|.dreg [38,39,40,41,42,43,44,45,46] [⟨ (some 11),.mov,[.t 6],none⟩,⟨ (some 12),.mov,[.t 5],none⟩,⟨ (some 13),.mov,[.t 6],none⟩,⟨ (some 14),.slL 1 true false false,[.t 12,.t 13],none⟩,⟨ (some 15),.mov,[.t 5],none⟩,⟨ (some 16),.mov,[.t 6],none⟩,⟨ (some 17),.slL 1 false true false,[.t 15,.t 16],none⟩,⟨ (some 18),.cpy 1,[.t 14,.t 17],none⟩,⟨ (some 19),.binI .add,[.t 11,.t 18],none⟩,⟨ (some 6),.mov,[.t 19],none⟩] [.op 0,.op 1,.op 2,.op 3,.op 4,.op 5,.op 6,.op 7,.op 8,.op 9])<|.seq (.reg [.set 2 (.M 4 (.W 5 47))])<|.ret
def s226:SFn:=.src 48 [0,1,2,6,7,8,17] [.tmp 3,.tmp 4]<|.seq (.reg [.set 3 (.M 6 (.I 0)),.set 4 (.M 7 (.I 0))])<|.seq (.ifr [] (.or 12 16 (.P 11 .notB [.P 10 (.call 28) [.W 1 9]]) (.P 15 .notB [.P 14 (.call 28) [.W 2 13]])) (.seq (.reg [.set 3 (.M 6 (.I 0)),.set 4 (.M 7 (.I 100))])<|.ret) .skip)<|.seq (.reg [.set 5 (.M 8 (.I 0))])<|.seq (.seq (.reg [.set 6 (.M 17 (.V 0))])<|.block 0<|.ifr [] (.M 18 (.P 19 (.binI .eql) [.V 6,.I 0])) (.reg [.set 5 (.M 8 (.P 22 (.binI .add) [.W 1 20,.W 2 21]))]) (.ifr [] (.M 23 (.P 24 (.binI .eql) [.V 6,.I 1])) (.reg [.set 5 (.M 8 (.P 27 (.binI .sub) [.W 1 25,.W 2 26]))]) (.ifr [] (.M 28 (.P 29 (.binI .eql) [.V 6,.I 2])) (.reg [.set 5 (.M 8 (.P 32 (.binI .mul) [.W 1 30,.W 2 31]))]) (.ifr [] (.M 33 (.P 34 (.binI .eql) [.V 6,.I 3])) (.reg [.set 5 (.M 8 (.P 38 (.call 230) [.P 37 (.binI .eql) [.W 1 35,.W 2 36]]))]) (.ifr [] (.M 39 (.P 40 (.binI .eql) [.V 6,.I 4])) (.reg [.set 5 (.M 8 (.P 44 (.call 230) [.P 43 (.binI .lss) [.W 1 41,.W 2 42]]))]) (.seq (.reg [.set 3 (.M 6 (.I 0)),.set 4 (.M 7 (.I 100))])<|.ret))))))<|.seq (.reg [.set 3 (.M 6 (.P 47 (.conv .i64) [.P 46 (.conv .i16) [.W 5 45]])),.set 4 (.M 7 (.I 0))])<|.ret
def s227:SFn:=.src 36 [0,2,3,5,6,8,9,10,11,12,25,26,27,28] [.tmp 1]<|.seq (.reg [.set 1 (.M 2 (.k .nils))])<|.seq (.reg [.set 2 (.M 3 (.I 0))])<|.seq (.seq (.reg [.set 6 (.M 9 (.V 0)),.set 7 (.P 10 .lenL [.V 6]),.set 8 (.M 11 (.I 0))])<|.block 0<|.loop [0,2,6,7,8]<|.seq (.reg [.set 9 (.P 12 (.binI .lss) [.V 8,.V 7])])<|.seq (.cond (.t 9) .skip (.exit 0))<|.seq (.block 1<|.seq (.reg [.set 3 (.M 5 (.P 14 .load1 [.P 13 (.iadr 1) [.V 6,.V 8]]))])<|.seq (.reg [.set 2 (.M 3 (.P 18 (.binI .add) [.W 2 15,.P 17 .lenL [.W 3 16]]))])<|.ifr [] (.P 20 (.binI .lss) [.W 2 19,.I 0]) (.reg [.ef (.P 21 .mkifc [.k (.str [108,101,110,32,111,117,116,32,111,102,32,114,97,110,103,101])]),.ef (.op none .bad [])]) .skip)<|.reg [.set 8 (.M 11 (.P 22 (.binI .add) [.V 8,.I 1]))])<|.seq (.reg [.set 4 (.M 6 (.P 24 (.call 231) [.k .nils,.W 2 23]))])<|.seq (.seq (.reg [.set 10 (.M 25 (.V 0)),.set 11 (.P 26 .lenL [.V 10]),.set 12 (.M 27 (.I 0))])<|.block 2<|.loop [4,10,11,12]<|.seq (.reg [.set 13 (.P 28 (.binI .lss) [.V 12,.V 11])])<|.seq (.cond (.t 13) .skip (.exit 2))<|.seq (.block 3<|.seq (.reg [.set 5 (.M 8 (.P 30 .load1 [.P 29 (.iadr 1) [.V 10,.V 12]]))])<|.reg [.set 4 (.M 6 (.P 33 (.app 0 4 72) [.W 4 31,.W 5 32]))])<|.reg [.set 12 (.M 27 (.P 34 (.binI .add) [.V 12,.I 1]))])<|.seq (.reg [.set 1 (.M 2 (.W 4 35))])<|.ret
def s228:SFn:=.src 30 [0,1,4,5,6,7,8,9,10,16,17,19,21,22,26,27,28,29] [.tmp 2,.tmp 3]<|.seq (.reg [.set 2 (.M 4 (.k (.int .u64 0))),.set 3 (.M 5 (.k (.int .u64 0)))])<|.seq (.cond (.c (.bool false)) (.seq (.reg [.set 8 (.M 10 (.P 15 (.call 232) [.P 12 (.conv .u32) [.W 0 11],.P 14 (.conv .u32) [.W 1 13]])),.set 9 (.P 16 (.ext 0) [.V 8]),.set 10 (.P 17 (.ext 1) [.V 8]),.set 4 (.M 6 (.V 9)),.set 5 (.M 7 (.V 10))])<|.seq (.reg [.set 11 (.P 19 (.conv .u64) [.W 4 18]),.set 12 (.P 21 (.conv .u64) [.W 5 20]),.set 2 (.M 4 (.V 11)),.set 3 (.M 5 (.V 12))])<|.ret) .skip)<|.seq (.reg [.set 13 (.M 22 (.P 25 (.call 233) [.W 0 23,.W 1 24])),.set 14 (.P 26 (.ext 0) [.V 13]),.set 15 (.P 27 (.ext 1) [.V 13]),.set 6 (.M 8 (.V 14)),.set 7 (.M 9 (.V 15))])<|.seq (.reg [.set 16 (.M 28 (.V 6)),.set 17 (.M 29 (.V 7)),.set 2 (.M 4 (.V 16)),.set 3 (.M 5 (.V 17))])<|.ret
def s230:SFn:=.src 4 [0,2] [.tmp 1]<|.seq (.reg [.set 1 (.M 2 (.I 0))])<|.seq (.ifr [] (.W 0 3) (.seq (.reg [.set 1 (.M 2 (.I 1))])<|.ret) .skip)<|.seq (.reg [.set 1 (.M 2 (.I 0))])<|.ret
def s231:SFn:=.src 27 [0,1,4] [.tmp 2]<|.seq (.reg [.set 2 (.M 4 (.k .nils))])<|.seq (.ifr [] (.P 6 (.binI .lss) [.W 1 5,.I 0]) (.reg [.ef (.P 7 .mkifc [.k (.str [99,97,110,110,111,116,32,98,101,32,110,101,103,97,116,105,118,101])]),.ef (.op none .bad [])]) .skip)<|.seq (.seq (.reg [.set 1 (.M 1 (.P 14 (.binI .sub) [.W 1 8,.P 13 (.binI .sub) [.P 10 .capL [.W 0 9],.P 12 .lenL [.W 0 11]]]))])<|.ifr [] (.P 16 (.binI .gtr) [.W 1 15,.I 0]) (.reg [.set 0 (.M 0 (.P 25 (.slL 4 false true false) [.P 22 (.appz 0 4 72 [.str [],.nils,.int .i64 0,.nils]) [.P 20 (.slL 4 false true false) [.W 0 17,.P 19 .capL [.W 0 18]],.W 1 21],.P 24 .lenL [.W 0 23]]))]) .skip)<|.seq (.reg [.set 2 (.M 4 (.W 0 26))])<|.ret
def s232:SFn:=.src 17 [0,1,4,5,6,14,16] [.tmp 2,.tmp 3]<|.seq (.reg [.set 2 (.M 4 (.k (.int .u32 0))),.set 3 (.M 5 (.k (.int .u32 0)))])<|.seq (.reg [.set 4 (.M 6 (.P 11 (.binI .mul) [.P 8 (.conv .u64) [.W 0 7],.P 10 (.conv .u64) [.W 1 9]]))])<|.seq (.reg [.set 5 (.P 14 (.conv .u32) [.P 13 (.binI .shr) [.W 4 12,.k (.int .u64 32)]]),.set 6 (.P 16 (.conv .u32) [.W 4 15]),.set 2 (.M 4 (.V 5)),.set 3 (.M 5 (.V 6))])<|.ret
def s233:SFn:=.src 51 [0,1,4,5,6,7,8,9,10,11,12,13] [.tmp 2,.tmp 3]<|.seq (.reg [.set 2 (.M 4 (.k (.int .u64 0))),.set 3 (.M 5 (.k (.int .u64 0)))])<|.seq (.reg [.set 4 (.M 6 (.P 15 (.binI .and) [.W 0 14,.k (.int .u64 4294967295)]))])<|.seq (.reg [.set 5 (.M 7 (.P 17 (.binI .shr) [.W 0 16,.k (.int .u64 32)]))])<|.seq (.reg [.set 6 (.M 8 (.P 19 (.binI .and) [.W 1 18,.k (.int .u64 4294967295)]))])<|.seq (.reg [.set 7 (.M 9 (.P 21 (.binI .shr) [.W 1 20,.k (.int .u64 32)]))])<|.seq (.reg [.set 8 (.M 10 (.P 24 (.binI .mul) [.W 4 22,.W 6 23]))])<|.seq (.reg [.set 9 (.M 11 (.P 30 (.binI .add) [.P 27 (.binI .mul) [.W 5 25,.W 6 26],.P 29 (.binI .shr) [.W 8 28,.k (.int .u64 32)]]))])<|.seq (.reg [.set 10 (.M 12 (.P 32 (.binI .and) [.W 9 31,.k (.int .u64 4294967295)]))])<|.seq (.reg [.set 11 (.M 13 (.P 34 (.binI .shr) [.W 9 33,.k (.int .u64 32)]))])<|.seq (.reg [.set 10 (.M 12 (.P 39 (.binI .add) [.W 10 35,.P 38 (.binI .mul) [.W 4 36,.W 7 37]]))])<|.seq (.reg [.set 2 (.M 4 (.P 47 (.binI .add) [.P 44 (.binI .add) [.P 42 (.binI .mul) [.W 5 40,.W 7 41],.W 11 43],.P 46 (.binI .shr) [.W 10 45,.k (.int .u64 32)]]))])<|.seq (.reg [.set 3 (.M 5 (.P 50 (.binI .mul) [.W 0 48,.W 1 49]))])<|.ret
end Am.T
end
section
namespace Am.F
open Go Am
variable {β:Type}
noncomputable def qChkU(v w:AV){k:VK β}(_:Wr k):Option β:=fChk v w (k v)
end Am.F
end
section
namespace Am.F
open Go Am
structure GNM (t:ETree):Prop where
section
variable {β:Type} {t:ETree} {I:FI} (n:Nat) (a:List AV) (h:H) (k:K β)
end
end Am.F
end
section
namespace Am.F
open Go Am
structure Un (g h:H):Prop where
 n:g.n<=h.n
 get:∀i,i<g.n->(g.get i).cells≠none->h.get i=g.get i
theorem Un.refl(h:H):Un h h:=⟨Nat.le_refl _,λ_ _ _=>rfl⟩
theorem Un.ext{g h h':H}(u:Un g h)(e:Ext h h'):Un g h':=⟨by have:=u.n;have:=e.n;omega,λi p q=>by have:=u.n;rw[e.get i (by omega)];exact u.get i p q⟩
theorem Un.of{g h:H}(e:Ext g h):Un g h:=(Un.refl g).ext e
def zem{α:Type}(C:H->List AV->α->Prop):Prop:=∀(g h:H) (cs:List AV) (x:α),C g cs x->Un g h->C h cs x
theorem LAt.un{α:Type}{es:Nat}{C:H->List AV->α->Prop}(hC:zem C){g h:H}{v:AV}{xs:List α}(hs:LAt es C g v xs)(u:Un g h):LAt es C h v xs:=by
 rcases hs with hs|⟨b,o,m,gg,us,h1,h2,h3,h4,h5⟩
 ·exact .inl hs
 ·exact .inr ⟨b,o,m,gg,us,h1,Nat.lt_of_lt_of_le h2 u.n,by rw[u.get b h2 (by rw[h3];simp)];exact h3,h4,λj x hx=>hC _ _ _ _ (h5 j x hx) u⟩
theorem SlAt.un{g h:H}{v:AV}{cs:List AV}(hs:SlAt g v cs)(u:Un g h):SlAt h v cs:=by
 rcases hs with hs|⟨b,o,m,gg,us,h1,h2,h3,h4⟩
 ·exact .inl hs
 ·exact .inr ⟨b,o,m,gg,us,h1,Nat.lt_of_lt_of_le h2 u.n,by rw[u.get b h2 (by rw[h3];simp)];exact h3,h4⟩
theorem ExC.staysU:zem ExC:=λ_ _ _ _ ⟨w,h1,h2⟩ u=>⟨w,h1,h2.un u⟩
theorem DfC.staysU:zem DfC:=λ_ _ _ _ ⟨w,h1,h2⟩ u=>⟨w,h1,h2.un ExC.staysU u⟩
def RowC(_:H)(cs x:List AV):Prop:=cs=x/\x.length=4
theorem RowC.stays:zgr RowC:=λ_ _ _ _ h _=>h
theorem RowC.staysU:zem RowC:=λ_ _ _ _ h _=>h
theorem LAt.rows{α:Type}{C:H->List AV->α->Prop}{h:H}{v:AV}{xs:List α}(hs:LAt 4 C h v xs):∃rows:List (List AV),LAt 4 RowC h v rows/\rows.length=xs.length/\∀(j:Nat) (r:List AV) (x:α),rows[j]?=some r->xs[j]?=some x->C h r x:=by
 rcases hs with⟨rfl,rfl⟩|⟨b,o,m,g,us,rfl,h2,h3,h4,h5⟩
 ·exact⟨[],.inl ⟨rfl,rfl⟩,rfl,λj r x hr=>by simp at hr⟩
 ·have hget:∀(j:Nat) (r:List AV),((List.range xs.length).map λj=>(us.drop (o+j*4)).take 4)[j]?=some r->j<xs.length/\r=(us.drop (o+j*4)).take 4:=by
   intro j r hr;rw[List.getElem?_map] at hr;rcases Nat.lt_or_ge j xs.length with hj|hj
   ·rw[List.getElem?_range hj] at hr;cases hr;exact⟨hj,rfl⟩
   ·rw[List.getElem?_eq_none (by rw[List.length_range];exact hj)] at hr;cases hr
  refine⟨(List.range xs.length).map λj=>(us.drop (o+j*4)).take 4,.inr ⟨b,o,m,g,us,by simp,h2,h3,by simpa using h4,λj r hr=>?_⟩,by simp,λj r x hr hx=>?_⟩
  ·obtain⟨hj,rfl⟩:=hget j r hr;refine⟨rfl,?_⟩;rw[List.length_take,List.length_drop];omega
  ·obtain⟨hj,rfl⟩:=hget j r hr;exact h5 j x hx
theorem zd6:∀(rows:List (List AV)) (W:List AV),W.length=rows.length*4->(∀(j:Nat) (r:List AV),rows[j]?=some r->(W.drop (j*4)).take 4=r)->W=rows.flatten
 | [],W,hl,_=>by
  have:W=[]:=List.eq_nil_of_length_eq_zero (by simpa using hl)
  rw[this];rfl
 | r::rows,W,hl,hr=>by
  have h0:=hr 0 r rfl;rw[Nat.zero_mul,List.drop_zero] at h0;have ih:=zd6 rows (W.drop 4) (by rw[List.length_drop,hl,List.length_cons];omega) λj x hx=>by
   have:=hr (j+1) x hx
   rw[List.drop_drop];rw[show 4+j*4=(j+1)*4 by omega];exact this
  rw[List.flatten_cons,<- ih,<- h0,List.take_append_drop]
theorem LAt.src{β:Type}{h:H}{v:AV}{rows:List (List AV)}(hs:LAt 4 RowC h v rows)(c:Nat->List AV->Option β):fSrc 4 v h c=c rows.length rows.flatten:=by
 rcases hs with⟨rfl,rfl⟩|⟨b,o,m,g,us,rfl,h2,h3,h4,h5⟩
 ·rfl
 ·show (cells h b λcs=>cond (Nat.ble (Nat.add o (Nat.mul rows.length 4)) (lenF cs)) (c rows.length (zbf (Nat.mul rows.length 4) (zbV o cs))) none)=_;rw[zbW,h3,zbx,zd,zt,zG,ble_eq,decide_eq_true (by exact h4)];have:(us.drop o).take (rows.length*4)=rows.flatten:=by
   refine zd6 _ _ (by rw[List.length_take,List.length_drop];omega) λj r hr=>?_
   have hj:=(List.getElem?_eq_some_iff.1 hr).1;have:=(h5 j r hr).1
   rw[<- this,List.drop_take,List.drop_drop,List.take_take,Nat.min_eq_left (by omega)]
  show c rows.length ((us.drop o).take (rows.length*4))=_;rw[this]
theorem zfz:∀(rows:List (List AV)),(∀r ∈ rows,r.length=4)->rows.flatten.length=rows.length*4
 | [],_=>rfl
 | r::rows,h=>by
  rw[List.flatten_cons,List.length_append,h r List.mem_cons_self,zfz rows λx hx=>h x (List.mem_cons_of_mem _ hx),List.length_cons];omega
theorem LAt.row4{h:H}{v:AV}{rows:List (List AV)}(hs:LAt 4 RowC h v rows):∀r ∈ rows,r.length=4:=by
 intro r hr;obtain⟨j,hj⟩:=List.mem_iff_getElem?.1 hr;rcases hs with⟨rfl,rfl⟩|⟨b,o,m,g,us,rfl,h2,h3,h4,h5⟩
 ·simp at hj
 ·exact (h5 j r hj).2
def zfg(h h':H)(w:AV)(rows:List (List AV)):Prop:=(w = .nils/\rows=[])\/∃b N g,w = .sl b 0 rows.length N g/\h.n<=b/\b<h'.n/\h'.get b = .own 0 rows.flatten
theorem zfg.sc{h h':H}{w:AV}{rows:List (List AV)}(hn:zfg h h' w rows):w.sc=true:=by
 rcases hn with⟨rfl,_⟩|⟨b,N,g,rfl,_⟩<;>rfl
end Am.F
end
section
namespace Am.F
open Go Am
def Fill(h h':H)(v:AV)(N:Nat)(rows:List (List AV)):Prop:=(v = .nils/\rows=[]/\N=0)\/∃cs,v = .sl h.n 0 rows.length N (some 4)/\rows.length<=N/\0<N/\h.n<h'.n/\h'.get h.n = .own 0 cs/\cs.length=N*4/\cs.take (rows.length*4)=rows.flatten
theorem zcZ:∀(cs new:List AV) (o:Nat),o+new.length<=cs.length->(zaF cs o new).take (o+new.length)=cs.take o++new/\(zaF cs o new).length=cs.length
 | cs,[],o,h=>by simp[zaF]
 | cs,x::new,o,h=>by
  rw[List.length_cons] at h;have h1:o<cs.length:=by omega
  obtain⟨a,b⟩:=zcZ (cs.set o x) new (o+1) (by rw[List.length_set];omega);rw[List.length_set] at b;rw[zf8];refine⟨?_,b⟩;rw[List.length_cons,show o+(new.length+1)=o+1+new.length by omega,a];have:(cs.set o x).take (o+1)=cs.take o++[x]:=by
   rw[List.take_add_one,List.getElem?_set_self h1,List.take_set_of_le (Nat.le_refl o)];rfl
  rw[this];simp
theorem Fill.app{β:Type}{h h1:H}{v x:AV}{N:Nat}{r1 r2:List (List AV)}{k:K β}{R:Option β}(hf:Fill h h1 v N r1)(hx:LAt 4 RowC h1 x r2)(hN:r1.length+r2.length<=N)(h4:∀r ∈ r1,r.length=4)
  (H1:∀v' h2,Fill h h2 v' N (r1++r2)->h2.n=h1.n->(∀i,i<h1.n->i≠h.n->h2.get i=h1.get i)->k v' h2=R):qApp 0 4 72 v x h1 (.mk k)=R:=by
 show fApp 0 4 72 v x h1 k=R;unfold fApp;rw[hx.src];have h4':=hx.row4;rcases hf with⟨rfl,rfl,rfl⟩|⟨cs,rfl,f1,f0,f2,f3,f4,f5⟩
 ·have hr2:r2=[]:=List.eq_nil_of_length_eq_zero (by simpa using hN);subst hr2;exact H1 .nils h1 (.inl ⟨rfl,rfl,rfl⟩) rfl λ_ _ _=>rfl
 ·by_cases h0:r2.length=0
  ·have hr2:r2=[]:=List.eq_nil_of_length_eq_zero h0;subst hr2;simp (disch:=omega) only [zgo,aSl,zB,ble_eq,beq_eq,zfM,zfN,Nat.add_eq,List.length_nil,Nat.add_zero];exact H1 _ h1 (.inr ⟨cs,by rw[List.append_nil],by rw[List.append_nil];exact f1,f0,f2,f3,f4,by rw[List.append_nil];exact f5⟩) rfl λ_ _ _=>rfl
  ·have hfl:=zfz r2 h4';obtain⟨p1,p2⟩:=zcZ cs r2.flatten (r1.length*4) (by omega);simp (disch:=omega) only [zgo,aSl,zB,ble_eq,beq_eq,zfM,zfN,Nat.add_eq,Nat.mul_eq,Nat.zero_add,zeK,f3,zgU,zbx,zd,zak];refine H1 _ _ (.inr ⟨zaF cs (r1.length*4) r2.flatten,by rw[List.length_append],by rw[List.length_append];exact hN,f0,by rw[H.n_set];exact f2,zc4 rfl,by rw[p2,f4],?_⟩) (by rw[H.n_set]) λi _ hi=>zaa (by omega)
   rw[List.length_append,Nat.add_mul,<- hfl,p1,f5,List.flatten_append]
theorem Fill.new{h h':H}{v:AV}{rows:List (List AV)}(hf:Fill h h' v rows.length rows):zfg h h' v rows:=by
 rcases hf with⟨rfl,h1,_⟩|⟨cs,rfl,f1,f0,f2,f3,f4,f5⟩
 ·exact .inl ⟨rfl,h1⟩
 ·refine .inr ⟨h.n,rows.length,some 4,rfl,Nat.le_refl _,f2,?_⟩;rw[f3,<- f5,<- f4,List.take_length]
section
variable {β:Type} {t:ETree}
end
end Am.F
end
section
namespace Am.F
open Go Am
inductive Thg where
 | term (s:List UInt8)
 | part (d a:Nat) (env:List Thg)
inductive TPC (p:List Df) (h:H):List AV->Thg->Prop
 | term (s:List UInt8):TPC p h [.str s,.nils,.int .i64 0,.nils] (.term s)
 | part {d a:Nat} {df:Df} {bv tv:AV} {env:List Thg} (hd:p[d]?=some df) (hb:LAt 4 ExC h bv df.body) (hnb:bv ≠ .nils) (rows:List (List AV)) (hr:LAt 4 RowC h tv rows) (hl:rows.length=env.length)
   (he:∀(j:Nat) (r:List AV) (x:Thg),rows[j]?=some r->env[j]?=some x->TPC p h r x):TPC p h [.str [],bv,.int .i64 (a:Int),tv] (.part d a env)
theorem TPC.un{p:List Df}{g h:H}(u:Un g h){cs:List AV}{x:Thg}(ht:TPC p g cs x):TPC p h cs x:=by
 induction ht with
 | term s=>exact .term s
 | part hd hb hnb rows hr hl he ih=>exact .part hd (hb.un ExC.staysU u) hnb rows (hr.un RowC.staysU u) hl ih
theorem TPC.staysU(p:List Df):zem (TPC p):=λ_ _ _ _ h u=>h.un u
theorem TPC.stays(p:List Df):zgr (TPC p):=λ_ _ _ _ h e=>h.un (Un.of e)
theorem TPC.len{p:List Df}{h:H}{cs:List AV}{x:Thg}(ht:TPC p h cs x):cs.length=4:=by cases ht<;>rfl
theorem LAt.chk{β α:Type}{es:Nat}{C:H->List AV->α->Prop}{h:H}{v:AV}{xs:List α}(hs:LAt es C h v xs)(k:VK β):qChkU v v (.mk k)=k v:=by
 show cond (AV.beq v v) (k v) none=_;rcases hs with⟨rfl,_⟩|⟨b,o,m,g,us,rfl,_⟩
 ·rfl
 ·have:AV.beq (.sl b o xs.length m g) (.sl b o xs.length m g)=true:=by simp[AV.beq]
  rw[this];rfl
theorem SlAt.chk{β:Type}{h:H}{v:AV}{cs:List AV}(hs:SlAt h v cs)(k:VK β):qChkU v v (.mk k)=k v:=by
 show cond (AV.beq v v) (k v) none=_;rcases hs with⟨rfl,_⟩|⟨b,o,m,g,us,rfl,_⟩
 ·rfl
 ·have:AV.beq (.sl b o cs.length m g) (.sl b o cs.length m g)=true:=by simp[AV.beq]
  rw[this];rfl
theorem SlAt.ptr{β:Type}{h:H}{v:AV}{cs:List AV}(hs:SlAt h v cs){j:Nat}{x:AV}(hx:cs[j]?=some x):∃b o us,(∀k:VK β,zdf 1 v (.int .i64 (j:Int)) (.mk k)=k (.ptr b o))/\b<h.n/\(h.get b).cells=some us/\us[o]?=some x:=by
 have hj:=(List.getElem?_eq_some_iff.1 hx).1;rcases hs with⟨_,rfl⟩|⟨b,o,m,g,us,rfl,h2,h3,h4,h5⟩
 ·simp at hx
 ·refine⟨b,o+j,us,λk=>by rw[zcu (by omega) (by omega),Int.toNat_natCast,Nat.mul_one],h2,h3,?_⟩;rw[<- h4,List.getElem?_take,if_pos hj,List.getElem?_drop] at hx;exact hx
section
variable {β:Type} {t:ETree}
end
end Am.F
end
section
namespace Am.F
open Go Am
section
variable {β:Type} {t:ETree}
def zha(d:Nat)(env:List Thg)(ks:List Int):List Thg:=ks.map λk=>.part d k.toNat env
end
end Am.F
end
section
namespace Am.F
open Go Am
section
variable {β:Type} {t:ETree}
theorem zbo.chk{h:H}{lo hi es:Nat}{v:AV}{cs:List AV}(ho:zbo h lo hi es v cs)(k:VK β):qChkU v v (.mk k)=k v:=by
 show cond (AV.beq v v) (k v) none=_;rcases ho with⟨rfl,_⟩|⟨b,l,rfl,_⟩
 ·rfl
 ·have:AV.beq (.sl b 0 l l (some es)) (.sl b 0 l l (some es))=true:=by simp[AV.beq]
  rw[this];rfl
end
end Am.F
end
section
namespace Am.F
open Go Am
structure Fnd where
 kind:Int
 num:Int
 parts:List Thg
inductive Rs where
 | ok (f:Fnd)
 | bad (c:Int)
def zek(p:List Df)(d:Nat):List Ex:=((p[d]?).map Df.body).getD []
instance :Inhabited Thg:=⟨.term []⟩
inductive WF (p:List Df):Thg->Prop
 | term {s:List UInt8} (h:mayP s=true):WF p (.term s)
 | part {d a:Nat} {env:List Thg} {df:Df} {lv:List Int} (hd:p[d]?=some df) (hlv:Levels df lv) (ha:a<df.body.length) (hl:(env.length:Int)=lv.getD a 0) (he:∀x ∈ env,WF p x):WF p (.part d a env)
structure Stand (p:List Df) (d a:Nat) (env:List Thg) (df:Df) (lv:List Int) (e:Ex):Prop where
 hd:p[d]?=some df
 hlv:Levels df lv
 he:df.body[a]?=some e
 hl:(env.length:Int)=lv.getD a 0
 wf:∀x ∈ env,WF p x
theorem WF.stand{p:List Df}{d a:Nat}{env:List Thg}(h:WF p (.part d a env)):∃df lv e,Stand p d a env df lv e:=by
 cases h with
 | part hd hlv ha hl he=>exact⟨_,_,_,hd,hlv,List.getElem?_eq_getElem ha,hl,he⟩
section
variable {p:List Df} {d a:Nat} {env:List Thg} {df:Df} {lv:List Int} {e:Ex}
theorem Stand.body(s:Stand p d a env df lv e):zek p d=df.body:=by unfold zek;rw[s.hd];rfl
theorem Stand.get(s:Stand p d a env df lv e):(zek p d)[a]?=some e:=by rw[s.body];exact s.he
theorem Stand.part(s:Stand p d a env df lv e):zbd e (lv.getD a 0):=(s.hlv.part a e s.he).2.1
theorem Stand.kid(s:Stand p d a env df lv e){k:Nat}{kid:Int}(hk:e.kids[k]?=some kid){more':List Thg}(hm:(more'.length:Int)=more e k)(hw:∀x ∈ more',WF p x):0<=kid/\WF p (.part d kid.toNat (env++more')):=by
 obtain⟨h1,h2⟩:=(s.hlv.part a e s.he).2.2 k kid hk;have ha:=(List.getElem?_eq_some_iff.1 s.he).1;refine⟨h1.1,.part s.hd s.hlv (by omega) ?_ λx hx=>?_⟩
 ·rw[h2,List.length_append,<- hm,<- s.hl];omega
 ·rcases List.mem_append.1 hx with hx|hx
  ·exact s.wf x hx
  ·exact hw x hx
theorem Stand.kid0(s:Stand p d a env df lv e){k:Nat}{kid:Int}(hk:e.kids[k]?=some kid)(hm:more e k=0):0<=kid/\WF p (.part d kid.toNat env):=by
 have:=s.kid hk (more':=[]) (by rw[hm];rfl) (λx hx=>by simp at hx)
 rw[List.append_nil] at this;exact this
end
end Am.F
end
section
namespace Am.F
open Go Am
theorem Stand.call{p:List Df}(hp:zeG p=true){d a:Nat}{env:List Thg}{df:Df}{lv:List Int}{e:Ex}(s:Stand p d a env df lv e)(h2:e.kind=2) :
  ∃df',p[e.num.toNat]?=some df'/\0<=e.num/\1<=df'.body.length/\df'.body.length<=24/\WF p (.part e.num.toNat (df'.body.length-1) (zha d env e.kids))/\zek p e.num.toNat=df'.body:=by
 obtain⟨h1,h0,hall⟩:=zgK hp;have hc:=s.part.call h2;obtain⟨m1,m2⟩:=hall df (List.mem_of_getElem? s.hd);unfold oddIn at m2;rw[List.any_eq_false] at m2;have hno:¬ Odd p e:=λho=>m2 e (List.mem_of_getElem? s.he) (decide_eq_true ho)
 unfold Odd at hno;have hlt:¬ (p.length:Int)<=e.num:=λhh=>hno ⟨h2,.inl hh⟩
 have hpar:(e.kids.length:Int)=zbI p e.num:=Classical.byContradiction λhh=>hno ⟨h2,.inr hh⟩
 obtain⟨df',hd'⟩:∃df',p[e.num.toNat]?=some df':=⟨_,List.getElem?_eq_getElem (by omega)⟩
 have hm':=(hall df' (List.mem_of_getElem? hd')).1;obtain⟨lv',hlv'⟩:=zds hm';have hl':=zc5 hm';refine⟨df',hd',hc.1,hl'.2,hl'.1,.part hd' hlv' (by omega) ?_ λx hx=>?_,by unfold zek;rw[hd'];rfl⟩
 ·rw[hlv'.last];unfold zbI at hpar;rw[hd'] at hpar;unfold zha;rw[List.length_map,hpar];rfl
 ·unfold zha at hx;obtain⟨kid,hk,rfl⟩:=List.mem_map.1 hx;obtain⟨k,hk⟩:=List.mem_iff_getElem?.1 hk;exact (s.kid0 hk (by unfold more;rw[h2];simp)).2
theorem getD_some{xs:List Int}{k:Nat}(h:k<xs.length):xs[k]?=some (xs.getD k 0):=by rw[List.getD_eq_getElem?_getD,List.getElem?_eq_getElem h];rfl
end Am.F
end
section
namespace Am.F
open Go Am
structure Gh (g g':H):Prop where
 un:Un g g'
 hid:∀i,i<g.n->(g.get i).cells=none->(g'.get i).cells=none
theorem Gh.refl(g:H):Gh g g:=⟨Un.refl g,λ_ _ h=>h⟩
theorem Un.trans{a b c:H}(h1:Un a b)(h2:Un b c):Un a c:=⟨by have:=h1.n;have:=h2.n;omega,λi p q=>by
 have e:=h1.get i p q;rw[h2.get i (by have:=h1.n;omega) (by rw[e];exact q),e]⟩
theorem Gh.trans{a b c:H}(h1:Gh a b)(h2:Gh b c):Gh a c:=⟨h1.un.trans h2.un,λi p q=>h2.hid i (by have:=h1.un.n;omega) (h1.hid i p q)⟩
theorem zd4:∀(k:Nat) (g h:H),g.n+k=h.n->∃g':H,g'.n=h.n/\(∀i,i<g.n->g'.get i=g.get i)/\∀i,g.n<=i->i<h.n->g'.get i=h.get i
 | 0,g,h,hk=>⟨g,by omega,λ_ _=>rfl,λi p q=>by omega⟩
 | k+1,g,h,hk=>by
  obtain⟨g',a,b,c⟩:=zd4 k (g.push (h.get g.n)) h (by rw[H.n_push];omega);rw[H.n_push] at b c;refine⟨g',a,λi hi=>by rw[b i (by omega),zy (by omega)],λi p q=>?_⟩
  by_cases hi:i=g.n
  ·subst hi;rw[b _ (by omega),zaw rfl]
  ·exact c i (by omega) q
theorem Un.grow{g h h':H}(u:Un g h)(hn:g.n=h.n)(e:Ext h h'):∃g',Gh g g'/\Un g' h'/\g'.n=h'.n/\∀i,h.n<=i->i<h'.n->g'.get i=h'.get i:=by
 obtain⟨g',a,b,c⟩:=zd4 (h'.n-g.n) g h' (by have:=e.n;omega);have en:=e.n;refine⟨g',⟨⟨by omega,λi p q=>b i p⟩,λi p q=>by rw[b i p];exact q⟩,⟨by omega,λi p q=>?_⟩,a,λi p q=>c i (by omega) q⟩
 by_cases hi:i<g.n
 ·rw[b i hi] at q ⊢;rw[e.get i (by omega)];exact u.get i hi q
 ·exact (c i (by omega) (by omega)).symm
theorem Un.set{g h:H}(u:Un g h){i:Nat}(hi:(g.get i).cells=none)(b:Blk):Un g (h.set i b):=⟨by rw[H.n_set];exact u.n,λj p q=>by
 by_cases hj:i=j
 ·subst hj;exact absurd hi q
 ·rw[zaa hj];exact u.get j p q⟩
theorem Un.hide{g h:H}(u:Un g h)(hn:g.n=h.n)(b:Blk):Gh g (g.push .dead)/\Un (g.push .dead) (h.push b)/\(g.push .dead).n=(h.push b).n/\((g.push .dead).get h.n).cells=none:=by
 refine⟨⟨⟨by rw[H.n_push];omega,λi p q=>by rw[zy (by omega)]⟩,λi p q=>by rw[zy (by omega)];exact q⟩,⟨by rw[H.n_push,H.n_push];omega,λi p q=>?_⟩,by rw[H.n_push,H.n_push,hn],by rw[zaw hn];rfl⟩;rw[H.n_push] at p
 by_cases hi:i<g.n
 ·rw[zy (by omega)] at q ⊢;rw[zy (by omega)];exact u.get i hi q
 ·have:i=g.n:=by omega
  subst this;rw[zaw rfl] at q;exact absurd rfl q
section
variable {β:Type} {t:ETree}
end
end Am.F
end
section
namespace Am.F
open Go Am
theorem Un.box{g h:H}(u:Un g h)(hn:g.n=h.n)(b b':Blk):Gh g (g.push .dead)/\Un (g.push .dead) ((h.push b).set h.n b')/\(g.push .dead).n=((h.push b).set h.n b').n/\∀i,i<h.n->((h.push b).set h.n b').get i=h.get i:=by
 obtain⟨a,c,d,e⟩:=u.hide hn b;exact⟨a,c.set e b',by rw[H.n_set];exact d,λi hi=>by rw[zaa (by omega),zy (by omega)]⟩
section
variable {β:Type} {t:ETree}
end
end Am.F
end
