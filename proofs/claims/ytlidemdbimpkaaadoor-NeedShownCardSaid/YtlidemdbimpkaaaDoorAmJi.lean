/- Texts that belong together: no condition. -/
import Derived.Test.YtlidemdbimpkaaaDoorAmJc
import Derived.Test.YtlidemdbimpkaaaDoorAmJh
import Derived.Test.YtlidemdbimpkaaaDoorAmJg
import Derived.Test.YtlidemdbimpkaaaDoorAmJf
open Nat (reduceAdd reduceMul)
open Int (reduceToNat)
set_option maxRecDepth 100000
set_option linter.unusedVariables false
set_option linter.unusedSimpArgs false
set_option linter.defProp false
section
namespace Am.T
open Go
end Am.T
end
section
namespace Am.F
open Go Am
section
variable {β:Type} {t:ETree} {I:FI} (n:Nat) (a:List AV) (h:H) (k:K β)
end
end Am.F
end
section
namespace Am.F
open Go Am
def NdC(h:H)(cs:List AV)(x:Nd):Prop:=∃w,cs=zhy x w/\SlAt h w (strs x.args)
theorem NdC.stays:zjM NdC:=λ_ _ _ _ ⟨w,h1,h2⟩ e=>⟨w,h1,h2.ext e⟩
theorem zg1.lat{h:H}{v:AV}{xs:List Nd}(hs:zg1 h v xs):LAt 4 NdC h v xs:=by
 exact hs
theorem LAt.nds{h:H}{v:AV}{xs:List Nd}(hs:LAt 4 NdC h v xs):zg1 h v xs:=hs
def SlG(a:AV)(n:Nat):Prop:=a = .nils\/∃b o m,a = .sl b o n m none/\n<=m
def DfFit(M:Nat)(d:Df):Prop:=d.body.length<=M/\∀e ∈ d.body,e.kids.length<=M
def NdFit(x:Nd):Prop:=(∀y ∈ x.args,y.length<=9223372036854775807)/\x.res.length<=9223372036854775807/\x.args.length<=9223372036854775807
def NextP(x:Nd)(i:Nat):Prop:=i<512/\eqMay x=true/\(0<=x.parent/\x.parent<(i:Int)\/i=0/\x.parent = -1)
def zlx(ns:List Nd):Prop:=ns≠[]/\∀(q:Nat) (x:Nd),ns[q]?=some x->NextP x q
theorem zlx.take{ns:List Nd}(h:zlx ns){k:Nat}(hk:0<k)(hk2:k<=ns.length):zlx (ns.take k):=by
 refine⟨λhn=>?_,λq x hq=>h.2 q x ?_⟩
 ·have:=congrArg List.length hn
  rw[List.length_take,List.length_nil] at this;omega
 ·rw[List.getElem?_take] at hq;split at hq
  ·exact hq
  ·cases hq
section
variable {β:Type} {t:ETree}
end
end Am.F
end
section
namespace Am.F
open Go Am
structure Levels (d:Df) (lv:List Int):Prop where
 len:lv.length=d.body.length
 last:lv.getD (d.body.length-1) 0=d.params
 part:∀(i:Nat) (e:Ex),d.body[i]?=some e->(0<=lv.getD i 0/\lv.getD i 0<=8)/\zE e (lv.getD i 0)/\∀(k:Nat) (kid:Int),e.kids[k]?=some kid->(0<=kid/\kid<(i:Int))/\lv.getD kid.toNat 0=lv.getD i 0+more e k
theorem zer(i:Nat)(e:Ex):∀(ks:List Int) (k:Nat) (lv lv':List Int),zcp i e k ks lv=some lv'->i<lv.length->¬ lv.getD i 0 = -1->(∀q,0<=lv.getD i 0+more e q) ->
  lv'.length=lv.length/\(∀j,¬ lv.getD j 0 = -1->lv'.getD j 0=lv.getD j 0)/\∀(q:Nat) (kid:Int),ks[q]?=some kid->(0<=kid/\kid<(i:Int))/\lv'.getD kid.toNat 0=lv.getD i 0+more e (k+q:Nat)
 | [],k,lv,lv',h,_,_,_=>by
  cases h;exact⟨rfl,λ_ _=>rfl,λq kid hq=>by simp at hq⟩
 | kid::ks,k,lv,lv',h,hi,hn,hp=>by
  have h':(if 0<=kid/\kid<(i:Int)/\lv.getD kid.toNat 0 = -1 then zcp i e (k+1) ks (lv.set kid.toNat (lv.getD i 0+more e k)) else none)=some lv':=h
  by_cases hc:0<=kid/\kid<(i:Int)/\lv.getD kid.toNat 0 = -1
  ·rw[if_pos hc] at h';obtain⟨c1,c2,c3⟩:=hc;have hne:kid.toNat≠i:=by omega
   have hgi:(lv.set kid.toNat (lv.getD i 0+more e k)).getD i 0=lv.getD i 0:=getD_set_ne _ _ hne;obtain⟨s1,s2,s3⟩:=zer i e ks (k+1) _ lv' h' (by rw[List.length_set];exact hi) (by rw[hgi];exact hn) (by rw[hgi];exact hp);rw[hgi] at s3;have hkl:kid.toNat<lv.length:=by omega
   have hself:(lv.set kid.toNat (lv.getD i 0+more e k)).getD kid.toNat 0=lv.getD i 0+more e k:=getD_set_eq _ _ hkl;refine⟨by rw[s1,List.length_set],λj hj=>?_,λq x hq=>?_⟩
   ·have hjk:kid.toNat≠j:=λhh=>by rw[<- hh] at hj;exact hj c3
    have:=s2 j (by rw[getD_set_ne _ _ hjk];exact hj)
    rw[this,getD_set_ne _ _ hjk]
   ·cases q with
    | zero=>
     cases hq;refine⟨⟨c1,c2⟩,?_⟩;have:=s2 kid.toNat (by rw[hself];have:=hp k;omega)
     rw[this,hself];rfl
    | succ q=>
     obtain⟨t1,t2⟩:=s3 q x hq;refine⟨t1,?_⟩;rw[t2];congr 3;omega
  ·rw[if_neg hc] at h';cases h'
theorem zeJ(body:List Ex):∀(i:Nat) (lv:List Int),zcq body i lv=true->i<=lv.length->lv.length=body.length->(∀q,-1<=lv.getD q 0) ->
  ∃fin:List Int,fin.length=lv.length/\(∀j,¬ lv.getD j 0 = -1->fin.getD j 0=lv.getD j 0) /\
   ∀(j:Nat) (e:Ex),j<i->body[j]?=some e->(0<=fin.getD j 0/\fin.getD j 0<=8)/\zE e (fin.getD j 0)/\∀(k:Nat) (kid:Int),e.kids[k]?=some kid->(0<=kid/\kid<(j:Int))/\fin.getD kid.toNat 0=fin.getD j 0+more e k
 | 0,lv,_,_,_,_=>⟨lv,rfl,λ_ _=>rfl,λj e hj=>absurd hj (by omega)⟩
 | i+1,lv,h,hi,hl,hb=>by
  obtain⟨e,he⟩:∃e,body[i]?=some e:=⟨_,List.getElem?_eq_getElem (by omega)⟩
  by_cases c1:lv.getD i 0 = -1
  ·rw[zcJ body i lv he (.inl c1)] at h;cases h
  by_cases c2:8<lv.getD i 0
  ·rw[zcJ body i lv he (.inr (.inl c2))] at h;cases h
  by_cases c3:zE e (lv.getD i 0)
  case neg=>rw[zcJ body i lv he (.inr (.inr c3))] at h;cases h
  rw[ziX body i lv he c1 c2 c3] at h;cases hk:zcp i e 0 e.kids lv with
  | none=>rw[hk] at h;cases h
  | some lv'=>
   rw[hk] at h;have hbi:=hb i;have hm:=λq:Int=>zkU c3.bind q
   obtain⟨s1,s2,s3⟩:=zer i e e.kids 0 lv lv' hk (by omega) c1 (λq=>by have:=hm q;omega);have hb':∀q,-1<=lv'.getD q 0:=by
    intro q
    by_cases hq:lv.getD q 0 = -1
    ·-- it may have been a kid's place,or stays
     exact kids_lb i e e.kids 0 lv lv' hk hb (λq=>by have:=hm q;omega) q
    ·rw[s2 q hq];exact hb q
   obtain⟨fin,f1,f2,f3⟩:=zeJ body i lv' h (by omega) (by omega) hb';have hfi:fin.getD i 0=lv.getD i 0:=by rw[f2 i (by rw[s2 i c1];exact c1),s2 i c1]
   refine⟨fin,by omega,λj hj=>by rw[f2 j (by rw[s2 j hj];exact hj),s2 j hj],λj x hj hx=>?_⟩;rcases Nat.lt_or_ge j i with hji|hji
   ·exact f3 j x hji hx
   ·have:j=i:=by omega
    subst this;rw[he] at hx;cases hx;rw[hfi];refine⟨⟨by omega,by omega⟩,c3,λk kid hkid=>?_⟩;obtain⟨t1,t2⟩:=s3 k kid hkid;refine⟨t1,?_⟩;rw[Nat.zero_add] at t2;have hmk:=hm k;rw[f2 kid.toNat (by rw[t2];omega),t2]
where
 kids_lb (i:Nat) (e:Ex):∀(ks:List Int) (k:Nat) (lv lv':List Int),zcp i e k ks lv=some lv'->(∀q,-1<=lv.getD q 0)->(∀q:Int,0<=lv.getD i 0+more e q)->∀q,-1<=lv'.getD q 0
  | [],k,lv,lv',h,hb,_,q=>by cases h;exact hb q
  | kid::ks,k,lv,lv',h,hb,hp,q=>by
   have h':(if 0<=kid/\kid<(i:Int)/\lv.getD kid.toNat 0 = -1 then zcp i e (k+1) ks (lv.set kid.toNat (lv.getD i 0+more e k)) else none)=some lv':=h
   by_cases hc:0<=kid/\kid<(i:Int)/\lv.getD kid.toNat 0 = -1
   ·rw[if_pos hc] at h';have hgi:(lv.set kid.toNat (lv.getD i 0+more e k)).getD i 0=lv.getD i 0:=getD_set_ne _ _ (by omega);refine kids_lb i e ks (k+1) _ lv' h' (λq=>?_) (by rw[hgi];exact hp) q
    by_cases hq:kid.toNat=q
    ·subst hq
     by_cases hl:kid.toNat<lv.length
     ·rw[getD_set_eq _ _ hl];have:=hp k;omega
     ·rw[List.set_eq_of_length_le (by omega)];exact hb _
    ·rw[getD_set_ne _ _ hq];exact hb q
   ·rw[if_neg hc] at h';cases h'
theorem zck{d:Df}(h:zax d=true):∃lv,Levels d lv:=by
 have hl:=zbr h;unfold zax at h;rw[Bool.and_eq_true] at h;obtain⟨h1,h2⟩:=h;have h1:=of_decide_eq_true h1;have hfl:(zbm d).length=d.body.length:=by unfold zbm;rw[List.length_append,List.length_replicate];simp;omega
 have hlast:(zbm d).getD (d.body.length-1) 0=d.params:=by
  unfold zbm;rw[List.getD_eq_getElem?_getD,List.getElem?_append_right (by rw[List.length_replicate];omega),List.length_replicate,Nat.sub_self];rfl
 obtain⟨fin,f1,f2,f3⟩:=zeJ d.body d.body.length (zbm d) h2 (by omega) hfl (λq=>by
  by_cases hq:q=d.body.length-1
  ·rw[hq,hlast];omega
  ·unfold zbm;rw[List.getD_eq_getElem?_getD];rcases Nat.lt_or_ge q (d.body.length-1) with hq2|hq2
   ·rw[List.getElem?_append_left (by rw[List.length_replicate];exact hq2),List.getElem?_replicate,if_pos hq2];simp
   ·rw[List.getElem?_eq_none (by rw[List.length_append,List.length_replicate];simp;omega)];simp)
 refine⟨fin,by omega,?_,λi e he=>f3 i e (List.getElem?_eq_some_iff.1 he).1 he⟩;rw[f2 _ (by rw[hlast];omega),hlast]
end Am.F
end
section
namespace Am.T
open Go
def s155:SFn:=.src 36 [0,1,2,3,4,8,9,10,11,12,13,14,15,21,22,23,26,30,31,34] [.tmp 5,.tmp 6]<|.seq (.reg [.set 4 (.P 4 (.box 0) [.V 0]),.set 5 (.M 8 (.k (.str []))),.set 6 (.M 9 (.I 0))])<|.seq (.reg [.set 12 (.M 15 (.P 20 (.call 181) [.P 16 (.loadN 1) [.V 4],.W 1 17,.W 2 18,.W 3 19])),.set 13 (.P 21 (.ext 0) [.V 12]),.set 14 (.P 22 (.ext 1) [.V 12]),.set 15 (.P 23 (.ext 2) [.V 12]),.set 8 (.P 11 (.alloc 0 [.str [],.nils,.int .i64 0,.nils]) []),.set 7 (.M 10 (.V 13)),.ef (.op none (.store 4) [.V 8,.V 14]),.set 9 (.M 12 (.V 15))])<|.seq (.ifr [] (.P 25 .notB [.W 9 24]) (.seq (.reg [.set 5 (.M 8 (.k (.str []))),.set 6 (.M 9 (.I 900))])<|.ret) .skip)<|.seq (.reg [.set 16 (.M 26 (.P 29 (.call 184) [.W 7 27,.P 28 (.loadN 4) [.V 8]])),.set 17 (.P 30 (.ext 0) [.V 16]),.set 18 (.P 31 (.ext 1) [.V 16]),.set 10 (.P 13 (.alloc 0 [.int .i64 0,.int .i64 0,.nils]) []),.ef (.op none (.store 3) [.V 10,.V 17]),.set 11 (.M 14 (.V 18))])<|.seq (.ifr [] (.P 33 (.binI .neq) [.W 11 32,.I 0]) (.seq (.reg [.set 19 (.M 34 (.V 11)),.set 5 (.M 8 (.k (.str []))),.set 6 (.M 9 (.V 19))])<|.ret) .skip)<|.seq (.reg [.set 5 (.M 8 (.P 35 (.call 185) [.V 10])),.set 6 (.M 9 (.I 0))])<|.ret
def s181:SFn:=.src 76 [0,1,2,3,4,8,9,10,11,12,14,53,59,60,61,62,71,75] [.tmp 5,.cellN 6 4,.tmp 7]<|.seq (.reg [.set 4 (.P 4 (.box 0) [.V 0]),.set 5 (.M 8 (.k .nilp)),.set 6 (.P 9 (.alloc 0 [.str [],.nils,.int .i64 0,.nils]) []),.set 7 (.M 10 (.k (.bool false)))])<|.seq (.ifr [] (.or 49 52 (.or 45 48 (.or 40 44 (.or 29 39 (.or 22 28 (.or 18 21 (.P 17 .notB [.P 16 (.call 157) [.P 15 (.loadN 1) [.V 4]]]) (.P 20 (.binI .lss) [.W 1 19,.I 0])) (.P 27 (.binI .geq) [.W 1 23,.P 26 .lenL [.P 25 .load1 [.P 24 (.fadr 0) [.V 4]]]])) (.P 38 (.binI .neq) [.P 31 .lenL [.W 2 30],.P 37 .load1 [.P 36 (.fadr 0) [.P 35 (.iadr 2) [.P 33 .load1 [.P 32 (.fadr 0) [.V 4]],.W 1 34]]]])) (.P 43 .notB [.P 42 (.call 26) [.W 2 41]])) (.P 47 (.binI .lss) [.W 3 46,.I 0])) (.P 51 (.binI .gtr) [.W 3 50,.I 400])) (.seq (.reg [.set 11 (.P 53 (.build [.str [],.nils,.int .i64 0,.nils] []) []),.set 5 (.M 8 (.k .nilp)),.ef (.op none (.store 4) [.V 6,.V 11]),.set 7 (.M 10 (.k (.bool false)))])<|.ret) .skip)<|.seq (.reg [.set 8 (.M 11 (.P 58 (.box 0) [.P 57 (.build [.nils,.int .i64 0] [(0 ,1),(1 ,1)]) [.P 55 .load1 [.P 54 (.fadr 0) [.V 4]],.W 3 56]]))])<|.seq (.reg [.set 9 (.M 12 (.k .nils))])<|.seq (.seq (.reg [.set 12 (.M 59 (.V 2)),.set 13 (.P 60 .lenL [.V 12]),.set 14 (.M 61 (.I 0))])<|.block 0<|.loop [1,6,8,9,12,13,14]<|.seq (.reg [.set 15 (.P 62 (.binI .lss) [.V 14,.V 13])])<|.seq (.cond (.t 15) .skip (.exit 0))<|.seq (.block 1<|.seq (.reg [.set 10 (.M 14 (.P 64 .load1 [.P 63 (.iadr 1) [.V 12,.V 14]]))])<|.reg [.set 9 (.M 12 (.P 69 (.app 0 4 72) [.W 9 65,.P 68 (.bslice 0 [.str [],.nils,.int .i64 0,.nils] 1 [(0 ,4)]) [.P 67 (.call 204) [.W 10 66]]]))])<|.reg [.set 14 (.M 61 (.P 70 (.binI .add) [.V 14,.I 1]))])<|.seq (.reg [.set 16 (.M 71 (.V 8)),.set 17 (.P 75 (.call 205) [.W 8 72,.W 1 73,.W 9 74]),.set 5 (.M 8 (.V 16)),.ef (.op none (.store 4) [.V 6,.V 17]),.set 7 (.M 10 (.k (.bool true)))])<|.ret
def s184:SFn:=.src 139 [0,1,3,4,5,6,7,8,18,33,34,35,36,85,89,90,100,101,102,136,137,138] [.cellN 3 3,.tmp 4]<|.seq (.reg [.set 2 (.P 3 (.box 0) [.V 1]),.set 3 (.P 4 (.alloc 0 [.int .i64 0,.int .i64 0,.nils]) []),.set 4 (.M 5 (.I 0))])<|.seq (.block 0<|.loop [0,2,3]<|.seq (.ifr [] (.P 11 (.isNil .sl true) [.P 10 .load1 [.P 9 (.fadr 1) [.V 2]]]) .skip (.exit 0))<|.block 1<|.seq (.ifr [] (.P 16 (.binI .eql) [.P 15 .load1 [.P 14 (.fadr 1) [.P 13 .nilCheck [.W 0 12]]],.I 0]) (.seq (.reg [.ef (.op none (.store 3) [.V 3,.P 17 (.build [.int .i64 0,.int .i64 0,.nils] []) []]),.set 4 (.M 5 (.I 901))])<|.ret) .skip)<|.seq (.reg [.set 8 (.M 18 (.V 0)),.ef (.opr none (.store 1) (.P 24 (.fadr 1) [.P 23 .nilCheck [.V 8]]) (.P 22 (.binI .sub) [.P 21 .load1 [.P 20 (.fadr 1) [.P 19 .nilCheck [.V 8]]],.I 1]))])<|.seq (.reg [.set 5 (.M 6 (.P 29 (.iadr 4) [.P 26 .load1 [.P 25 (.fadr 1) [.V 2]],.P 28 .load1 [.P 27 (.fadr 2) [.V 2]]]))])<|.seq (.reg [.set 9 (.P 33 .load1 [.P 32 (.fadr 0) [.P 31 .nilCheck [.W 5 30]]])])<|.block 2<|.ifr [] (.M 37 (.P 38 (.binI .eql) [.V 9,.I 0])) (.seq (.reg [.ef (.op none (.store 3) [.V 3,.P 43 (.build [.int .i64 0,.int .i64 0,.nils] [(0 ,1),(1 ,1)]) [.I 1,.P 42 .load1 [.P 41 (.fadr 1) [.P 40 .nilCheck [.W 5 39]]]]]),.set 4 (.M 5 (.I 0))])<|.ret) (.ifr [] (.M 44 (.P 45 (.binI .eql) [.V 9,.I 1])) (.dreg [46,47,48,49,50,51,52,53] [⟨ (some 22),.fadr 3,[.t 2],none⟩,⟨ (some 23),.load1,[.t 22],none⟩,⟨ (some 24),.mov,[.t 5],none⟩,⟨ (some 25),.nilCheck,[.t 24],none⟩,⟨ (some 26),.fadr 1,[.t 25],none⟩,⟨ (some 27),.load1,[.t 26],none⟩,⟨ (some 28),.iadr 4,[.t 23,.t 27],none⟩,⟨ (some 29),.loadN 4,[.t 28],none⟩,⟨none,.store 4,[.t 2,.t 29],none⟩] [.op 0,.op 1,.op 2,.op 3,.op 4,.op 5,.op 6,.op 7,.op 8]) (.ifr [] (.M 54 (.P 55 (.binI .eql) [.V 9,.I 2])) (.dreg [56,57,58,59,60,61,62] [⟨ (some 22),.mov,[.t 0],none⟩,⟨ (some 23),.mov,[.t 5],none⟩,⟨ (some 24),.nilCheck,[.t 23],none⟩,⟨ (some 25),.fadr 1,[.t 24],none⟩,⟨ (some 26),.load1,[.t 25],none⟩,⟨ (some 27),.call 206,[.t 2],none⟩,⟨ (some 28),.call 205,[.t 22,.t 26,.t 27],none⟩,⟨none,.store 4,[.t 2,.t 28],none⟩] [.op 0,.op 1,.op 2,.op 3,.op 4,.op 5,.chk 4,.op 6,.op 7]) (.ifr [] (.M 63 (.P 64 (.binI .eql) [.V 9,.I 3])) (.seq (.dreg [65,66,67,68,69,70] [⟨ (some 22),.mov,[.t 5],none⟩,⟨ (some 23),.nilCheck,[.t 22],none⟩,⟨ (some 24),.fadr 1,[.t 23],none⟩,⟨ (some 25),.load1,[.t 24],none⟩,⟨ (some 26),.call 206,[.t 2],none⟩,⟨ (some 27),.build [.int .i64 0,.int .i64 0,.nils] [(0 ,1),(1 ,1),(2 ,1)],[.c (.int .i64 2),.t 25,.t 26],none⟩,⟨none,.store 3,[.t 3,.t 27],none⟩,⟨ (some 4),.mov,[.c (.int .i64 0)],none⟩] [.op 0,.op 1,.op 2,.op 3,.op 4,.chk 3,.op 5,.op 6,.op 7])<|.ret) (.ifr [] (.M 71 (.P 72 (.binI .eql) [.V 9,.I 4])) (.seq (.dreg [73,74,75,76,77,78,79,80,81,82] [⟨ (some 22),.mov,[.t 0],none⟩,⟨ (some 23),.mov,[.t 5],none⟩,⟨ (some 24),.nilCheck,[.t 23],none⟩,⟨ (some 25),.fadr 1,[.t 24],none⟩,⟨ (some 26),.load1,[.t 25],none⟩,⟨ (some 27),.call 208,[.t 2,.c (.int .i64 0),.c .nils],none⟩,⟨ (some 28),.call 208,[.t 2,.c (.int .i64 1),.c .nils],none⟩,⟨ (some 29),.call 207,[.t 22,.t 26,.t 27,.t 28],none⟩,⟨ (some 30),.ext 0,[.t 29],none⟩,⟨ (some 31),.ext 1,[.t 29],none⟩,⟨none,.store 3,[.t 3,.t 30],none⟩,⟨ (some 4),.mov,[.t 31],none⟩] [.op 0,.op 1,.op 2,.op 3,.op 4,.op 5,.chk 4,.op 6,.chk 4,.op 7,.op 8,.op 9,.op 10,.op 11])<|.ret) (.ifr [] (.M 83 (.P 84 (.binI .eql) [.V 9,.I 5])) (.seq (.reg [.set 13 (.M 85 (.P 88 (.call 184) [.W 0 86,.P 87 (.call 208) [.V 2,.I 0,.k .nils]])),.set 14 (.P 89 (.ext 0) [.V 13]),.set 15 (.P 90 (.ext 1) [.V 13]),.set 6 (.P 7 (.alloc 0 [.int .i64 0,.int .i64 0,.nils]) []),.ef (.op none (.store 3) [.V 6,.V 14]),.set 7 (.M 8 (.V 15))])<|.block 3<|.ifr [] (.M 92 (.or 95 99 (.P 94 (.binI .neq) [.W 7 93,.I 0]) (.P 98 (.binI .eql) [.P 97 .load1 [.P 96 (.fadr 0) [.V 6]],.I 3]))) (.seq (.reg [.set 16 (.P 100 (.loadN 3) [.V 6]),.set 17 (.M 101 (.V 7)),.ef (.op none (.store 3) [.V 3,.V 16]),.set 4 (.M 5 (.V 17))])<|.ret) (.seq (.dreg [103,104,105,106,107,108,109,110,111,112,113,114,115,116,117,118,119,120,121,122,123,124] [⟨ (some 22),.fadr 0,[.t 6],none⟩,⟨ (some 23),.load1,[.t 22],none⟩,⟨ (some 24),.binI .eql,[.t 23,.c (.int .i64 2)],none⟩,⟨ (some 25),.mov,[.t 24],none⟩,⟨ (some 26),.fadr 1,[.t 6],(some (25 ,true)) ⟩,⟨ (some 27),.load1,[.t 26],(some (25 ,true)) ⟩,⟨ (some 28),.mov,[.t 5],(some (25 ,true)) ⟩,⟨ (some 29),.nilCheck,[.t 28],(some (25 ,true)) ⟩,⟨ (some 30),.fadr 1,[.t 29],(some (25 ,true)) ⟩,⟨ (some 31),.load1,[.t 30],(some (25 ,true)) ⟩,⟨ (some 32),.binI .eql,[.t 27,.t 31],(some (25 ,true)) ⟩,⟨ (some 33),.pick,[.t 25,.t 32,.c (.bool false)],none⟩,⟨ (some 34),.mov,[.t 33],none⟩,⟨ (some 35),.fadr 2,[.t 6],(some (34 ,true)) ⟩,⟨ (some 36),.load1,[.t 35],(some (34 ,true)) ⟩,⟨ (some 37),.lenL,[.t 36],(some (34 ,true)) ⟩,⟨ (some 38),.mov,[.t 5],(some (34 ,true)) ⟩,⟨ (some 39),.nilCheck,[.t 38],(some (34 ,true)) ⟩,⟨ (some 40),.fadr 2,[.t 39],(some (34 ,true)) ⟩,⟨ (some 41),.load1,[.t 40],(some (34 ,true)) ⟩,⟨ (some 42),.binI .eql,[.t 37,.t 41],(some (34 ,true)) ⟩,⟨ (some 43),.pick,[.t 34,.t 42,.c (.bool false)],none⟩,⟨ (some 18),.mov,[.t 43],none⟩] [.op 0,.op 1,.op 2,.op 3,.op 4,.op 5,.op 6,.op 7,.op 8,.op 9,.op 10,.op 11,.op 12,.op 13,.op 14,.op 15,.op 16,.op 17,.op 18,.op 19,.op 20,.op 21,.op 22])<|.cond (.t 18) (.reg [.ef (.op none (.store 4) [.V 2,.P 127 (.call 208) [.V 2,.I 1,.P 126 .load1 [.P 125 (.fadr 2) [.V 6]]]])]) (.reg [.ef (.op none (.store 4) [.V 2,.P 91 (.call 208) [.V 2,.I 2,.k .nils]])]))) (.ifr [] (.M 128 (.P 129 (.binI .eql) [.V 9,.I 6])) (.reg [.ef (.op none (.store 4) [.V 2,.P 132 (.call 208) [.V 2,.I 1,.P 131 (.bslice 0 [.str [],.nils,.int .i64 0,.nils] 1 [(0 ,4)]) [.P 130 (.call 208) [.V 2,.I 0,.k .nils]]]])]) (.seq (.reg [.set 10 (.P 34 (.call 209) []),.set 11 (.P 35 (.ext 0) [.V 10]),.set 12 (.P 36 (.ext 1) [.V 10]),.ef (.op none (.store 3) [.V 3,.V 11]),.set 4 (.M 5 (.V 12))])<|.ret))))))))<|.seq (.reg [.set 19 (.P 136 (.call 210) [.W 0 133,.P 135 .load1 [.P 134 (.fadr 0) [.V 2]]]),.set 20 (.P 137 (.ext 0) [.V 19]),.set 21 (.P 138 (.ext 1) [.V 19]),.ef (.op none (.store 3) [.V 3,.V 20]),.set 4 (.M 5 (.V 21))])<|.ret
def s185:SFn:=.src 28 [0,2,6] [.tmp 1]<|.seq (.reg [.set 1 (.M 2 (.k (.str [])))])<|.seq (.seq (.reg [.set 2 (.P 6 .load1 [.P 5 (.fadr 0) [.P 4 .nilCheck [.W 0 3]]])])<|.block 0<|.ifr [] (.M 7 (.P 8 (.binI .eql) [.V 2,.I 3])) (.seq (.reg [.set 1 (.M 2 (.k (.str [33])))])<|.ret) (.ifr [] (.M 9 (.P 10 (.binI .eql) [.V 2,.I 1])) (.seq (.reg [.set 1 (.M 2 (.P 15 (.call 29) [.P 14 .load1 [.P 13 (.fadr 1) [.P 12 .nilCheck [.W 0 11]]]]))])<|.ret) .skip))<|.seq (.dreg [16,17,18,19,20,21,22,23,24,25,26,27] [⟨ (some 3),.mov,[.t 0],none⟩,⟨ (some 4),.nilCheck,[.t 3],none⟩,⟨ (some 5),.fadr 1,[.t 4],none⟩,⟨ (some 6),.load1,[.t 5],none⟩,⟨ (some 7),.bslice 0 [.str []] 1 [(0 ,1)],[.c (.str [95])],none⟩,⟨ (some 8),.mov,[.t 0],none⟩,⟨ (some 9),.nilCheck,[.t 8],none⟩,⟨ (some 10),.fadr 2,[.t 9],none⟩,⟨ (some 11),.load1,[.t 10],none⟩,⟨ (some 12),.lenL,[.t 11],none⟩,⟨ (some 13),.call 211,[.t 7,.t 12],none⟩,⟨ (some 14),.call 27,[.t 6,.t 13],none⟩,⟨ (some 1),.mov,[.t 14],none⟩] [.op 0,.op 1,.op 2,.op 3,.op 5,.op 6,.op 7,.op 8,.op 9,.op 4,.chk 8,.chk 3,.op 10,.chk 3,.op 11,.op 12])<|.ret
def s204:SFn:=.src 5 [0,2] [.cellN 1 4]<|.seq (.reg [.set 1 (.P 2 (.alloc 0 [.str [],.nils,.int .i64 0,.nils]) [])])<|.seq (.reg [.ef (.op none (.store 4) [.V 1,.P 4 (.build [.str [],.nils,.int .i64 0,.nils] [(0 ,1)]) [.W 0 3]])])<|.ret
def s205:SFn:=.src 22 [0,1,2,6,7] [.cellN 3 4]<|.seq (.reg [.set 3 (.P 6 (.alloc 0 [.str [],.nils,.int .i64 0,.nils]) [])])<|.seq (.reg [.set 4 (.M 7 (.P 15 .load1 [.P 14 (.fadr 1) [.P 13 (.iadr 2) [.P 11 .load1 [.P 10 (.fadr 0) [.P 9 .nilCheck [.W 0 8]]],.W 1 12]]]))])<|.seq (.reg [.ef (.op none (.store 4) [.V 3,.P 21 (.build [.str [],.nils,.int .i64 0,.nils] [(1 ,1),(2 ,1),(3 ,1)]) [.W 4 16,.P 19 (.binI .sub) [.P 18 .lenL [.W 4 17],.I 1],.W 2 20]])])<|.ret
def s206:SFn:=.src 28 [0,2,3,4,16,17,18] [.tmp 1]<|.seq (.reg [.set 1 (.M 2 (.k .nils))])<|.seq (.reg [.set 2 (.M 3 (.k .nils))])<|.seq (.seq (.dreg [5,6,7,8,9,10,11,12,13,14,15] [⟨ (some 7),.mov,[.t 0],none⟩,⟨ (some 8),.nilCheck,[.t 7],none⟩,⟨ (some 9),.fadr 1,[.t 8],none⟩,⟨ (some 10),.load1,[.t 9],none⟩,⟨ (some 11),.mov,[.t 0],none⟩,⟨ (some 12),.nilCheck,[.t 11],none⟩,⟨ (some 13),.fadr 2,[.t 12],none⟩,⟨ (some 14),.load1,[.t 13],none⟩,⟨ (some 15),.iadr 4,[.t 10,.t 14],none⟩,⟨ (some 16),.fadr 3,[.t 15],none⟩,⟨ (some 17),.load1,[.t 16],none⟩,⟨ (some 4),.lenL,[.t 17],none⟩,⟨ (some 5),.mov,[.c (.int .i64 0)],none⟩] [.op 0,.op 1,.op 2,.op 3,.op 4,.op 5,.op 6,.op 7,.op 8,.op 9,.op 10,.op 11,.op 12])<|.block 0<|.loop [0,2,4,5]<|.seq (.reg [.set 6 (.P 18 (.binI .lss) [.V 5,.V 4])])<|.seq (.cond (.t 6) .skip (.exit 0))<|.seq (.block 1<|.seq (.reg [.set 3 (.M 4 (.W 5 19))])<|.reg [.set 2 (.M 3 (.P 25 (.app 0 4 72) [.W 2 20,.P 24 (.bslice 0 [.str [],.nils,.int .i64 0,.nils] 1 [(0 ,4)]) [.P 23 (.call 208) [.W 0 21,.W 3 22,.k .nils]]]))])<|.reg [.set 5 (.M 17 (.P 26 (.binI .add) [.V 5,.I 1]))])<|.seq (.reg [.set 1 (.M 2 (.W 2 27))])<|.ret
def s207:SFn:=.src 58 [0,1,2,3,6,7,8,9,10,11,12,13,14,15,19,20,21,22,23,25,26,30,31,34,35,39,40,41,42,47,54,55] [.cellN 6 3,.tmp 7]<|.seq (.reg [.set 4 (.P 6 (.box 0) [.V 2]),.set 5 (.P 7 (.box 0) [.V 3]),.set 6 (.P 8 (.alloc 0 [.int .i64 0,.int .i64 0,.nils]) []),.set 7 (.M 9 (.I 0))])<|.seq (.reg [.set 8 (.P 10 (.alloc 0 [.int .i64 0,.int .i64 0]) [])])<|.seq (.seq (.reg [.set 14 (.P 19 (.bslice 0 [.str [],.nils,.int .i64 0,.nils,.str [],.nils,.int .i64 0,.nils] 2 [(0 ,4),(4 ,4)]) [.P 17 (.loadN 4) [.V 4],.P 18 (.loadN 4) [.V 5]]),.set 15 (.P 20 .lenL [.V 14]),.set 16 (.M 21 (.I 0))])<|.block 0<|.loop [0,1,6,8,14,15,16]<|.seq (.reg [.set 17 (.P 22 (.binI .lss) [.V 16,.V 15])])<|.seq (.cond (.t 17) .skip (.exit 0))<|.seq (.block 1<|.seq (.reg [.set 18 (.M 23 (.V 16)),.set 19 (.P 25 (.loadN 4) [.P 24 (.iadr 4) [.V 14,.V 16]]),.set 10 (.P 12 (.alloc 0 [.str [],.nils,.int .i64 0,.nils]) []),.set 9 (.M 11 (.V 18)),.ef (.op none (.store 4) [.V 10,.V 19])])<|.seq (.reg [.set 20 (.M 26 (.P 29 (.call 184) [.W 0 27,.P 28 (.loadN 4) [.V 10]])),.set 21 (.P 30 (.ext 0) [.V 20]),.set 22 (.P 31 (.ext 1) [.V 20]),.set 11 (.P 13 (.alloc 0 [.int .i64 0,.int .i64 0,.nils]) []),.ef (.op none (.store 3) [.V 11,.V 21]),.set 12 (.M 14 (.V 22))])<|.seq (.ifr [] (.P 33 (.binI .neq) [.W 12 32,.I 0]) (.seq (.reg [.set 23 (.P 34 (.build [.int .i64 0,.int .i64 0,.nils] []) []),.set 24 (.M 35 (.V 12)),.ef (.op none (.store 3) [.V 6,.V 23]),.set 7 (.M 9 (.V 24))])<|.ret) .skip)<|.seq (.ifr [] (.P 38 (.binI .neq) [.P 37 .load1 [.P 36 (.fadr 0) [.V 11]],.I 1]) (.seq (.reg [.set 25 (.P 39 (.call 209) []),.set 26 (.P 40 (.ext 0) [.V 25]),.set 27 (.P 41 (.ext 1) [.V 25]),.ef (.op none (.store 3) [.V 6,.V 26]),.set 7 (.M 9 (.V 27))])<|.ret) .skip)<|.reg [.set 28 (.M 42 (.V 9)),.ef (.opr none (.store 1) (.P 45 (.iadrA 2 1) [.V 8,.V 28]) (.P 44 .load1 [.P 43 (.fadr 1) [.V 11]]))])<|.reg [.set 16 (.M 21 (.P 46 (.binI .add) [.V 16,.I 1]))])<|.seq (.reg [.set 29 (.M 47 (.P 53 (.call 226) [.W 1 48,.P 50 .load1 [.P 49 (.iadrA 2 1) [.V 8,.I 0]],.P 52 .load1 [.P 51 (.iadrA 2 1) [.V 8,.I 1]]])),.set 30 (.P 54 (.ext 0) [.V 29]),.set 31 (.P 55 (.ext 1) [.V 29]),.set 13 (.M 15 (.V 30)),.ef (.W 31 16)])<|.seq (.reg [.ef (.op none (.store 3) [.V 6,.P 57 (.build [.int .i64 0,.int .i64 0,.nils] [(0 ,1),(1 ,1)]) [.I 1,.W 13 56]]),.set 7 (.M 9 (.I 0))])<|.ret
def s208:SFn:=.src 33 [0,1,2,6] [.cellN 3 4]<|.seq (.reg [.set 3 (.P 6 (.alloc 0 [.str [],.nils,.int .i64 0,.nils]) [])])<|.seq (.dreg [7,8,9,10,11,12,13,14,15,16,17,18,19,20,21,22,23,24,25,26,27,28,29,30,31,32] [⟨ (some 4),.mov,[.t 0],none⟩,⟨ (some 5),.nilCheck,[.t 4],none⟩,⟨ (some 6),.fadr 1,[.t 5],none⟩,⟨ (some 7),.load1,[.t 6],none⟩,⟨ (some 8),.mov,[.t 0],none⟩,⟨ (some 9),.nilCheck,[.t 8],none⟩,⟨ (some 10),.fadr 1,[.t 9],none⟩,⟨ (some 11),.load1,[.t 10],none⟩,⟨ (some 12),.mov,[.t 0],none⟩,⟨ (some 13),.nilCheck,[.t 12],none⟩,⟨ (some 14),.fadr 2,[.t 13],none⟩,⟨ (some 15),.load1,[.t 14],none⟩,⟨ (some 16),.iadr 4,[.t 11,.t 15],none⟩,⟨ (some 17),.fadr 3,[.t 16],none⟩,⟨ (some 18),.load1,[.t 17],none⟩,⟨ (some 19),.mov,[.t 1],none⟩,⟨ (some 20),.iadr 1,[.t 18,.t 19],none⟩,⟨ (some 21),.load1,[.t 20],none⟩,⟨ (some 22),.mov,[.t 0],none⟩,⟨ (some 23),.nilCheck,[.t 22],none⟩,⟨ (some 24),.fadr 3,[.t 23],none⟩,⟨ (some 25),.load1,[.t 24],none⟩,⟨ (some 26),.mov,[.t 2],none⟩,⟨ (some 27),.bslice 0 [.nils,.nils] 2 [(0 ,1),(1 ,1)],[.t 25,.t 26],none⟩,⟨ (some 28),.call 227,[.t 27],none⟩,⟨ (some 29),.build [.str [],.nils,.int .i64 0,.nils] [(1 ,1),(2 ,1),(3 ,1)],[.t 7,.t 21,.t 28],none⟩,⟨none,.store 4,[.t 3,.t 29],none⟩] [.op 0,.op 1,.op 2,.op 3,.op 4,.op 5,.op 6,.op 7,.op 8,.op 9,.op 10,.op 11,.op 12,.op 13,.op 14,.op 15,.op 16,.op 17,.op 18,.op 19,.op 20,.op 21,.op 22,.op 23,.chk 17,.chk 14,.chk 11,.chk 7,.chk 3,.op 24,.chk 17,.chk 14,.chk 11,.chk 7,.chk 3,.op 25,.op 26])<|.ret
def s209:SFn:=.src 3 [0,1] [.cellN 0 3,.tmp 1]<|.seq (.reg [.set 0 (.P 0 (.alloc 0 [.int .i64 0,.int .i64 0,.nils]) []),.set 1 (.M 1 (.I 0))])<|.seq (.reg [.ef (.op none (.store 3) [.V 0,.P 2 (.build [.int .i64 0,.int .i64 0,.nils] [(0 ,1)]) [.I 3]]),.set 1 (.M 1 (.I 0))])<|.ret
def s210:SFn:=.src 41 [1,4,5,6,7,8,10,12,13,16,17,18,19,25,26,27,28,29] [.cellN 1 3,.tmp 2]<|.seq (.reg [.set 1 (.P 4 (.alloc 0 [.int .i64 0,.int .i64 0,.nils]) []),.set 2 (.M 5 (.I 0))])<|.seq (.reg [.set 8 (.M 13 (.P 15 (.call 11) [.W 0 14])),.set 9 (.P 16 (.ext 0) [.V 8]),.set 10 (.P 17 (.ext 1) [.V 8]),.set 11 (.P 18 (.ext 2) [.V 8]),.set 12 (.P 19 (.ext 3) [.V 8]),.set 3 (.M 6 (.V 9)),.set 4 (.M 7 (.V 10)),.set 5 (.M 8 (.V 11)),.ef (.W 12 9)])<|.seq (.ifr [] (.P 21 (.binI .eql) [.W 3 20,.I 0]) (.seq (.reg [.ef (.op none (.store 3) [.V 1,.P 22 (.build [.int .i64 0,.int .i64 0,.nils] []) []]),.set 2 (.M 5 (.I 902))])<|.ret) .skip)<|.seq (.reg [.set 13 (.P 25 (.build [.int .i64 0,.int .i64 0,.nils] [(0 ,1),(1 ,1)]) [.W 3 23,.W 4 24]),.set 6 (.P 10 (.alloc 0 [.int .i64 0,.int .i64 0,.nils]) []),.ef (.op none (.store 3) [.V 6,.V 13])])<|.seq (.seq (.reg [.set 14 (.M 26 (.V 5)),.set 15 (.P 27 .lenL [.V 14]),.set 16 (.M 28 (.I 0))])<|.block 0<|.loop [1,6,14,15,16]<|.seq (.reg [.set 17 (.P 29 (.binI .lss) [.V 16,.V 15])])<|.seq (.cond (.t 17) .skip (.exit 0))<|.seq (.block 1<|.seq (.reg [.set 7 (.M 12 (.P 31 .load1 [.P 30 (.iadr 1) [.V 14,.V 16]]))])<|.dreg [32,33,34,35,36,37,38] [⟨ (some 18),.fadr 2,[.t 6],none⟩,⟨ (some 19),.load1,[.t 18],none⟩,⟨ (some 20),.mov,[.t 7],none⟩,⟨ (some 21),.call 204,[.t 20],none⟩,⟨ (some 22),.bslice 0 [.str [],.nils,.int .i64 0,.nils] 1 [(0 ,4)],[.t 21],none⟩,⟨ (some 23),.app 0 4 72,[.t 19,.t 22],none⟩,⟨ (some 24),.fadr 2,[.t 6],none⟩,⟨none,.store 1,[.t 24,.t 23],none⟩] [.op 0,.op 1,.op 2,.op 3,.chk 1,.op 4,.chk 1,.op 5,.op 6,.op 7])<|.reg [.set 16 (.M 28 (.P 39 (.binI .add) [.V 16,.I 1]))])<|.seq (.reg [.ef (.op none (.store 3) [.V 1,.P 40 (.loadN 3) [.V 6]]),.set 2 (.M 5 (.I 0))])<|.ret
def s211:SFn:=.src 48 [0,1,4,5,6,7,8,12,19,20,29] [.tmp 2]<|.seq (.reg [.set 2 (.M 4 (.k .nils))])<|.seq (.ifr [] (.P 10 (.binI .lss) [.W 1 9,.I 0]) (.reg [.ef (.P 11 .mkifc [.k (.str [99,97,110,110,111,116,32,98,101,32,110,101,103,97,116,105,118,101])]),.ef (.op none .bad [])]) .skip)<|.seq (.reg [.set 7 (.M 12 (.P 18 (.call 228) [.P 15 (.conv .u64) [.P 14 .lenL [.W 0 13]],.P 17 (.conv .u64) [.W 1 16]])),.set 8 (.P 19 (.ext 0) [.V 7]),.set 9 (.P 20 (.ext 1) [.V 7]),.set 3 (.M 5 (.V 8)),.set 4 (.M 6 (.V 9))])<|.seq (.ifr [] (.or 23 26 (.P 22 (.binI .gtr) [.W 3 21,.k (.int .u64 0)]) (.P 25 (.binI .gtr) [.W 4 24,.k (.int .u64 9223372036854775807)])) (.reg [.ef (.P 27 .mkifc [.k (.str [116,104,101,32,114,101,115,117,108,116,32,111,102,32,40,108,101,110,40,120,41,32,42,32,99,111,117,110,116,41,32,111,118,101,114,102,108,111,119,115])]),.ef (.op none .bad [])]) .skip)<|.seq (.reg [.set 10 (.P 29 (.conv .i64) [.W 4 28]),.set 5 (.M 7 (.P 30 (.mkslice 0 [.str []] 16) [.V 10,.V 10]))])<|.seq (.reg [.set 6 (.M 8 (.P 33 (.cpy 1) [.W 5 31,.W 0 32]))])<|.seq (.block 0<|.loop [5,6]<|.seq (.ifr [] (.P 37 (.binI .lss) [.W 6 34,.P 36 .lenL [.W 5 35]]) .skip (.exit 0))<|.block 1<|.dreg [38,39,40,41,42,43,44,45,46] [⟨ (some 11),.mov,[.t 6],none⟩,⟨ (some 12),.mov,[.t 5],none⟩,⟨ (some 13),.mov,[.t 6],none⟩,⟨ (some 14),.slL 1 true false false,[.t 12,.t 13],none⟩,⟨ (some 15),.mov,[.t 5],none⟩,⟨ (some 16),.mov,[.t 6],none⟩,⟨ (some 17),.slL 1 false true false,[.t 15,.t 16],none⟩,⟨ (some 18),.cpy 1,[.t 14,.t 17],none⟩,⟨ (some 19),.binI .add,[.t 11,.t 18],none⟩,⟨ (some 6),.mov,[.t 19],none⟩] [.op 0,.op 1,.op 2,.op 3,.op 4,.op 5,.op 6,.op 7,.op 8,.op 9])<|.seq (.reg [.set 2 (.M 4 (.W 5 47))])<|.ret
def s226:SFn:=.src 48 [0,1,2,6,7,8,17] [.tmp 3,.tmp 4]<|.seq (.reg [.set 3 (.M 6 (.I 0)),.set 4 (.M 7 (.I 0))])<|.seq (.ifr [] (.or 12 16 (.P 11 .notB [.P 10 (.call 28) [.W 1 9]]) (.P 15 .notB [.P 14 (.call 28) [.W 2 13]])) (.seq (.reg [.set 3 (.M 6 (.I 0)),.set 4 (.M 7 (.I 100))])<|.ret) .skip)<|.seq (.reg [.set 5 (.M 8 (.I 0))])<|.seq (.seq (.reg [.set 6 (.M 17 (.V 0))])<|.block 0<|.ifr [] (.M 18 (.P 19 (.binI .eql) [.V 6,.I 0])) (.reg [.set 5 (.M 8 (.P 22 (.binI .add) [.W 1 20,.W 2 21]))]) (.ifr [] (.M 23 (.P 24 (.binI .eql) [.V 6,.I 1])) (.reg [.set 5 (.M 8 (.P 27 (.binI .sub) [.W 1 25,.W 2 26]))]) (.ifr [] (.M 28 (.P 29 (.binI .eql) [.V 6,.I 2])) (.reg [.set 5 (.M 8 (.P 32 (.binI .mul) [.W 1 30,.W 2 31]))]) (.ifr [] (.M 33 (.P 34 (.binI .eql) [.V 6,.I 3])) (.reg [.set 5 (.M 8 (.P 38 (.call 230) [.P 37 (.binI .eql) [.W 1 35,.W 2 36]]))]) (.ifr [] (.M 39 (.P 40 (.binI .eql) [.V 6,.I 4])) (.reg [.set 5 (.M 8 (.P 44 (.call 230) [.P 43 (.binI .lss) [.W 1 41,.W 2 42]]))]) (.seq (.reg [.set 3 (.M 6 (.I 0)),.set 4 (.M 7 (.I 100))])<|.ret))))))<|.seq (.reg [.set 3 (.M 6 (.P 47 (.conv .i64) [.P 46 (.conv .i16) [.W 5 45]])),.set 4 (.M 7 (.I 0))])<|.ret
def s227:SFn:=.src 36 [0,2,3,5,6,8,9,10,11,12,25,26,27,28] [.tmp 1]<|.seq (.reg [.set 1 (.M 2 (.k .nils))])<|.seq (.reg [.set 2 (.M 3 (.I 0))])<|.seq (.seq (.reg [.set 6 (.M 9 (.V 0)),.set 7 (.P 10 .lenL [.V 6]),.set 8 (.M 11 (.I 0))])<|.block 0<|.loop [0,2,6,7,8]<|.seq (.reg [.set 9 (.P 12 (.binI .lss) [.V 8,.V 7])])<|.seq (.cond (.t 9) .skip (.exit 0))<|.seq (.block 1<|.seq (.reg [.set 3 (.M 5 (.P 14 .load1 [.P 13 (.iadr 1) [.V 6,.V 8]]))])<|.seq (.reg [.set 2 (.M 3 (.P 18 (.binI .add) [.W 2 15,.P 17 .lenL [.W 3 16]]))])<|.ifr [] (.P 20 (.binI .lss) [.W 2 19,.I 0]) (.reg [.ef (.P 21 .mkifc [.k (.str [108,101,110,32,111,117,116,32,111,102,32,114,97,110,103,101])]),.ef (.op none .bad [])]) .skip)<|.reg [.set 8 (.M 11 (.P 22 (.binI .add) [.V 8,.I 1]))])<|.seq (.reg [.set 4 (.M 6 (.P 24 (.call 231) [.k .nils,.W 2 23]))])<|.seq (.seq (.reg [.set 10 (.M 25 (.V 0)),.set 11 (.P 26 .lenL [.V 10]),.set 12 (.M 27 (.I 0))])<|.block 2<|.loop [4,10,11,12]<|.seq (.reg [.set 13 (.P 28 (.binI .lss) [.V 12,.V 11])])<|.seq (.cond (.t 13) .skip (.exit 2))<|.seq (.block 3<|.seq (.reg [.set 5 (.M 8 (.P 30 .load1 [.P 29 (.iadr 1) [.V 10,.V 12]]))])<|.reg [.set 4 (.M 6 (.P 33 (.app 0 4 72) [.W 4 31,.W 5 32]))])<|.reg [.set 12 (.M 27 (.P 34 (.binI .add) [.V 12,.I 1]))])<|.seq (.reg [.set 1 (.M 2 (.W 4 35))])<|.ret
def s228:SFn:=.src 30 [0,1,4,5,6,7,8,9,10,16,17,19,21,22,26,27,28,29] [.tmp 2,.tmp 3]<|.seq (.reg [.set 2 (.M 4 (.k (.int .u64 0))),.set 3 (.M 5 (.k (.int .u64 0)))])<|.seq (.cond (.c (.bool false)) (.seq (.reg [.set 8 (.M 10 (.P 15 (.call 232) [.P 12 (.conv .u32) [.W 0 11],.P 14 (.conv .u32) [.W 1 13]])),.set 9 (.P 16 (.ext 0) [.V 8]),.set 10 (.P 17 (.ext 1) [.V 8]),.set 4 (.M 6 (.V 9)),.set 5 (.M 7 (.V 10))])<|.seq (.reg [.set 11 (.P 19 (.conv .u64) [.W 4 18]),.set 12 (.P 21 (.conv .u64) [.W 5 20]),.set 2 (.M 4 (.V 11)),.set 3 (.M 5 (.V 12))])<|.ret) .skip)<|.seq (.reg [.set 13 (.M 22 (.P 25 (.call 233) [.W 0 23,.W 1 24])),.set 14 (.P 26 (.ext 0) [.V 13]),.set 15 (.P 27 (.ext 1) [.V 13]),.set 6 (.M 8 (.V 14)),.set 7 (.M 9 (.V 15))])<|.seq (.reg [.set 16 (.M 28 (.V 6)),.set 17 (.M 29 (.V 7)),.set 2 (.M 4 (.V 16)),.set 3 (.M 5 (.V 17))])<|.ret
def s230:SFn:=.src 4 [0,2] [.tmp 1]<|.seq (.reg [.set 1 (.M 2 (.I 0))])<|.seq (.ifr [] (.W 0 3) (.seq (.reg [.set 1 (.M 2 (.I 1))])<|.ret) .skip)<|.seq (.reg [.set 1 (.M 2 (.I 0))])<|.ret
def s231:SFn:=.src 27 [0,1,4] [.tmp 2]<|.seq (.reg [.set 2 (.M 4 (.k .nils))])<|.seq (.ifr [] (.P 6 (.binI .lss) [.W 1 5,.I 0]) (.reg [.ef (.P 7 .mkifc [.k (.str [99,97,110,110,111,116,32,98,101,32,110,101,103,97,116,105,118,101])]),.ef (.op none .bad [])]) .skip)<|.seq (.seq (.reg [.set 1 (.M 1 (.P 14 (.binI .sub) [.W 1 8,.P 13 (.binI .sub) [.P 10 .capL [.W 0 9],.P 12 .lenL [.W 0 11]]]))])<|.ifr [] (.P 16 (.binI .gtr) [.W 1 15,.I 0]) (.reg [.set 0 (.M 0 (.P 25 (.slL 4 false true false) [.P 22 (.appz 0 4 72 [.str [],.nils,.int .i64 0,.nils]) [.P 20 (.slL 4 false true false) [.W 0 17,.P 19 .capL [.W 0 18]],.W 1 21],.P 24 .lenL [.W 0 23]]))]) .skip)<|.seq (.reg [.set 2 (.M 4 (.W 0 26))])<|.ret
def s232:SFn:=.src 17 [0,1,4,5,6,14,16] [.tmp 2,.tmp 3]<|.seq (.reg [.set 2 (.M 4 (.k (.int .u32 0))),.set 3 (.M 5 (.k (.int .u32 0)))])<|.seq (.reg [.set 4 (.M 6 (.P 11 (.binI .mul) [.P 8 (.conv .u64) [.W 0 7],.P 10 (.conv .u64) [.W 1 9]]))])<|.seq (.reg [.set 5 (.P 14 (.conv .u32) [.P 13 (.binI .shr) [.W 4 12,.k (.int .u64 32)]]),.set 6 (.P 16 (.conv .u32) [.W 4 15]),.set 2 (.M 4 (.V 5)),.set 3 (.M 5 (.V 6))])<|.ret
def s233:SFn:=.src 51 [0,1,4,5,6,7,8,9,10,11,12,13] [.tmp 2,.tmp 3]<|.seq (.reg [.set 2 (.M 4 (.k (.int .u64 0))),.set 3 (.M 5 (.k (.int .u64 0)))])<|.seq (.reg [.set 4 (.M 6 (.P 15 (.binI .and) [.W 0 14,.k (.int .u64 4294967295)]))])<|.seq (.reg [.set 5 (.M 7 (.P 17 (.binI .shr) [.W 0 16,.k (.int .u64 32)]))])<|.seq (.reg [.set 6 (.M 8 (.P 19 (.binI .and) [.W 1 18,.k (.int .u64 4294967295)]))])<|.seq (.reg [.set 7 (.M 9 (.P 21 (.binI .shr) [.W 1 20,.k (.int .u64 32)]))])<|.seq (.reg [.set 8 (.M 10 (.P 24 (.binI .mul) [.W 4 22,.W 6 23]))])<|.seq (.reg [.set 9 (.M 11 (.P 30 (.binI .add) [.P 27 (.binI .mul) [.W 5 25,.W 6 26],.P 29 (.binI .shr) [.W 8 28,.k (.int .u64 32)]]))])<|.seq (.reg [.set 10 (.M 12 (.P 32 (.binI .and) [.W 9 31,.k (.int .u64 4294967295)]))])<|.seq (.reg [.set 11 (.M 13 (.P 34 (.binI .shr) [.W 9 33,.k (.int .u64 32)]))])<|.seq (.reg [.set 10 (.M 12 (.P 39 (.binI .add) [.W 10 35,.P 38 (.binI .mul) [.W 4 36,.W 7 37]]))])<|.seq (.reg [.set 2 (.M 4 (.P 47 (.binI .add) [.P 44 (.binI .add) [.P 42 (.binI .mul) [.W 5 40,.W 7 41],.W 11 43],.P 46 (.binI .shr) [.W 10 45,.k (.int .u64 32)]]))])<|.seq (.reg [.set 3 (.M 5 (.P 50 (.binI .mul) [.W 0 48,.W 1 49]))])<|.ret
end Am.T
end
section
namespace Am.F
open Go Am
variable {β:Type}
noncomputable def zad(v w:AV){k:VK β}(_:Wr k):Option β:=fChk v w (k v)
end Am.F
end
section
namespace Am.F
open Go Am
noncomputable section
variable {β:Type} (I:FI) (N:Nat) (call:zh β) (a:List AV) (h:H) (k:K β)
def f184_J2{β:Type}(call:zh β)(k:K β)(x0 x1 x2 x3 x4 x5 x6 x7 x8 x9 x10 x11 x12 x13 x14 x15 x16 x17 x18 x19 x20 x21:AV)(h:H):Option β :=
 zg 0 x2<|.mk λv3=>
 za v3 h<|.mk λv4=>
 qCall call (.fn 210 []) [x0,v4] h<|.mk λv5 h=>
 qExt 0 v5<|.mk λv6=>
 qExt 1 v5<|.mk λv7=>
 zr 3 x3 v6 h<|.mk λh=>
 zF 3 x3 h<|.mk λv8=>
 k (.tup [v8,v7]) h
def f184_J11{β:Type}(call:zh β)(k:K β)(l9:Cur β 22)(x0 x1 x2 x3 x4 x5 x6 x7 x8 x9 x10 x11 x12 x13 x14 x15 x16 x17 x18 x19 x20 x21:AV)(h:H):Option β :=
 qNil x0<|.mk λv12=>
 zg 1 v12<|.mk λv13=>
 za v13 h<|.mk λv14=>
 qSub v14 (.int .i64 1)<|.mk λv15=>
 qNil x0<|.mk λv16=>
 zg 1 v16<|.mk λv17=>
 zr 1 v17 v15 h<|.mk λh=>
 zg 1 x2<|.mk λv18=>
 za v18 h<|.mk λv19=>
 zg 2 x2<|.mk λv20=>
 za v20 h<|.mk λv21=>
 zM 4 v19 v21<|.mk λv22=>
 qNil v22<|.mk λv23=>
 zg 0 v23<|.mk λv24=>
 za v24 h<|.mk λv25=>
 qEql v25 (.int .i64 0)<|.mk λv26=>
 qIf v26 (.mk (
 qNil v22<|.mk λv27=>
 zg 1 v27<|.mk λv28=>
 za v28 h<|.mk λv29=>
 zp [(.int .i64 0),(.int .i64 0),.nils] [(0,1),(1,1)] [(.int .i64 1),v29]<|.mk λv30=>
 zr 3 x3 v30 h<|.mk λh=>
 zF 3 x3 h<|.mk λv31=>
 k (.tup [v31,(.int .i64 0)]) h))<|.mk (
 qEql v25 (.int .i64 1)<|.mk λv32=>
 qIf v32 (.mk (
 zg 3 x2<|.mk λv33=>
 za v33 h<|.mk λv34=>
 qNil v22<|.mk λv35=>
 zg 1 v35<|.mk λv36=>
 za v36 h<|.mk λv37=>
 zM 4 v34 v37<|.mk λv38=>
 zF 4 v38 h<|.mk λv39=>
 zr 4 x2 v39 h<|.mk λh=>
 l9 x0 x1 x2 x3 x4 v22 x6 x7 x0 v25 x10 x11 x12 x13 x14 x15 x16 x17 x18 x19 x20 x21 h))<|.mk (
 qEql v25 (.int .i64 2)<|.mk λv40=>
 qIf v40 (.mk (
 qNil v22<|.mk λv41=>
 zg 1 v41<|.mk λv42=>
 za v42 h<|.mk λv43=>
 qCall call (.fn 206 []) [x2] h<|.mk λv44 h=>
 za v42 h<|.mk λv45=>
 zad v45 v43<|.mk λ_=>
 qCall call (.fn 205 []) [x0,v43,v44] h<|.mk λv46 h=>
 zr 4 x2 v46 h<|.mk λh=>
 l9 x0 x1 x2 x3 x4 v22 x6 x7 x0 v25 x10 x11 x12 x13 x14 x15 x16 x17 x18 x19 x20 x21 h))<|.mk (
 qEql v25 (.int .i64 3)<|.mk λv47=>
 qIf v47 (.mk (
 qNil v22<|.mk λv48=>
 zg 1 v48<|.mk λv49=>
 za v49 h<|.mk λv50=>
 qCall call (.fn 206 []) [x2] h<|.mk λv51 h=>
 za v49 h<|.mk λv52=>
 zad v52 v50<|.mk λ_=>
 zp [(.int .i64 0),(.int .i64 0),.nils] [(0,1),(1,1),(2,1)] [(.int .i64 2),v50,v51]<|.mk λv53=>
 zr 3 x3 v53 h<|.mk λh=>
 zF 3 x3 h<|.mk λv54=>
 k (.tup [v54,(.int .i64 0)]) h))<|.mk (
 qEql v25 (.int .i64 4)<|.mk λv55=>
 qIf v55 (.mk (
 qNil v22<|.mk λv56=>
 zg 1 v56<|.mk λv57=>
 za v57 h<|.mk λv58=>
 qCall call (.fn 208 []) [x2,(.int .i64 0),.nils] h<|.mk λv59 h=>
 za v57 h<|.mk λv60=>
 zad v60 v58<|.mk λ_=>
 qCall call (.fn 208 []) [x2,(.int .i64 1),.nils] h<|.mk λv61 h=>
 za v57 h<|.mk λv62=>
 zad v62 v58<|.mk λ_=>
 qCall call (.fn 207 []) [x0,v58,v59,v61] h<|.mk λv63 h=>
 qExt 0 v63<|.mk λv64=>
 qExt 1 v63<|.mk λv65=>
 zr 3 x3 v64 h<|.mk λh=>
 zF 3 x3 h<|.mk λv66=>
 k (.tup [v66,v65]) h))<|.mk (
 qEql v25 (.int .i64 5)<|.mk λv67=>
 qIf v67 (.mk (
 qCall call (.fn 208 []) [x2,(.int .i64 0),.nils] h<|.mk λv68 h=>
 qCall call (.fn 184 []) [x0,v68] h<|.mk λv69 h=>
 qExt 0 v69<|.mk λv70=>
 qExt 1 v69<|.mk λv71=>
 zao 0 [(.int .i64 0),(.int .i64 0),.nils] h<|.mk λv72 h=>
 zr 3 v72 v70 h<|.mk λh=>
 qNeq v71 (.int .i64 0)<|.mk λv73=>
 qOr v73 h (.mk λh k=>
 zg 0 v72<|.mk λv74=>
 za v74 h<|.mk λv75=>
 qEql v75 (.int .i64 3)<|.mk λv76=>
 k v76 h)<|.mk λv77 h=>
 qIf v77 (.mk (
 zF 3 v72 h<|.mk λv78=>
 zr 3 x3 v78 h<|.mk λh=>
 zF 3 x3 h<|.mk λv79=>
 k (.tup [v79,v71]) h))<|.mk (
 zg 0 v72<|.mk λv80=>
 za v80 h<|.mk λv81=>
 qEql v81 (.int .i64 2)<|.mk λv82=>
 qGrd v82 true h (.mk λh k=>
 zg 1 v72<|.mk λv83=>
 k v83 h)<|.mk λv84 h=>
 qGrd v82 true h (.mk λh k=>
 za v84 h<|.mk λv85=>
 k v85 h)<|.mk λv86 h=>
 qGrd v82 true h (.mk λh k=>
 k v22 h)<|.mk λv87 h=>
 qGrd v82 true h (.mk λh k=>
 qNil v87<|.mk λv88=>
 k v88 h)<|.mk λv89 h=>
 qGrd v82 true h (.mk λh k=>
 zg 1 v89<|.mk λv90=>
 k v90 h)<|.mk λv91 h=>
 qGrd v82 true h (.mk λh k=>
 za v91 h<|.mk λv92=>
 k v92 h)<|.mk λv93 h=>
 qGrd v82 true h (.mk λh k=>
 qEql v86 v93<|.mk λv94=>
 k v94 h)<|.mk λv95 h=>
 zhn v82 v95 (.bool false)<|.mk λv96=>
 qGrd v96 true h (.mk λh k=>
 zg 2 v72<|.mk λv97=>
 k v97 h)<|.mk λv98 h=>
 qGrd v96 true h (.mk λh k=>
 za v98 h<|.mk λv99=>
 k v99 h)<|.mk λv100 h=>
 qGrd v96 true h (.mk λh k=>
 qLenL v100<|.mk λv101=>
 k v101 h)<|.mk λv102 h=>
 qGrd v96 true h (.mk λh k=>
 k v22 h)<|.mk λv103 h=>
 qGrd v96 true h (.mk λh k=>
 qNil v103<|.mk λv104=>
 k v104 h)<|.mk λv105 h=>
 qGrd v96 true h (.mk λh k=>
 zg 2 v105<|.mk λv106=>
 k v106 h)<|.mk λv107 h=>
 qGrd v96 true h (.mk λh k=>
 za v107 h<|.mk λv108=>
 k v108 h)<|.mk λv109 h=>
 qGrd v96 true h (.mk λh k=>
 qEql v102 v109<|.mk λv110=>
 k v110 h)<|.mk λv111 h=>
 zhn v96 v111 (.bool false)<|.mk λv112=>
 qIf v112 (.mk (
 zg 2 v72<|.mk λv113=>
 za v113 h<|.mk λv114=>
 qCall call (.fn 208 []) [x2,(.int .i64 1),v114] h<|.mk λv115 h=>
 zr 4 x2 v115 h<|.mk λh=>
 l9 x0 x1 x2 x3 x4 v22 v72 v71 x0 v25 x10 x11 x12 v69 v70 v71 x16 x17 v112 x19 x20 x21 h))<|.mk (
 qCall call (.fn 208 []) [x2,(.int .i64 2),.nils] h<|.mk λv116 h=>
 zr 4 x2 v116 h<|.mk λh=>
 l9 x0 x1 x2 x3 x4 v22 v72 v71 x0 v25 x10 x11 x12 v69 v70 v71 x16 x17 v112 x19 x20 x21 h))))<|.mk (
 qEql v25 (.int .i64 6)<|.mk λv117=>
 qIf v117 (.mk (
 qCall call (.fn 208 []) [x2,(.int .i64 0),.nils] h<|.mk λv118 h=>
 zQ 0 [(.str []),.nils,(.int .i64 0),.nils] 1 [(0,4)] [v118] h<|.mk λv119 h=>
 qCall call (.fn 208 []) [x2,(.int .i64 1),v119] h<|.mk λv120 h=>
 zr 4 x2 v120 h<|.mk λh=>
 l9 x0 x1 x2 x3 x4 v22 x6 x7 x0 v25 x10 x11 x12 x13 x14 x15 x16 x17 x18 x19 x20 x21 h))<|.mk (
 qCall call (.fn 209 []) [] h<|.mk λv121 h=>
 qExt 0 v121<|.mk λv122=>
 qExt 1 v121<|.mk λv123=>
 zr 3 x3 v122 h<|.mk λh=>
 zF 3 x3 h<|.mk λv124=>
 k (.tup [v124,v123]) h)))))))
def f184_J10{β:Type}(call:zh β)(k:K β)(l9:Cur β 22)(x0 x1 x2 x3 x4 x5 x6 x7 x8 x9 x10 x11 x12 x13 x14 x15 x16 x17 x18 x19 x20 x21:AV)(h:H):Option β :=
 zq 22 (.mk (
 f184_J11 call k l9))<|.mk λj11=>
 qNil x0<|.mk λv125=>
 zg 1 v125<|.mk λv126=>
 za v126 h<|.mk λv127=>
 qEql v127 (.int .i64 0)<|.mk λv128=>
 qIf v128 (.mk (
 zp [(.int .i64 0),(.int .i64 0),.nils] [] []<|.mk λv129=>
 zr 3 x3 v129 h<|.mk λh=>
 zF 3 x3 h<|.mk λv130=>
 k (.tup [v130,(.int .i64 901)]) h))<|.mk (
 j11 x0 x1 x2 x3 x4 x5 x6 x7 x8 x9 x10 x11 x12 x13 x14 x15 x16 x17 x18 x19 x20 x21 h)
def f184_L9{β:Type}(call:zh β)(k:K β)(j2:Cur β 22)(l9:Cur β 22)(x0 x1 x2 x3 x4 x5 x6 x7 x8 x9 x10 x11 x12 x13 x14 x15 x16 x17 x18 x19 x20 x21:AV)(h:H):Option β :=
 zq 22 (.mk (
 f184_J10 call k l9))<|.mk λj10=>
 zg 1 x2<|.mk λv131=>
 za v131 h<|.mk λv132=>
 zdH .sl true v132<|.mk λv133=>
 qIf v133 (.mk (
 j10 x0 .any x2 x3 .any .any .any .any .any .any .any .any .any .any .any .any .any .any .any .any .any .any h))<|.mk (
 j2 x0 .any x2 x3 .any .any .any .any .any .any .any .any .any .any .any .any .any .any .any .any .any .any h)
def f184{β:Type}(N:Nat)(call:zh β)(a:List AV)(h:H)(k:K β):Option β :=
 qBox 0 (nth a 1) h<|.mk λv0 h=>
 zao 0 [(.int .i64 0),(.int .i64 0),.nils] h<|.mk λv1 h=>
 zq 22 (.mk (
 f184_J2 call k))<|.mk λj2=>
 (zaE 22 N<|.mk (
 f184_L9 call k j2)) (nth a 0) (nth a 1) v0 v1 (.int .i64 0) (nth a 6) (nth a 7) (nth a 8) (nth a 18) (nth a 33) (nth a 34) (nth a 35) (nth a 36) (nth a 85) (nth a 89) (nth a 90) (nth a 100) (nth a 101) (nth a 102) (nth a 136) (nth a 137) (nth a 138) h
theorem y184:zS I 184 T.s184 N call a h k=f184 N call a h k:=by kernel_rfl
def f204{β:Type}(N:Nat)(call:zh β)(a:List AV)(h:H)(k:K β):Option β :=
 zao 0 [(.str []),.nils,(.int .i64 0),.nils] h<|.mk λv0 h=>
 zp [(.str []),.nils,(.int .i64 0),.nils] [(0,1)] [(nth a 0)]<|.mk λv1=>
 zr 4 v0 v1 h<|.mk λh=>
 zF 4 v0 h<|.mk λv2=>
 k v2 h
theorem y204:zS I 204 T.s204 N call a h k=f204 N call a h k:=by kernel_rfl
def f205{β:Type}(N:Nat)(call:zh β)(a:List AV)(h:H)(k:K β):Option β :=
 zao 0 [(.str []),.nils,(.int .i64 0),.nils] h<|.mk λv0 h=>
 qNil (nth a 0)<|.mk λv1=>
 zg 0 v1<|.mk λv2=>
 za v2 h<|.mk λv3=>
 zM 2 v3 (nth a 1)<|.mk λv4=>
 zg 1 v4<|.mk λv5=>
 za v5 h<|.mk λv6=>
 qLenL v6<|.mk λv7=>
 qSub v7 (.int .i64 1)<|.mk λv8=>
 zp [(.str []),.nils,(.int .i64 0),.nils] [(1,1),(2,1),(3,1)] [v6,v8,(nth a 2)]<|.mk λv9=>
 zr 4 v0 v9 h<|.mk λh=>
 zF 4 v0 h<|.mk λv10=>
 k v10 h
theorem y205:zS I 205 T.s205 N call a h k=f205 N call a h k:=by kernel_rfl
def f206_J0{β:Type}(k:K β)(x0 x1 x2 x3 x4 x5 x6:AV)(h:H):Option β :=
 k x2 h
def f206_J14{β:Type}(l11:Cur β 7)(x0 x1 x2 x3 x4 x5 x6:AV)(h:H):Option β :=
 qAdd x5 (.int .i64 1)<|.mk λv15=>
 l11 x0 x1 x2 x3 x4 v15 x6 h
def f206_J13{β:Type}(call:zh β)(l11:Cur β 7)(x0 x1 x2 x3 x4 x5 x6:AV)(h:H):Option β :=
 zq 7 (.mk (
 f206_J14 l11))<|.mk λj14=>
 qCall call (.fn 208 []) [x0,x5,.nils] h<|.mk λv16 h=>
 zQ 0 [(.str []),.nils,(.int .i64 0),.nils] 1 [(0,4)] [v16] h<|.mk λv17 h=>
 qApp 0 4 72 x2 v17 h<|.mk λv18 h=>
 j14 x0 x1 v18 x5 x4 x5 x6 h
def f206_L11{β:Type}(call:zh β)(j0:Cur β 7)(l11:Cur β 7)(x0 x1 x2 x3 x4 x5 x6:AV)(h:H):Option β :=
 qLss x5 x4<|.mk λv12=>
 zq 7 (.mk (
 f206_J13 call l11))<|.mk λj13=>
 qIf v12 (.mk (
 j13 x0 .any x2 .any x4 x5 v12 h))<|.mk (
 j0 x0 .any x2 .any x4 x5 v12 h)
def f206{β:Type}(N:Nat)(call:zh β)(a:List AV)(h:H)(k:K β):Option β :=
 zq 7 (.mk (
 f206_J0 k))<|.mk λj0=>
 qNil (nth a 0)<|.mk λv1=>
 zg 1 v1<|.mk λv2=>
 za v2 h<|.mk λv3=>
 qNil (nth a 0)<|.mk λv4=>
 zg 2 v4<|.mk λv5=>
 za v5 h<|.mk λv6=>
 zM 4 v3 v6<|.mk λv7=>
 zg 3 v7<|.mk λv8=>
 za v8 h<|.mk λv9=>
 qLenL v9<|.mk λv10=>
 (zaE 7 N<|.mk (
 f206_L11 call j0)) (nth a 0) .nils .nils (nth a 4) v10 (.int .i64 0) (nth a 18) h
theorem y206:zS I 206 T.s206 N call a h k=f206 N call a h k:=by kernel_rfl
def f207_J4{β:Type}(call:zh β)(k:K β)(x0 x1 x2 x3 x4 x5 x6 x7 x8 x9 x10 x11 x12 x13 x14 x15 x16 x17 x18 x19 x20 x21 x22 x23 x24 x25 x26 x27 x28 x29 x30 x31:AV)(h:H):Option β :=
 zek 2 1 x8 (.int .i64 0)<|.mk λv5=>
 za v5 h<|.mk λv6=>
 zek 2 1 x8 (.int .i64 1)<|.mk λv7=>
 za v7 h<|.mk λv8=>
 qCall call (.fn 226 []) [x1,v6,v8] h<|.mk λv9 h=>
 qExt 0 v9<|.mk λv10=>
 qExt 1 v9<|.mk λv11=>
 zp [(.int .i64 0),(.int .i64 0),.nils] [(0,1),(1,1)] [(.int .i64 1),v10]<|.mk λv12=>
 zr 3 x6 v12 h<|.mk λh=>
 zF 3 x6 h<|.mk λv13=>
 k (.tup [v13,(.int .i64 0)]) h
def f207_J21{β:Type}(l18:Cur β 32)(x0 x1 x2 x3 x4 x5 x6 x7 x8 x9 x10 x11 x12 x13 x14 x15 x16 x17 x18 x19 x20 x21 x22 x23 x24 x25 x26 x27 x28 x29 x30 x31:AV)(h:H):Option β :=
 qAdd x16 (.int .i64 1)<|.mk λv22=>
 l18 x0 x1 x2 x3 x4 x5 x6 x7 x8 x9 x10 x11 x12 x13 x14 x15 v22 x17 x18 x19 x20 x21 x22 x23 x24 x25 x26 x27 x28 x29 x30 x31 h
def f207_J32{β:Type}(j21:Cur β 32)(x0 x1 x2 x3 x4 x5 x6 x7 x8 x9 x10 x11 x12 x13 x14 x15 x16 x17 x18 x19 x20 x21 x22 x23 x24 x25 x26 x27 x28 x29 x30 x31:AV)(h:H):Option β :=
 zg 1 x11<|.mk λv33=>
 za v33 h<|.mk λv34=>
 zek 2 1 x8 x9<|.mk λv35=>
 zr 1 v35 v34 h<|.mk λh=>
 j21 x0 x1 x2 x3 x4 x5 x6 x7 x8 x9 x10 x11 x12 x13 x14 x15 x16 x17 x18 x19 x20 x21 x22 x23 x24 x25 x26 x27 x9 x29 x30 x31 h
def f207_J31{β:Type}(call:zh β)(k:K β)(j21:Cur β 32)(x0 x1 x2 x3 x4 x5 x6 x7 x8 x9 x10 x11 x12 x13 x14 x15 x16 x17 x18 x19 x20 x21 x22 x23 x24 x25 x26 x27 x28 x29 x30 x31:AV)(h:H):Option β :=
 zq 32 (.mk (
 f207_J32 j21))<|.mk λj32=>
 zg 0 x11<|.mk λv36=>
 za v36 h<|.mk λv37=>
 qNeq v37 (.int .i64 1)<|.mk λv38=>
 qIf v38 (.mk (
 qCall call (.fn 209 []) [] h<|.mk λv39 h=>
 qExt 0 v39<|.mk λv40=>
 qExt 1 v39<|.mk λv41=>
 zr 3 x6 v40 h<|.mk λh=>
 zF 3 x6 h<|.mk λv42=>
 k (.tup [v42,v41]) h))<|.mk (
 j32 x0 x1 x2 x3 x4 x5 x6 x7 x8 x9 x10 x11 x12 x13 x14 x15 x16 x17 x18 x19 x20 x21 x22 x23 x24 x25 x26 x27 x28 x29 x30 x31 h)
def f207_J20{β:Type}(call:zh β)(k:K β)(l18:Cur β 32)(x0 x1 x2 x3 x4 x5 x6 x7 x8 x9 x10 x11 x12 x13 x14 x15 x16 x17 x18 x19 x20 x21 x22 x23 x24 x25 x26 x27 x28 x29 x30 x31:AV)(h:H):Option β :=
 zq 32 (.mk (
 f207_J21 l18))<|.mk λj21=>
 zM 4 x14 x16<|.mk λv23=>
 zF 4 v23 h<|.mk λv24=>
 zao 0 [(.str []),.nils,(.int .i64 0),.nils] h<|.mk λv25 h=>
 zr 4 v25 v24 h<|.mk λh=>
 zF 4 v25 h<|.mk λv26=>
 qCall call (.fn 184 []) [x0,v26] h<|.mk λv27 h=>
 qExt 0 v27<|.mk λv28=>
 qExt 1 v27<|.mk λv29=>
 zao 0 [(.int .i64 0),(.int .i64 0),.nils] h<|.mk λv30 h=>
 zr 3 v30 v28 h<|.mk λh=>
 zq 32 (.mk (
 f207_J31 call k j21))<|.mk λj31=>
 qNeq v29 (.int .i64 0)<|.mk λv43=>
 qIf v43 (.mk (
 zp [(.int .i64 0),(.int .i64 0),.nils] [] []<|.mk λv44=>
 zr 3 x6 v44 h<|.mk λh=>
 zF 3 x6 h<|.mk λv45=>
 k (.tup [v45,v29]) h))<|.mk (
 j31 x0 x1 x2 x3 x4 x5 x6 x7 x8 x16 v25 v30 v29 x13 x14 x15 x16 x17 x16 v24 v27 v28 v29 x23 x24 x25 x26 x27 x28 x29 x30 x31 h)
def f207_L18{β:Type}(call:zh β)(k:K β)(j4:Cur β 32)(l18:Cur β 32)(x0 x1 x2 x3 x4 x5 x6 x7 x8 x9 x10 x11 x12 x13 x14 x15 x16 x17 x18 x19 x20 x21 x22 x23 x24 x25 x26 x27 x28 x29 x30 x31:AV)(h:H):Option β :=
 qLss x16 x15<|.mk λv19=>
 zq 32 (.mk (
 f207_J20 call k l18))<|.mk λj20=>
 qIf v19 (.mk (
 j20 x0 x1 .any .any .any .any x6 .any x8 .any .any .any .any .any x14 x15 x16 v19 .any .any .any .any .any .any .any .any .any .any .any .any .any .any h))<|.mk (
 j4 x0 x1 .any .any .any .any x6 .any x8 .any .any .any .any .any x14 x15 x16 v19 .any .any .any .any .any .any .any .any .any .any .any .any .any .any h)
def f207{β:Type}(N:Nat)(call:zh β)(a:List AV)(h:H)(k:K β):Option β :=
 qBox 0 (nth a 2) h<|.mk λv0 h=>
 qBox 0 (nth a 3) h<|.mk λv1 h=>
 zao 0 [(.int .i64 0),(.int .i64 0),.nils] h<|.mk λv2 h=>
 zao 0 [(.int .i64 0),(.int .i64 0)] h<|.mk λv3 h=>
 zq 32 (.mk (
 f207_J4 call k))<|.mk λj4=>
 zF 4 v0 h<|.mk λv14=>
 zF 4 v1 h<|.mk λv15=>
 zQ 0 [(.str []),.nils,(.int .i64 0),.nils,(.str []),.nils,(.int .i64 0),.nils] 2 [(0,4),(4,4)] [v14,v15] h<|.mk λv16 h=>
 qLenL v16<|.mk λv17=>
 (zaE 32 N<|.mk (
 f207_L18 call k j4)) (nth a 0) (nth a 1) (nth a 2) (nth a 3) v0 v1 v2 (.int .i64 0) v3 (nth a 11) (nth a 12) (nth a 13) (nth a 14) (nth a 15) v16 v17 (.int .i64 0) (nth a 22) (nth a 23) (nth a 25) (nth a 26) (nth a 30) (nth a 31) (nth a 34) (nth a 35) (nth a 39) (nth a 40) (nth a 41) (nth a 42) (nth a 47) (nth a 54) (nth a 55) h
theorem y207:zS I 207 T.s207 N call a h k=f207 N call a h k:=by kernel_rfl
def f208{β:Type}(N:Nat)(call:zh β)(a:List AV)(h:H)(k:K β):Option β :=
 zao 0 [(.str []),.nils,(.int .i64 0),.nils] h<|.mk λv0 h=>
 qNil (nth a 0)<|.mk λv1=>
 zg 1 v1<|.mk λv2=>
 za v2 h<|.mk λv3=>
 qNil (nth a 0)<|.mk λv4=>
 zg 1 v4<|.mk λv5=>
 za v5 h<|.mk λv6=>
 qNil (nth a 0)<|.mk λv7=>
 zg 2 v7<|.mk λv8=>
 za v8 h<|.mk λv9=>
 zM 4 v6 v9<|.mk λv10=>
 zg 3 v10<|.mk λv11=>
 za v11 h<|.mk λv12=>
 zM 1 v12 (nth a 1)<|.mk λv13=>
 za v13 h<|.mk λv14=>
 qNil (nth a 0)<|.mk λv15=>
 zg 3 v15<|.mk λv16=>
 za v16 h<|.mk λv17=>
 zQ 0 [.nils,.nils] 2 [(0,1),(1,1)] [v17,(nth a 2)] h<|.mk λv18 h=>
 za v13 h<|.mk λv19=>
 zad v19 v14<|.mk λ_=>
 za v11 h<|.mk λv20=>
 zad v20 v12<|.mk λ_=>
 za v8 h<|.mk λv21=>
 zad v21 v9<|.mk λ_=>
 za v5 h<|.mk λv22=>
 zad v22 v6<|.mk λ_=>
 za v2 h<|.mk λv23=>
 zad v23 v3<|.mk λ_=>
 qCall call (.fn 227 []) [v18] h<|.mk λv24 h=>
 za v13 h<|.mk λv25=>
 zad v25 v14<|.mk λ_=>
 za v11 h<|.mk λv26=>
 zad v26 v12<|.mk λ_=>
 za v8 h<|.mk λv27=>
 zad v27 v9<|.mk λ_=>
 za v5 h<|.mk λv28=>
 zad v28 v6<|.mk λ_=>
 za v2 h<|.mk λv29=>
 zad v29 v3<|.mk λ_=>
 zp [(.str []),.nils,(.int .i64 0),.nils] [(1,1),(2,1),(3,1)] [v3,v14,v24]<|.mk λv30=>
 zr 4 v0 v30 h<|.mk λh=>
 zF 4 v0 h<|.mk λv31=>
 k v31 h
theorem y208:zS I 208 T.s208 N call a h k=f208 N call a h k:=by kernel_rfl
def f209{β:Type}(N:Nat)(call:zh β)(a:List AV)(h:H)(k:K β):Option β :=
 zao 0 [(.int .i64 0),(.int .i64 0),.nils] h<|.mk λv0 h=>
 zp [(.int .i64 0),(.int .i64 0),.nils] [(0,1)] [(.int .i64 3)]<|.mk λv1=>
 zr 3 v0 v1 h<|.mk λh=>
 zF 3 v0 h<|.mk λv2=>
 k (.tup [v2,(.int .i64 0)]) h
theorem y209:zS I 209 T.s209 N call a h k=f209 N call a h k:=by kernel_rfl
def f210_J9{β:Type}(k:K β)(x0 x1 x2 x3 x4 x5 x6 x7 x8 x9 x10 x11 x12 x13 x14 x15 x16 x17:AV)(h:H):Option β :=
 zF 3 x6 h<|.mk λv10=>
 zr 3 x1 v10 h<|.mk λh=>
 zF 3 x1 h<|.mk λv11=>
 k (.tup [v11,(.int .i64 0)]) h
def f210_J16{β:Type}(l13:Cur β 18)(x0 x1 x2 x3 x4 x5 x6 x7 x8 x9 x10 x11 x12 x13 x14 x15 x16 x17:AV)(h:H):Option β :=
 qAdd x16 (.int .i64 1)<|.mk λv17=>
 l13 x0 x1 x2 x3 x4 x5 x6 x7 x8 x9 x10 x11 x12 x13 x14 x15 v17 x17 h
def f210_J15{β:Type}(call:zh β)(l13:Cur β 18)(x0 x1 x2 x3 x4 x5 x6 x7 x8 x9 x10 x11 x12 x13 x14 x15 x16 x17:AV)(h:H):Option β :=
 zq 18 (.mk (
 f210_J16 l13))<|.mk λj16=>
 zM 1 x14 x16<|.mk λv18=>
 za v18 h<|.mk λv19=>
 zg 2 x6<|.mk λv20=>
 za v20 h<|.mk λv21=>
 qCall call (.fn 204 []) [v19] h<|.mk λv22 h=>
 za v20 h<|.mk λv23=>
 zad v23 v21<|.mk λ_=>
 zQ 0 [(.str []),.nils,(.int .i64 0),.nils] 1 [(0,4)] [v22] h<|.mk λv24 h=>
 za v20 h<|.mk λv25=>
 zad v25 v21<|.mk λ_=>
 qApp 0 4 72 v21 v24 h<|.mk λv26 h=>
 zg 2 x6<|.mk λv27=>
 zr 1 v27 v26 h<|.mk λh=>
 j16 x0 x1 x2 x3 x4 x5 x6 v19 x8 x9 x10 x11 x12 x13 x14 x15 x16 x17 h
def f210_L13{β:Type}(call:zh β)(j9:Cur β 18)(l13:Cur β 18)(x0 x1 x2 x3 x4 x5 x6 x7 x8 x9 x10 x11 x12 x13 x14 x15 x16 x17:AV)(h:H):Option β :=
 qLss x16 x15<|.mk λv14=>
 zq 18 (.mk (
 f210_J15 call l13))<|.mk λj15=>
 qIf v14 (.mk (
 j15 .any x1 .any .any .any .any x6 .any .any .any .any .any .any .any x14 x15 x16 v14 h))<|.mk (
 j9 .any x1 .any .any .any .any x6 .any .any .any .any .any .any .any x14 x15 x16 v14 h)
def f210_J6{β:Type}(N:Nat)(call:zh β)(k:K β)(x0 x1 x2 x3 x4 x5 x6 x7 x8 x9 x10 x11 x12 x13 x14 x15 x16 x17:AV)(h:H):Option β :=
 zp [(.int .i64 0),(.int .i64 0),.nils] [(0,1),(1,1)] [x3,x4]<|.mk λv7=>
 zao 0 [(.int .i64 0),(.int .i64 0),.nils] h<|.mk λv8 h=>
 zr 3 v8 v7 h<|.mk λh=>
 zq 18 (.mk (
 f210_J9 k))<|.mk λj9=>
 qLenL x5<|.mk λv12=>
 (zaE 18 N<|.mk (
 f210_L13 call j9)) x0 x1 x2 x3 x4 x5 v8 x7 x8 x9 x10 x11 x12 v7 x5 v12 (.int .i64 0) x17 h
def f210{β:Type}(N:Nat)(call:zh β)(a:List AV)(h:H)(k:K β):Option β :=
 zao 0 [(.int .i64 0),(.int .i64 0),.nils] h<|.mk λv0 h=>
 qCall call (.fn 11 []) [(nth a 1)] h<|.mk λv1 h=>
 qExt 0 v1<|.mk λv2=>
 qExt 1 v1<|.mk λv3=>
 qExt 2 v1<|.mk λv4=>
 qExt 3 v1<|.mk λv5=>
 zq 18 (.mk (
 f210_J6 N call k))<|.mk λj6=>
 qEql v2 (.int .i64 0)<|.mk λv28=>
 qIf v28 (.mk (
 zp [(.int .i64 0),(.int .i64 0),.nils] [] []<|.mk λv29=>
 zr 3 v0 v29 h<|.mk λh=>
 zF 3 v0 h<|.mk λv30=>
 k (.tup [v30,(.int .i64 902)]) h))<|.mk (
 j6 (nth a 1) v0 (.int .i64 0) v2 v3 v4 (nth a 10) (nth a 12) v1 v2 v3 v4 v5 (nth a 25) (nth a 26) (nth a 27) (nth a 28) (nth a 29) h)
theorem y210:zS I 210 T.s210 N call a h k=f210 N call a h k:=by kernel_rfl
def f226_J1{β:Type}(k:K β)(x0 x1 x2 x3 x4 x5 x6:AV)(h:H):Option β :=
 qConv .i16 x5<|.mk λv2=>
 qConv .i64 v2<|.mk λv3=>
 k (.tup [v3,(.int .i64 0)]) h
def f226_J0{β:Type}(call:zh β)(k:K β)(x0 x1 x2 x3 x4 x5 x6:AV)(h:H):Option β :=
 zq 7 (.mk (
 f226_J1 k))<|.mk λj1=>
 qEql x0 (.int .i64 0)<|.mk λv4=>
 qIf v4 (.mk (
 qAdd x1 x2<|.mk λv5=>
 j1 x0 x1 x2 x3 x4 v5 x0 h))<|.mk (
 qEql x0 (.int .i64 1)<|.mk λv6=>
 qIf v6 (.mk (
 qSub x1 x2<|.mk λv7=>
 j1 x0 x1 x2 x3 x4 v7 x0 h))<|.mk (
 qEql x0 (.int .i64 2)<|.mk λv8=>
 qIf v8 (.mk (
 qMul x1 x2<|.mk λv9=>
 j1 x0 x1 x2 x3 x4 v9 x0 h))<|.mk (
 qEql x0 (.int .i64 3)<|.mk λv10=>
 qIf v10 (.mk (
 qEql x1 x2<|.mk λv11=>
 qCall call (.fn 230 []) [v11] h<|.mk λv12 h=>
 j1 x0 x1 x2 x3 x4 v12 x0 h))<|.mk (
 qEql x0 (.int .i64 4)<|.mk λv13=>
 qIf v13 (.mk (
 qLss x1 x2<|.mk λv14=>
 qCall call (.fn 230 []) [v14] h<|.mk λv15 h=>
 j1 x0 x1 x2 x3 x4 v15 x0 h))<|.mk (
 k (.tup [(.int .i64 0),(.int .i64 100)]) h)))))
def f226{β:Type}(N:Nat)(call:zh β)(a:List AV)(h:H)(k:K β):Option β :=
 zq 7 (.mk (
 f226_J0 call k))<|.mk λj0=>
 qCall call (.fn 28 []) [(nth a 1)] h<|.mk λv16 h=>
 qNot v16<|.mk λv17=>
 qOr v17 h (.mk λh k=>
 qCall call (.fn 28 []) [(nth a 2)] h<|.mk λv18 h=>
 qNot v18<|.mk λv19=>
 k v19 h)<|.mk λv20 h=>
 qIf v20 (.mk (
 k (.tup [(.int .i64 0),(.int .i64 100)]) h))<|.mk (
 j0 (nth a 0) (nth a 1) (nth a 2) (.int .i64 0) (.int .i64 0) (nth a 8) (nth a 17) h)
theorem y226:zS I 226 T.s226 N call a h k=f226 N call a h k:=by kernel_rfl
def f227_J2{β:Type}(k:K β)(x0 x1 x2 x3 x4 x5 x6 x7 x8 x9 x10 x11 x12 x13:AV)(h:H):Option β :=
 k x4 h
def f227_J7{β:Type}(l4:Cur β 14)(x0 x1 x2 x3 x4 x5 x6 x7 x8 x9 x10 x11 x12 x13:AV)(h:H):Option β :=
 qAdd x12 (.int .i64 1)<|.mk λv8=>
 l4 x0 x1 x2 x3 x4 x5 x6 x7 x8 x9 x10 x11 v8 x13 h
def f227_J6{β:Type}(l4:Cur β 14)(x0 x1 x2 x3 x4 x5 x6 x7 x8 x9 x10 x11 x12 x13:AV)(h:H):Option β :=
 zq 14 (.mk (
 f227_J7 l4))<|.mk λj7=>
 zM 1 x10 x12<|.mk λv9=>
 za v9 h<|.mk λv10=>
 qApp 0 4 72 x4 v10 h<|.mk λv11 h=>
 j7 x0 x1 x2 x3 v11 v10 x6 x7 x8 x9 x10 x11 x12 x13 h
def f227_L4{β:Type}(j2:Cur β 14)(l4:Cur β 14)(x0 x1 x2 x3 x4 x5 x6 x7 x8 x9 x10 x11 x12 x13:AV)(h:H):Option β :=
 qLss x12 x11<|.mk λv5=>
 zq 14 (.mk (
 f227_J6 l4))<|.mk λj6=>
 qIf v5 (.mk (
 j6 .any .any .any .any x4 .any .any .any .any .any x10 x11 x12 v5 h))<|.mk (
 j2 .any .any .any .any x4 .any .any .any .any .any x10 x11 x12 v5 h)
def f227_J0{β:Type}(N:Nat)(call:zh β)(k:K β)(x0 x1 x2 x3 x4 x5 x6 x7 x8 x9 x10 x11 x12 x13:AV)(h:H):Option β :=
 qCall call (.fn 231 []) [.nils,x2] h<|.mk λv1 h=>
 zq 14 (.mk (
 f227_J2 k))<|.mk λj2=>
 qLenL x0<|.mk λv3=>
 (zaE 14 N<|.mk (
 f227_L4 j2)) x0 x1 x2 x3 v1 x5 x6 x7 x8 x9 x0 v3 (.int .i64 0) x13 h
def f227_J16{β:Type}(l13:Cur β 14)(x0 x1 x2 x3 x4 x5 x6 x7 x8 x9 x10 x11 x12 x13:AV)(h:H):Option β :=
 qAdd x8 (.int .i64 1)<|.mk λv17=>
 l13 x0 x1 x2 x3 x4 x5 x6 x7 v17 x9 x10 x11 x12 x13 h
def f227_J15{β:Type}(l13:Cur β 14)(x0 x1 x2 x3 x4 x5 x6 x7 x8 x9 x10 x11 x12 x13:AV)(h:H):Option β :=
 zq 14 (.mk (
 f227_J16 l13))<|.mk λj16=>
 zM 1 x6 x8<|.mk λv18=>
 za v18 h<|.mk λv19=>
 qLenL v19<|.mk λv20=>
 qAdd x2 v20<|.mk λv21=>
 qLss v21 (.int .i64 0)<|.mk λv22=>
 qIf v22 (.mk (
 none))<|.mk (
 j16 x0 x1 v21 v19 x4 x5 x6 x7 x8 x9 x10 x11 x12 x13 h)
def f227_L13{β:Type}(j0:Cur β 14)(l13:Cur β 14)(x0 x1 x2 x3 x4 x5 x6 x7 x8 x9 x10 x11 x12 x13:AV)(h:H):Option β :=
 qLss x8 x7<|.mk λv14=>
 zq 14 (.mk (
 f227_J15 l13))<|.mk λj15=>
 qIf v14 (.mk (
 j15 x0 .any x2 .any .any .any x6 x7 x8 v14 .any .any .any .any h))<|.mk (
 j0 x0 .any x2 .any .any .any x6 x7 x8 v14 .any .any .any .any h)
def f227{β:Type}(N:Nat)(call:zh β)(a:List AV)(h:H)(k:K β):Option β :=
 zq 14 (.mk (
 f227_J0 N call k))<|.mk λj0=>
 qLenL (nth a 0)<|.mk λv12=>
 (zaE 14 N<|.mk (
 f227_L13 j0)) (nth a 0) .nils (.int .i64 0) (nth a 5) (nth a 6) (nth a 8) (nth a 0) v12 (.int .i64 0) (nth a 12) (nth a 25) (nth a 26) (nth a 27) (nth a 28) h
theorem y227:zS I 227 T.s227 N call a h k=f227 N call a h k:=by kernel_rfl
def f230_J0{β:Type}(k:K β)(x0 x1:AV)(h:H):Option β :=
 k (.int .i64 0) h
def f230{β:Type}(N:Nat)(call:zh β)(a:List AV)(h:H)(k:K β):Option β :=
 zq 2 (.mk (
 f230_J0 k))<|.mk λj0=>
 qIf (nth a 0) (.mk (
 k (.int .i64 1) h))<|.mk (
 j0 (nth a 0) (.int .i64 0) h)
theorem y230:zS I 230 T.s230 N call a h k=f230 N call a h k:=by kernel_rfl
def f231_J1{β:Type}(k:K β)(x0 x1 x2:AV)(h:H):Option β :=
 k x0 h
def f231_J0{β:Type}(k:K β)(x0 x1 x2:AV)(h:H):Option β :=
 zq 3 (.mk (
 f231_J1 k))<|.mk λj1=>
 qCapL x0<|.mk λv2=>
 qLenL x0<|.mk λv3=>
 qSub v2 v3<|.mk λv4=>
 qSub x1 v4<|.mk λv5=>
 qGtr v5 (.int .i64 0)<|.mk λv6=>
 qIf v6 (.mk (
 qCapL x0<|.mk λv7=>
 qSlL 4 false true false x0 [v7]<|.mk λv8=>
 qAppz 0 4 72 [(.str []),.nils,(.int .i64 0),.nils] v8 v5 h<|.mk λv9 h=>
 qLenL x0<|.mk λv10=>
 qSlL 4 false true false v9 [v10]<|.mk λv11=>
 j1 v11 v5 x2 h))<|.mk (
 j1 x0 v5 x2 h)
def f231{β:Type}(N:Nat)(call:zh β)(a:List AV)(h:H)(k:K β):Option β :=
 zq 3 (.mk (
 f231_J0 k))<|.mk λj0=>
 qLss (nth a 1) (.int .i64 0)<|.mk λv12=>
 qIf v12 (.mk (
 none))<|.mk (
 j0 (nth a 0) (nth a 1) .nils h)
theorem y231:zS I 231 T.s231 N call a h k=f231 N call a h k:=by kernel_rfl
def e184:Ent:=⟨184,T.s184,λ_ _=>f184,λ_=>y184⟩
def e204:Ent:=⟨204,T.s204,λ_ _=>f204,λ_=>y204⟩
def e205:Ent:=⟨205,T.s205,λ_ _=>f205,λ_=>y205⟩
def e206:Ent:=⟨206,T.s206,λ_ _=>f206,λ_=>y206⟩
def e207:Ent:=⟨207,T.s207,λ_ _=>f207,λ_=>y207⟩
def e208:Ent:=⟨208,T.s208,λ_ _=>f208,λ_=>y208⟩
def e209:Ent:=⟨209,T.s209,λ_ _=>f209,λ_=>y209⟩
def e210:Ent:=⟨210,T.s210,λ_ _=>f210,λ_=>y210⟩
def e226:Ent:=⟨226,T.s226,λ_ _=>f226,λ_=>y226⟩
def e227:Ent:=⟨227,T.s227,λ_ _=>f227,λ_=>y227⟩
def e230:Ent:=⟨230,T.s230,λ_ _=>f230,λ_=>y230⟩
def e231:Ent:=⟨231,T.s231,λ_ _=>f231,λ_=>y231⟩
structure GNM (t:ETree):Prop where
 g184:t.get 184=some e184
 g204:t.get 204=some e204
 g205:t.get 205=some e205
 g206:t.get 206=some e206
 g207:t.get 207=some e207
 g208:t.get 208=some e208
 g209:t.get 209=some e209
 g210:t.get 210=some e210
 g226:t.get 226=some e226
 g227:t.get 227=some e227
 g230:t.get 230=some e230
 g231:t.get 231=some e231
section
variable {β:Type} {t:ETree} {I:FI} (n:Nat) (a:List AV) (h:H) (k:K β)
theorem GNM.c184(T:GNM t):zd t I (n+1) (.fn 184 []) a h k=f184 n (zd t I n) a h k:=by rw[cRule T.g184];rfl
theorem GNM.c204(T:GNM t):zd t I (n+1) (.fn 204 []) a h k=f204 n (zd t I n) a h k:=by rw[cRule T.g204];rfl
theorem GNM.c205(T:GNM t):zd t I (n+1) (.fn 205 []) a h k=f205 n (zd t I n) a h k:=by rw[cRule T.g205];rfl
theorem GNM.c206(T:GNM t):zd t I (n+1) (.fn 206 []) a h k=f206 n (zd t I n) a h k:=by rw[cRule T.g206];rfl
theorem GNM.c207(T:GNM t):zd t I (n+1) (.fn 207 []) a h k=f207 n (zd t I n) a h k:=by rw[cRule T.g207];rfl
theorem GNM.c208(T:GNM t):zd t I (n+1) (.fn 208 []) a h k=f208 n (zd t I n) a h k:=by rw[cRule T.g208];rfl
theorem GNM.c209(T:GNM t):zd t I (n+1) (.fn 209 []) a h k=f209 n (zd t I n) a h k:=by rw[cRule T.g209];rfl
theorem GNM.c210(T:GNM t):zd t I (n+1) (.fn 210 []) a h k=f210 n (zd t I n) a h k:=by rw[cRule T.g210];rfl
theorem GNM.c226(T:GNM t):zd t I (n+1) (.fn 226 []) a h k=f226 n (zd t I n) a h k:=by rw[cRule T.g226];rfl
theorem GNM.c227(T:GNM t):zd t I (n+1) (.fn 227 []) a h k=f227 n (zd t I n) a h k:=by rw[cRule T.g227];rfl
theorem GNM.c230(T:GNM t):zd t I (n+1) (.fn 230 []) a h k=f230 n (zd t I n) a h k:=by rw[cRule T.g230];rfl
theorem GNM.c231(T:GNM t):zd t I (n+1) (.fn 231 []) a h k=f231 n (zd t I n) a h k:=by rw[cRule T.g231];rfl
theorem GNM.q226(T:GNM t):qCall (zd t I (n+1)) (.fn 226 []) a h (.mk k)=f226 n (zd t I n) a h k:=GNM.c226 n a h k T
theorem GNM.q230(T:GNM t):qCall (zd t I (n+1)) (.fn 230 []) a h (.mk k)=f230 n (zd t I n) a h k:=GNM.c230 n a h k T
end
end
end Am.F
end
section
namespace Am.F
open Go Am
structure Un (g h:H):Prop where
 n:g.n<=h.n
 get:∀i,i<g.n->(g.get i).cells≠none->h.get i=g.get i
theorem Un.refl(h:H):Un h h:=⟨Nat.le_refl _,λ_ _ _=>rfl⟩
theorem Un.ext{g h h':H}(u:Un g h)(e:Ext h h'):Un g h':=⟨by have:=u.n;have:=e.n;omega,λi p q=>by have:=u.n;rw[e.get i (by omega)];exact u.get i p q⟩
theorem Un.of{g h:H}(e:Ext g h):Un g h:=(Un.refl g).ext e
def zfh{α:Type}(C:H->List AV->α->Prop):Prop:=∀(g h:H) (cs:List AV) (x:α),C g cs x->Un g h->C h cs x
theorem LAt.un{α:Type}{es:Nat}{C:H->List AV->α->Prop}(hC:zfh C){g h:H}{v:AV}{xs:List α}(hs:LAt es C g v xs)(u:Un g h):LAt es C h v xs:=by
 rcases hs with hs|⟨b,o,m,gg,us,h1,h2,h3,h4,h5⟩
 ·exact .inl hs
 ·exact .inr ⟨b,o,m,gg,us,h1,Nat.lt_of_lt_of_le h2 u.n,by rw[u.get b h2 (by rw[h3];simp)];exact h3,h4,λj x hx=>hC _ _ _ _ (h5 j x hx) u⟩
theorem SlAt.un{g h:H}{v:AV}{cs:List AV}(hs:SlAt g v cs)(u:Un g h):SlAt h v cs:=by
 rcases hs with hs|⟨b,o,m,gg,us,h1,h2,h3,h4⟩
 ·exact .inl hs
 ·exact .inr ⟨b,o,m,gg,us,h1,Nat.lt_of_lt_of_le h2 u.n,by rw[u.get b h2 (by rw[h3];simp)];exact h3,h4⟩
theorem ExC.staysU:zfh ExC:=λ_ _ _ _ ⟨w,h1,h2⟩ u=>⟨w,h1,h2.un u⟩
theorem DfC.staysU:zfh DfC:=λ_ _ _ _ ⟨w,h1,h2⟩ u=>⟨w,h1,h2.un ExC.staysU u⟩
def RowC(_:H)(cs x:List AV):Prop:=cs=x/\x.length=4
theorem RowC.stays:zjM RowC:=λ_ _ _ _ h _=>h
theorem RowC.staysU:zfh RowC:=λ_ _ _ _ h _=>h
theorem LAt.rows{α:Type}{C:H->List AV->α->Prop}{h:H}{v:AV}{xs:List α}(hs:LAt 4 C h v xs):∃rows:List (List AV),LAt 4 RowC h v rows/\rows.length=xs.length/\∀(j:Nat) (r:List AV) (x:α),rows[j]?=some r->xs[j]?=some x->C h r x:=by
 rcases hs with⟨rfl,rfl⟩|⟨b,o,m,g,us,rfl,h2,h3,h4,h5⟩
 ·exact⟨[],.inl ⟨rfl,rfl⟩,rfl,λj r x hr=>by simp at hr⟩
 ·have hget:∀(j:Nat) (r:List AV),((List.range xs.length).map λj=>(us.drop (o+j*4)).take 4)[j]?=some r->j<xs.length/\r=(us.drop (o+j*4)).take 4:=by
   intro j r hr;rw[List.getElem?_map] at hr;rcases Nat.lt_or_ge j xs.length with hj|hj
   ·rw[List.getElem?_range hj] at hr;cases hr;exact⟨hj,rfl⟩
   ·rw[List.getElem?_eq_none (by rw[List.length_range];exact hj)] at hr;cases hr
  refine⟨(List.range xs.length).map λj=>(us.drop (o+j*4)).take 4,.inr ⟨b,o,m,g,us,by simp,h2,h3,by simpa using h4,λj r hr=>?_⟩,by simp,λj r x hr hx=>?_⟩
  ·obtain⟨hj,rfl⟩:=hget j r hr;refine⟨rfl,?_⟩;rw[List.length_take,List.length_drop];omega
  ·obtain⟨hj,rfl⟩:=hget j r hr;exact h5 j x hx
theorem zgB:∀(rows:List (List AV)) (W:List AV),W.length=rows.length*4->(∀(j:Nat) (r:List AV),rows[j]?=some r->(W.drop (j*4)).take 4=r)->W=rows.flatten
 | [],W,hl,_=>by
  have:W=[]:=List.eq_nil_of_length_eq_zero (by simpa using hl)
  rw[this];rfl
 | r::rows,W,hl,hr=>by
  have h0:=hr 0 r rfl;rw[Nat.zero_mul,List.drop_zero] at h0;have ih:=zgB rows (W.drop 4) (by rw[List.length_drop,hl,List.length_cons];omega) λj x hx=>by
   have:=hr (j+1) x hx
   rw[List.drop_drop];rw[show 4+j*4=(j+1)*4 by omega];exact this
  rw[List.flatten_cons,<- ih,<- h0,List.take_append_drop]
theorem LAt.src{β:Type}{h:H}{v:AV}{rows:List (List AV)}(hs:LAt 4 RowC h v rows)(c:Nat->List AV->Option β):fSrc 4 v h c=c rows.length rows.flatten:=by
 rcases hs with⟨rfl,rfl⟩|⟨b,o,m,g,us,rfl,h2,h3,h4,h5⟩
 ·rfl
 ·show (cells h b λcs=>cond (Nat.ble (Nat.add o (Nat.mul rows.length 4)) (lenF cs)) (c rows.length (zbn (Nat.mul rows.length 4) (zbS o cs))) none)=_;rw[zaA,h3,zbk,zu,zN,zT,ble_eq,decide_eq_true (by exact h4)];have:(us.drop o).take (rows.length*4)=rows.flatten:=by
   refine zgB _ _ (by rw[List.length_take,List.length_drop];omega) λj r hr=>?_
   have hj:=(List.getElem?_eq_some_iff.1 hr).1;have:=(h5 j r hr).1
   rw[<- this,List.drop_take,List.drop_drop,List.take_take,Nat.min_eq_left (by omega)]
  show c rows.length ((us.drop o).take (rows.length*4))=_;rw[this]
theorem zcI:∀(rows:List (List AV)),(∀r ∈ rows,r.length=4)->rows.flatten.length=rows.length*4
 | [],_=>rfl
 | r::rows,h=>by
  rw[List.flatten_cons,List.length_append,h r List.mem_cons_self,zcI rows λx hx=>h x (List.mem_cons_of_mem _ hx),List.length_cons];omega
theorem LAt.row4{h:H}{v:AV}{rows:List (List AV)}(hs:LAt 4 RowC h v rows):∀r ∈ rows,r.length=4:=by
 intro r hr;obtain⟨j,hj⟩:=List.mem_iff_getElem?.1 hr;rcases hs with⟨rfl,rfl⟩|⟨b,o,m,g,us,rfl,h2,h3,h4,h5⟩
 ·simp at hj
 ·exact (h5 j r hj).2
def zcZ(h h':H)(w:AV)(rows:List (List AV)):Prop:=(w = .nils/\rows=[])\/∃b N g,w = .sl b 0 rows.length N g/\h.n<=b/\b<h'.n/\h'.get b = .own 0 rows.flatten
theorem zcZ.sc{h h':H}{w:AV}{rows:List (List AV)}(hn:zcZ h h' w rows):w.sc=true:=by
 rcases hn with⟨rfl,_⟩|⟨b,N,g,rfl,_⟩<;>rfl
theorem zgK:∀(rows:List (List AV)) (j:Nat) (r:List AV),(∀x ∈ rows,x.length=4)->rows[j]?=some r->(rows.flatten.drop (j*4)).take 4=r
 | [],j,r,_,h=>by simp at h
 | x::rows,0,r,h4,h=>by
  cases h;rw[Nat.zero_mul,List.drop_zero,List.flatten_cons,<- h4 x List.mem_cons_self,List.take_left]
 | x::rows,j+1,r,h4,h=>by
  have:=zgK rows j r (λy hy=>h4 y (List.mem_cons_of_mem _ hy)) h
  rw[List.flatten_cons,show (j+1)*4=x.length+j*4 by rw[h4 x List.mem_cons_self];omega,<- List.drop_drop,List.drop_left];exact this
theorem zcZ.lat{α:Type}{C:H->List AV->α->Prop}{h h' g:H}{w:AV}{rows:List (List AV)}{xs:List α}(hn:zcZ h h' w rows)(h4:∀r ∈ rows,r.length=4)(hl:rows.length=xs.length)(hg:h'.n<=g.n)(ha:∀i,h.n<=i->i<h'.n->g.get i=h'.get i)
  (hc:∀(j:Nat) (r:List AV) (x:α),rows[j]?=some r->xs[j]?=some x->C g r x):LAt 4 C g w xs:=by
 rcases hn with⟨rfl,rfl⟩|⟨b,N,gg,rfl,h1,h2,h3⟩
 ·exact .inl ⟨rfl,List.eq_nil_of_length_eq_zero hl.symm⟩
 ·refine .inr ⟨b,0,N,gg,rows.flatten,by rw[hl],by omega,by rw[ha b h1 h2,h3];rfl,by rw[zcI _ h4];omega,λj x hx=>?_⟩;have hj:=(List.getElem?_eq_some_iff.1 hx).1;have hr:rows[j]?=some rows[j]:=List.getElem?_eq_getElem (by omega);rw[Nat.zero_add,zgK rows j _ h4 hr];exact hc j _ x hr hx
end Am.F
end
section
namespace Am.F
open Go Am
theorem zcr{β:Type}(n N:Nat)(F:Cur β n->Cur β n):zaE n (N+1) (.mk F)=F (zaE n N (.mk F)):=rfl
def Fill(h h':H)(v:AV)(N:Nat)(rows:List (List AV)):Prop:=(v = .nils/\rows=[]/\N=0)\/∃cs,v = .sl h.n 0 rows.length N (some 4)/\rows.length<=N/\0<N/\h.n<h'.n/\h'.get h.n = .own 0 cs/\cs.length=N*4/\cs.take (rows.length*4)=rows.flatten
theorem ze3:∀(cs new:List AV) (o:Nat),o+new.length<=cs.length->(zac cs o new).take (o+new.length)=cs.take o++new/\(zac cs o new).length=cs.length
 | cs,[],o,h=>by simp[zac]
 | cs,x::new,o,h=>by
  rw[List.length_cons] at h;have h1:o<cs.length:=by omega
  obtain⟨a,b⟩:=ze3 (cs.set o x) new (o+1) (by rw[List.length_set];omega);rw[List.length_set] at b;rw[ze4];refine⟨?_,b⟩;rw[List.length_cons,show o+(new.length+1)=o+1+new.length by omega,a];have:(cs.set o x).take (o+1)=cs.take o++[x]:=by
   rw[List.take_add_one,List.getElem?_set_self h1,List.take_set_of_le (Nat.le_refl o)];rfl
  rw[this];simp
theorem Fill.app{β:Type}{h h1:H}{v x:AV}{N:Nat}{r1 r2:List (List AV)}{k:K β}{R:Option β}(hf:Fill h h1 v N r1)(hx:LAt 4 RowC h1 x r2)(hN:r1.length+r2.length<=N)(h4:∀r ∈ r1,r.length=4)
  (H1:∀v' h2,Fill h h2 v' N (r1++r2)->h2.n=h1.n->(∀i,i<h1.n->i≠h.n->h2.get i=h1.get i)->k v' h2=R):qApp 0 4 72 v x h1 (.mk k)=R:=by
 show fApp 0 4 72 v x h1 k=R;unfold fApp;rw[hx.src];have h4':=hx.row4;rcases hf with⟨rfl,rfl,rfl⟩|⟨cs,rfl,f1,f0,f2,f3,f4,f5⟩
 ·have hr2:r2=[]:=List.eq_nil_of_length_eq_zero (by simpa using hN);subst hr2;exact H1 .nils h1 (.inl ⟨rfl,rfl,rfl⟩) rfl λ_ _ _=>rfl
 ·by_cases h0:r2.length=0
  ·have hr2:r2=[]:=List.eq_nil_of_length_eq_zero h0;subst hr2;simp (disch:=omega) only [zcT,aSl,zP,ble_eq,beq_eq,zaT,zba,Nat.add_eq,List.length_nil,Nat.add_zero];exact H1 _ h1 (.inr ⟨cs,by rw[List.append_nil],by rw[List.append_nil];exact f1,f0,f2,f3,f4,by rw[List.append_nil];exact f5⟩) rfl λ_ _ _=>rfl
  ·have hfl:=zcI r2 h4';obtain⟨p1,p2⟩:=ze3 cs r2.flatten (r1.length*4) (by omega);simp (disch:=omega) only [zcT,aSl,zP,ble_eq,beq_eq,zaT,zba,Nat.add_eq,Nat.mul_eq,Nat.zero_add,zel,f3,zdb,zbk,zu,zbd];refine H1 _ _ (.inr ⟨zac cs (r1.length*4) r2.flatten,by rw[List.length_append],by rw[List.length_append];exact hN,f0,by rw[H.n_set];exact f2,zn rfl,by rw[p2,f4],?_⟩) (by rw[H.n_set]) λi _ hi=>ze (by omega)
   rw[List.length_append,Nat.add_mul,<- hfl,p1,f5,List.flatten_append]
theorem Fill.new{h h':H}{v:AV}{rows:List (List AV)}(hf:Fill h h' v rows.length rows):zcZ h h' v rows:=by
 rcases hf with⟨rfl,h1,_⟩|⟨cs,rfl,f1,f0,f2,f3,f4,f5⟩
 ·exact .inl ⟨rfl,h1⟩
 ·refine .inr ⟨h.n,rows.length,some 4,rfl,Nat.le_refl _,f2,?_⟩;rw[f3,<- f5,<- f4,List.take_length]
section
variable {β:Type} {t:ETree}
theorem GNM.w231(TN:GNM t)(n:Nat)(N:Nat)(hN:N<=1000)(h:H):Sp (β:=β) (zd t stdI (n+1) (.fn 231 []) [.nils,.int .i64 (N:Int)] h) λu h'=>Ext h h'/\h'.n<=h.n+1/\Fill h h' u N []:=by
 intro k R hk;have hroom:room=68719476736:=rfl;rw[TN.c231];unfold f231
 by_cases c:0<N
 ·have hz:∀(hh:H) (kk:K β),qAppz 0 4 72 [.str [],.nils,.int .i64 0,.nils] .nils (.int .i64 (N:Int)) hh (.mk kk)=kk (.sl hh.n 0 N N (some 4)) (hh.push (.own 0 (rep N [.str [],.nils,.int .i64 0,.nils]))):=by
   intro hh kk;have hn:∀c:Nat->Option β,aNat (.int .i64 (N:Int)) c=c N:=λc=>by show frc N c=c N;rw[zP]
   show (aNat (.int .i64 (N:Int)) λn=>cond (Nat.ble (Nat.succ n) room) (cond (Nat.ble 72 1024) (zcT 0 4 72 .nils n (rep n _) hh kk) none) none)=_;rw[hn];simp (disch:=omega) only [zcT,aSl,zP,ble_eq,beq_eq,zaT,zba,zdJ,Nat.succ_eq_add_one]
  have hs:∀(b:Nat) (kk:VK β),qSlL 4 false true false (.sl b 0 N N (some 4)) [.int .i64 0] (.mk kk)=kk (.sl b 0 0 N (some 4)):=λb kk=>pSlL_hi (.inr rfl) (by omega) (by omega) kk
  have hs0:∀(kk:VK β),qSlL 4 false true false .nils [.int .i64 0] (.mk kk)=kk .nils:=λkk=>rfl
  have c':(0:Int)<N-(0-0):=by omega
  simp (disch:=first|omega|simp only[zD]<;>omega|assumption) only[↓zR,↓zRM,zR,zRM,reduceAdd,reduceMul,reduceToNat,↓f231_J1,↓f231_J0,eq_true c',hs0,hs,hz,Int.sub_self,Int.sub_zero,eq_true (show (0:Int)<(N:Int) by omega),eq_false (show ¬ (N:Int)<0 by omega)];refine hk _ _ ⟨(Ext.refl h).push _,by rw[H.n_push];omega,.inr ⟨_,rfl,Nat.zero_le _,c,by rw[H.n_push];omega,zf rfl,by rw[zbX];rfl,rfl⟩⟩
 ·have hN0:N=0:=by omega
  subst hN0;simp (disch:=first|omega|simp only[zD]<;>omega|assumption) only[↓zR,↓zRM,zR,zRM,reduceAdd,reduceMul,reduceToNat,↓f231_J1,↓f231_J0,Int.sub_self,Int.sub_zero,Int.lt_irrefl,Int.natCast_zero,eq_false (show ¬ (0:Int)<(0:Int) by omega)];exact hk _ _ ⟨Ext.refl h,by omega,.inl ⟨rfl,rfl,rfl⟩⟩
theorem GNM.w227(TN:GNM t)(n:Nat)(hn:8<=n){h:H}{a tv mv:AV}{r1 r2:List (List AV)}(ha:SlAt h a [tv,mv])(h1:LAt 4 RowC h tv r1)(h2:LAt 4 RowC h mv r2)(hs:r1.length+r2.length<=1000) :
  Sp (β:=β) (zd t stdI n (.fn 227 []) [a] h) λu h'=>Ext h h'/\zcZ h h' u (r1++r2):=by
 intro k R hk;obtain⟨m,rfl⟩:∃m,n=m+4:=⟨n-4,by omega⟩
 have la:∀kc:VK β,qLenL a (.mk kc)=kc (.int .i64 2):=λkc=>by rw[ha.len];rfl
 have l1:=h1.len (β:=β);have l2:=h2.len (β:=β);have d0:∀(hh:H) (e:Ext h hh) (kc:VK β),zM 1 a (.int .i64 0) (.mk λp=>za p hh (.mk kc))=kc tv:=λhh e kc=>(ha.ext e).load (i:=0) (kd:=.i64) (by omega) (by simp) kc
 have d1:∀(hh:H) (e:Ext h hh) (kc:VK β),zM 1 a (.int .i64 1) (.mk λp=>za p hh (.mk kc))=kc mv:=λhh e kc=>(ha.ext e).load (i:=1) (kd:=.i64) (by omega) (by simp) kc
 have d00:=d0 h (Ext.refl h);have d10:=d1 h (Ext.refl h);have ec:((r1.length:Int)+(r2.length:Int))=((r1.length+r2.length:Nat):Int):=by omega
 rw[TN.c227];unfold f227;simp (disch:=first|omega|simp only[zD]<;>omega|assumption) only[↓zR,↓zRM,zR,zRM,reduceAdd,reduceMul,reduceToNat,↓f227_J2,↓f227_J7,↓f227_J6,↓f227_L4,↓f227_J0,↓f227_J16,↓f227_J15,↓f227_L13,zcr,la,l1,l2,d00,d10,Int.zero_add,Int.reduceLT,Int.reduceAdd,ec];refine TN.w231 (m+2) (r1.length+r2.length) hs h _ _ ?_;intro u h3 ⟨e1,e1n,e2⟩;have d03:=d0 h3 e1;simp (disch:=first|omega|simp only[zD]<;>omega|assumption) only[↓zR,↓zRM,zR,zRM,reduceAdd,reduceMul,reduceToNat,↓f227_J2,↓f227_J7,↓f227_J6,↓f227_L4,↓f227_J0,↓f227_J16,↓f227_J15,↓f227_L13,la,zcr,d03,Int.zero_add,Int.reduceLT,Int.reduceAdd];refine e2.app (h1.ext RowC.stays e1) (by simp) (by simp) ?_;intro v' h4 f1 f2 f3;have e4:∀i,i<h.n->h4.get i=h.get i:=λi hi=>by rw[f3 i (by have:=e1.n;omega) (by omega),e1.get i hi]
 have x4:Ext h h4:=⟨by have:=e1.n;omega,e4⟩
 have d14:=d1 h4 x4;rw[List.nil_append] at f1;simp (disch:=first|omega|simp only[zD]<;>omega|assumption) only[↓zR,↓zRM,zR,zRM,reduceAdd,reduceMul,reduceToNat,↓f227_J2,↓f227_J7,↓f227_J6,↓f227_L4,↓f227_J0,↓f227_J16,↓f227_J15,↓f227_L13,la,zcr,d14,Int.zero_add,Int.reduceLT,Int.reduceAdd];refine f1.app (h2.ext RowC.stays x4) (by omega) h1.row4 ?_;intro v'' h5 f4 f5 f6;simp (disch:=first|omega|simp only[zD]<;>omega|assumption) only[↓zR,↓zRM,zR,zRM,reduceAdd,reduceMul,reduceToNat,↓f227_J2,↓f227_J7,↓f227_J6,↓f227_L4,↓f227_J0,↓f227_J16,↓f227_J15,↓f227_L13,la,zcr,Int.zero_add,Int.reduceLT,Int.reduceAdd];refine hk _ _ ⟨⟨by have:=x4.n;omega,λi hi=>by rw[f6 i (by have:=x4.n;omega) (by omega),e4 i hi]⟩,?_⟩;rw[<- List.length_append] at f4;exact f4.new
end
end Am.F
end
section
namespace Am.F
open Go Am
inductive Thg where
 | term (s:List UInt8)
 | part (d a:Nat) (env:List Thg)
inductive TPC (p:List Df) (h:H):List AV->Thg->Prop
 | term (s:List UInt8):TPC p h [.str s,.nils,.int .i64 0,.nils] (.term s)
 | part {d a:Nat} {df:Df} {bv tv:AV} {env:List Thg} (hd:p[d]?=some df) (hb:LAt 4 ExC h bv df.body) (hnb:bv ≠ .nils) (rows:List (List AV)) (hr:LAt 4 RowC h tv rows) (hl:rows.length=env.length)
   (he:∀(j:Nat) (r:List AV) (x:Thg),rows[j]?=some r->env[j]?=some x->TPC p h r x):TPC p h [.str [],bv,.int .i64 (a:Int),tv] (.part d a env)
theorem TPC.un{p:List Df}{g h:H}(u:Un g h){cs:List AV}{x:Thg}(ht:TPC p g cs x):TPC p h cs x:=by
 induction ht with
 | term s=>exact .term s
 | part hd hb hnb rows hr hl he ih=>exact .part hd (hb.un ExC.staysU u) hnb rows (hr.un RowC.staysU u) hl ih
theorem TPC.staysU(p:List Df):zfh (TPC p):=λ_ _ _ _ h u=>h.un u
theorem TPC.stays(p:List Df):zjM (TPC p):=λ_ _ _ _ h e=>h.un (Un.of e)
theorem TPC.len{p:List Df}{h:H}{cs:List AV}{x:Thg}(ht:TPC p h cs x):cs.length=4:=by cases ht<;>rfl
theorem zbx{β:Type}(b o:Nat)(k:VK β):qNil (.ptr b o) (.mk k)=k (.ptr b o):=(zaW b o k).trans (Eq.refl _)
theorem zbH{β:Type}(x:Int)(k:VK β):zad (.int .i64 x) (.int .i64 x) (.mk k)=k (.int .i64 x):=by
 show cond (AV.beq _ _) (k _) none=_;have:AV.beq (.int .i64 x) (.int .i64 x)=true:=by simp[AV.beq]
 rw[this];rfl
theorem LAt.chk{β α:Type}{es:Nat}{C:H->List AV->α->Prop}{h:H}{v:AV}{xs:List α}(hs:LAt es C h v xs)(k:VK β):zad v v (.mk k)=k v:=by
 show cond (AV.beq v v) (k v) none=_;rcases hs with⟨rfl,_⟩|⟨b,o,m,g,us,rfl,_⟩
 ·rfl
 ·have:AV.beq (.sl b o xs.length m g) (.sl b o xs.length m g)=true:=by simp[AV.beq]
  rw[this];rfl
theorem SlAt.chk{β:Type}{h:H}{v:AV}{cs:List AV}(hs:SlAt h v cs)(k:VK β):zad v v (.mk k)=k v:=by
 show cond (AV.beq v v) (k v) none=_;rcases hs with⟨rfl,_⟩|⟨b,o,m,g,us,rfl,_⟩
 ·rfl
 ·have:AV.beq (.sl b o cs.length m g) (.sl b o cs.length m g)=true:=by simp[AV.beq]
  rw[this];rfl
theorem SlAt.ptr{β:Type}{h:H}{v:AV}{cs:List AV}(hs:SlAt h v cs){j:Nat}{x:AV}(hx:cs[j]?=some x):∃b o us,(∀k:VK β,zM 1 v (.int .i64 (j:Int)) (.mk k)=k (.ptr b o))/\b<h.n/\(h.get b).cells=some us/\us[o]?=some x:=by
 have hj:=(List.getElem?_eq_some_iff.1 hx).1;rcases hs with⟨_,rfl⟩|⟨b,o,m,g,us,rfl,h2,h3,h4,h5⟩
 ·simp at hx
 ·refine⟨b,o+j,us,λk=>by rw[zej (by omega) (by omega),Int.toNat_natCast,Nat.mul_one],h2,h3,?_⟩;rw[<- h4,List.getElem?_take,if_pos hj,List.getElem?_drop] at hx;exact hx
section
variable {β:Type} {t:ETree}
def Made(g h h':H)(P:H->Prop):Prop:=∀g',Un g g'->h'.n<=g'.n->(∀i,h.n<=i->i<h'.n->g'.get i=h'.get i)->P g'
theorem GNM.w208(TN:GNM t)(n:Nat)(hn:10<=n){g h:H}(hg:Un g h){xb xo:Nat}{cs:List AV}(hx:InAt 4 h xb xo cs){p:List Df}{d a:Nat}{env:List Thg}(ht:TPC p g cs (.part d a env)){df:Df}(hd:p[d]?=some df){e:Ex}(he:df.body[a]?=some e)
  {k:Nat} {kid:Int} (hk:e.kids[k]?=some kid) (hk0:0<=kid) {mv:AV} {more:List Thg} (hm:LAt 4 (TPC p) g mv more) (hs:env.length+more.length<=1000) :
  Sp (β:=β) (zd t stdI n (.fn 208 []) [.ptr xb xo,.int .i64 (k:Int),mv] h) λu h'=>Ext h h'/\∃cs',u = .agg cs'/\cs'.length=4/\Made g h h' λg'=>TPC p g' cs' (.part d kid.toNat (env++more)):=by
 intro kk R hkk;obtain⟨m,rfl⟩:∃m,n=m+1:=⟨n-1,by omega⟩
 cases ht with
 | part hd' hb hnb rows hr hl hen=>
  rename_i df' bv tv;rw[hd] at hd';cases hd';obtain⟨us,b1,b2,b3,b4⟩:=hx.get;have g1:=b4 1 _ rfl;have g2:=b4 2 _ rfl;have g3:=b4 3 _ rfl
  have hxb:=hx.1;have hbh:=hb.un ExC.staysU hg;have hrh:=hr.un RowC.staysU hg;obtain⟨eb,eo,ecs,q1,q2,w,rfl,q3⟩:=hbh.at (β:=β) he;have heb:=q2.1;obtain⟨ue,t1,t2,t3,t4⟩:=q2.get;have u3:=t4 3 _ rfl;have hki:(ints e.kids)[k]?=some (.int .i64 kid):=by simp[ints,hk]
  obtain⟨kb,ko,uk,r1,r2,r3,r4⟩:=q3.ptr (β:=β) hki;obtain⟨mrows,m1,m2,m3⟩:=hm.rows;have m1h:=m1.un RowC.staysU hg;have tsc:=hr.sc;have msc:=hm.sc;have hb2:∀(x y:AV) (hx:x.sc=true) (hy:y.sc=true) (hh:H) (kc:K β),zQ 0 [.nils,.nils] 2 [(0,1),(1,1)] [x,y] hh (.mk kc)=kc (.sl hh.n 0 2 2 none) (hh.push (.own 0 [x,y])):=λx y hx hy hh kc=>by
   refine fBslice_n (λkc'=>?_) hh kc;rw[zc8 _ _ _ _ hx _ (by simp),zc8 _ _ _ _ hy _ (by simp),ze6];rfl
  have hb2':=λ(hh:H) (kc:K β)=>hb2 tv mv tsc msc hh kc
  have c1:=hb.chk (β:=β);have cw:=q3.chk (β:=β);have bsc:=hb.sc;have ea:Ext h ((h.push (.own 0 [.str [],.nils,.int .i64 0,.nils])).push (.own 0 [tv,mv])):=((Ext.refl h).push _).push _;have sa:SlAt ((h.push (.own 0 [.str [],.nils,.int .i64 0,.nils])).push (.own 0 [tv,mv])) (.sl (h.n+1) 0 2 2 none) [tv,mv] :=
   .inr ⟨h.n+1,0,2,none,[tv,mv],rfl,by rw[H.n_push,H.n_push];omega,by rw[zf (by rw[H.n_push])];rfl,rfl,by simp⟩
  have bu:∀(w':AV) (_:w'.sc=true) (kc:VK β),zp [.str [],.nils,.int .i64 0,.nils] [(1,1),(2,1),(3,1)] [bv,.int .i64 kid,w'] (.mk kc)=kc (.agg [.str [],bv,.int .i64 kid,w']):=λw' hw' kc=>by
   rw[zaY _ _ _ _ bsc _ (by simp),zbc _ _ _ _ _ _ (by simp),zaY _ _ _ _ hw' _ (by simp),zbJ];rfl
  rw[TN.c208];unfold f208;simp (disch:=first|omega|simp only[zD]<;>omega|assumption) only[↓zR,↓zRM,zR,zRM,reduceAdd,reduceMul,reduceToNat,zbx,b1,g1,g2,g3,q1,t1,u3,r1,r3,r4,↓hb2',zbH,c1,cw];refine TN.w227 m (by omega) sa (hrh.ext RowC.stays ea) (m1h.ext RowC.stays ea) (by omega) _ _ ?_;intro u h3 ⟨e1,e2⟩;have ee:=ea.trans e1;have b1':(h3.get xb).cells=some us:=by rw[ee.get _ hxb];exact b1
  have t1':(h3.get eb).cells=some ue:=by rw[ee.get _ heb];exact t1
  have r3':(h3.get kb).cells=some uk:=by rw[ee.get _ r2];exact r3
  have usc:=e2.sc;have bu':=bu u usc;have n3:h.n+2<=h3.n:=by have:=e1.n;rw[H.n_push,H.n_push] at this;omega
  have ow:zG (h3.get h.n)=some (0,[.str [],.nils,.int .i64 0,.nils]):=by
   rw[e1.get _ (by rw[H.n_push,H.n_push];omega),zc (by rw[H.n_push];omega),zf rfl];rfl
  simp (disch:=first|omega|simp only[zD]<;>omega|assumption) only[↓zR,↓zRM,zR,zRM,reduceAdd,reduceMul,reduceToNat,zbx,b1',g1,g2,g3,q1,t1',u3,r1,r3',r4,zbH,c1,cw,↓bu',ow];refine hkk _ _ ⟨ee.set (Nat.le_refl _) _,_,rfl,rfl,?_⟩;intro g' x1 x2 x3;rw[H.n_set] at x2;have ag:∀i,h.n<i->i<h3.n->g'.get i=h3.get i:=λi p q=>by rw[x3 i (by omega) (by rw[H.n_set];exact q),ze (by omega)]
  have h4r:∀r ∈ rows++mrows,r.length=4:=λr hr'=>by
   rcases List.mem_append.1 hr' with hr'|hr'
   ·exact hr.row4 r hr'
   ·exact m1.row4 r hr'
  have hrl:(rows++mrows).length=(env++more).length:=by rw[List.length_append,List.length_append,hl,m2]
  have hel:∀(j:Nat) (r:List AV) (x:Thg),(rows++mrows)[j]?=some r->(env++more)[j]?=some x->TPC p g' r x:=by
   intro j r x hr' hx';rcases Nat.lt_or_ge j rows.length with hj|hj
   ·rw[List.getElem?_append_left hj] at hr';rw[List.getElem?_append_left (by omega)] at hx';exact (hen j r x hr' hx').un x1
   ·rw[List.getElem?_append_right hj] at hr';rw[List.getElem?_append_right (by omega),<- hl] at hx';exact (m3 _ r x hr' hx').un x1
  have hkt:kid=((kid.toNat:Nat):Int):=by omega
  rw[hkt];obtain⟨rr,v1,v2,v3⟩:=(e2.lat (C:=TPC p) (g:=g') h4r hrl x2 (λi p q=>ag i (by rw[H.n_push,H.n_push] at p;omega) q) hel).rows;exact .part hd (hb.un ExC.staysU x1) hnb rr v1 v2 v3
end
end Am.F
end
section
namespace Am.F
open Go Am
section
variable {β:Type} {t:ETree}
theorem thRow(u v w z:AV)(hh:H)(kk:K β):zQ 0 [.str [],.nils,.int .i64 0,.nils] 1 [(0,4)] [.agg [u,v,w,z]] hh (.mk kk)=kk (.sl hh.n 0 1 1 none) (hh.push (.own 0 [u,v,w,z])):=fBslice_n (λ_=>rfl) hh kk
theorem thRow'{cs:List AV}(h4:cs.length=4)(hh:H)(kk:K β):zQ 0 [.str [],.nils,.int .i64 0,.nils] 1 [(0,4)] [.agg cs] hh (.mk kk)=kk (.sl hh.n 0 1 1 none) (hh.push (.own 0 cs)):=by
 match cs,h4 with
 | [u,v,w,z],_=>exact thRow u v w z hh kk
def zaS(d:Nat)(env:List Thg)(ks:List Int):List Thg:=ks.map λk=>.part d k.toNat env
theorem GNM.w206(TN:GNM t)(n:Nat){g h:H}(hg:Un g h){xb xo:Nat}{cs:List AV}(hx:InAt 4 h xb xo cs){p:List Df}{d a:Nat}{env:List Thg}(ht:TPC p g cs (.part d a env)){df:Df}(hd:p[d]?=some df){e:Ex}(he:df.body[a]?=some e)
  (hk0:∀x ∈ e.kids,0<=x) (hs:env.length<=1000) (hkl:e.kids.length<=3) (hn:20<=n) :
  Sp (β:=β) (zd t stdI n (.fn 206 []) [.ptr xb xo] h) λu h'=>Ext h h'/\u.sc=true/\Made g h h' λg'=>LAt 4 (TPC p) g' u (zaS d env e.kids):=by
 intro kk R hkk;obtain⟨m,rfl⟩:∃m,n=m+1:=⟨n-1,by omega⟩
 have hroom:room=68719476736:=rfl;have ht0:=ht;cases ht with
 | part hd' hb hnb rows hr hl hen=>
  rename_i df' bv tv;rw[hd] at hd';cases hd';obtain⟨us,b1,b2,b3,b4⟩:=hx.get;have g1:=b4 1 _ rfl;have g2:=b4 2 _ rfl
  have hxb:=hx.1;have hbh:=hb.un ExC.staysU hg;obtain⟨eb,eo,ecs,q1,q2,w,rfl,q3⟩:=hbh.at (β:=β) he;obtain⟨ue,t1,t2,t3,t4⟩:=q2.get;have u3:=t4 3 _ rfl;have lw:∀kc:VK β,qLenL w (.mk kc)=kc (.int .i64 (e.kids.length:Int)):=λkc=>by rw[q3.len,zaq]
  rw[TN.c206];unfold f206;simp (disch:=first|omega|simp only[zD]<;>omega|assumption) only[↓zR,↓zRM,zR,zRM,reduceAdd,reduceMul,reduceToNat,↓f206_J0,↓f206_J14,↓f206_J13,↓f206_L11,zbx,b1,g1,g2,q1,t1,u3,lw];refine zal 7 m _ _ (λi x0 x1 x2 x3 x4 x5 x6 h'=>Ext h h'/\x0 = .ptr xb xo/\x4 = .int .i64 (e.kids.length:Int)/\∃(j lo hi:Nat) (cs':List AV),x5 = .int .i64 (j:Int)/\j+i=e.kids.length/\h.n<=lo/\lo<=hi/\hi<=h'.n/\zat h' lo hi 4 x2 cs'/\cs'.length=j*4 /\
   ∀q kid,q<j->e.kids[q]?=some kid->∃r a b,(cs'.drop (q*4)).take 4=r/\b<=h'.n/\(b<=lo\/hi<=a)/\h.n<=a/\∀g',Un g g'->b<=g'.n->(∀i,a<=i->i<b->g'.get i=h'.get i)->TPC p g' r (.part d kid.toNat env)) e.kids.length (by omega) ?_ _ _ _ _ _ _ _ _
   ⟨Ext.refl _,rfl,rfl,0,h.n,h.n,[],rfl,by omega,Nat.le_refl _,Nat.le_refl _,Nat.le_refl _,zat.nil _ _ _ _,rfl,λq kid hq=>absurd hq (by omega)⟩
  intro l i ih x0 x1 x2 x3 x4 x5 x6 h' ⟨e1,p0,p1,j,lo,hi,cs',p2,e2,e3,e4,e5,e6,e7,e8⟩;subst p0 p1 p2;have hn1:=e1.n;cases i with
  | zero=>
   have hj:j=e.kids.length:=by omega
   subst hj;have xsc:=e6.sc;simp (disch:=first|omega|simp only[zD]<;>omega|assumption) only[↓zR,↓zRM,zR,zRM,reduceAdd,reduceMul,reduceToNat,↓f206_J0,↓f206_J14,↓f206_J13,↓f206_L11];refine hkk _ _ ⟨e1,xsc,λg' x1 y1 y2=>?_⟩;rcases e6 with⟨rfl,rfl⟩|⟨bo,lo',rfl,o1,o2,o3,o4,o5⟩
   ·have:e.kids=[]:=List.eq_nil_of_length_eq_zero (by rw[List.length_nil] at e7;omega)
    exact .inl ⟨rfl,by unfold zaS;rw[this];rfl⟩
   ·have hll:lo'=e.kids.length:=by omega
    subst hll;refine .inr ⟨bo,0,_,_,cs',by unfold zaS;rw[List.length_map],by omega,by rw[y2 _ (by omega) (by omega),o3];rfl,by unfold zaS;rw[List.length_map];omega,λq x hx=>?_⟩;unfold zaS at hx;rw[List.getElem?_map] at hx;cases hkq:e.kids[q]? with
    | none=>rw[hkq] at hx;cases hx
    | some kid=>
     rw[hkq] at hx;cases hx;obtain⟨r,a',b',v1,v2,v3,v4,v5⟩:=e8 q kid (List.getElem?_eq_some_iff.1 hkq).1 hkq;rw[Nat.zero_add,v1];exact v5 g' x1 (by omega) λi z1 z2=>y2 i (by omega) (by omega)
  | succ i=>
   have hj:j<e.kids.length:=by omega
   obtain⟨kid,hkq⟩:∃kid,e.kids[j]?=some kid:=⟨_,List.getElem?_eq_getElem hj⟩
   simp (disch:=first|omega|simp only[zD]<;>omega|assumption) only[↓zR,↓zRM,zR,zRM,reduceAdd,reduceMul,reduceToNat,↓f206_J0,↓f206_J14,↓f206_J13,↓f206_L11];have cj:(j:Int)<(e.kids.length:Int):=by omega
   refine TN.w208 m (by omega) (hg.ext e1) (hx.ext e1) ht0 hd he hkq (hk0 kid (List.mem_of_getElem? hkq)) (mv:=.nils) (more:=[]) (.inl ⟨rfl,rfl⟩) (by simpa using hs) _ _ ?_;intro u h3 ⟨x1,r,x2,r4,x3⟩;subst x2;have hx1:=x1.n;have hrow:=λ(hh:H) (kc:K β)=>thRow' (β:=β) r4 hh kc
   simp (disch:=first|omega|simp only[zD]<;>omega|assumption) only[↓zR,↓zRM,zR,zRM,reduceAdd,reduceMul,reduceToNat,↓f206_J0,↓f206_J14,↓f206_J13,↓f206_L11,↓hrow];have hpu:∀i,i<h3.n->(h3.push (.own 0 r)).get i=h3.get i:=λi hi=>zc (by omega)
   have hsrc:∀c:Nat->List AV->Option β,fSrc 4 (.sl h3.n 0 1 1 none) (h3.push (.own 0 r)) c=c 1 r:=by
    intro c;have:((h3.push (.own 0 r)).get h3.n).cells=some r:=by rw[zf rfl];rfl
    show (cells _ h3.n λcs=>cond (Nat.ble (Nat.add 0 (Nat.mul 1 4)) (lenF cs)) (c 1 (zbn (Nat.mul 1 4) (zbS 0 cs))) none)=_;rw[zaA,this,zbk,zu,r4,zN,zT,List.drop_zero];show c 1 (r.take 4)=_;rw[List.take_of_length_le (by omega)]
   refine zdy (lo:=lo) (hi:=hi) (cs:=cs') (e6.mono (Nat.le_refl _) (Nat.le_refl _) λi p1 p2=>by rw[hpu i (by omega),x1.get i (by omega)]) (by rw[H.n_push];omega) hsrc (by rw[r4]) (by omega) (by omega) (by omega) (by omega) ?_;intro L h4 z1 z2 z3 z4;rw[H.n_push] at z1 z2 z4;have hL:L=j+1:=by rw[List.length_append,e7,r4] at z3;omega
   subst hL;have z5:∀i,i<h3.n->(i<lo\/hi<=i)->h4.get i=h3.get i:=λi p1 p2=>by rw[z4 i (by omega) p2,hpu i p1]
   simp (disch:=first|omega|simp only[zD]<;>omega|assumption) only[↓zR,↓zRM,zR,zRM,reduceAdd,reduceMul,reduceToNat,↓f206_J0,↓f206_J14,↓f206_J13,↓f206_L11];refine ih i (by omega) _ _ _ _ _ _ _ _ ⟨⟨by omega,λi hi=>by rw[z5 i (by omega) (.inl (by omega)),x1.get i (by omega)];exact e1.get i hi⟩,rfl,rfl,j+1,h3.n+1,h3.n+2,_,zfE j,by omega,by omega,by omega,by omega,
    .inr ⟨h3.n+1,j+1,rfl,by omega,by omega,z1,z3,by omega⟩,z3,?_⟩
   intro q y hq hy
   by_cases hqj:q=j
   ·subst hqj;rw[hkq] at hy;cases hy;refine⟨r,h'.n,h3.n,?_,by omega,by omega,by omega,λg' y1 y2 y3=>?_⟩
    ·rw[List.drop_append_of_le_length (by omega),List.drop_of_length_le (by omega),List.nil_append,List.take_of_length_le (by omega)]
    ·have:=x3 g' y1 y2 λi p1 p2=>by rw[y3 i p1 p2,z5 i p2 (.inr (by omega))]
     rw[List.append_nil] at this;exact this
   ·obtain⟨r',a',b',o1,o2,o3,o4,o5⟩:=e8 q y (by omega) hy;refine⟨r',a',b',?_,by omega,by omega,o4,λg' y1 y2 y3=>o5 g' y1 y2 λi p1 p2=>by rw[y3 i p1 p2,z5 i (by omega) (by omega),x1.get i (by omega)]⟩;rw[List.drop_append_of_le_length (by omega),List.take_append_of_le_length (by rw[List.length_drop];omega)];exact o1
end
end Am.F
end
section
namespace Am.F
open Go Am
section
variable {β:Type} {t:ETree}
theorem zat.chk{h:H}{lo hi es:Nat}{v:AV}{cs:List AV}(ho:zat h lo hi es v cs)(k:VK β):zad v v (.mk k)=k v:=by
 show cond (AV.beq v v) (k v) none=_;rcases ho with⟨rfl,_⟩|⟨b,l,rfl,_⟩
 ·rfl
 ·have:AV.beq (.sl b 0 l l (some es)) (.sl b 0 l l (some es))=true:=by simp[AV.beq]
  rw[this];rfl
theorem GNM.w204(TN:GNM t)(n:Nat)(s:List UInt8)(h:H):Sp (β:=β) (zd t stdI (n+1) (.fn 204 []) [.str s] h) λu h'=>Ext h h'/\u = .agg [.str s,.nils,.int .i64 0,.nils]:=by
 intro kk R hkk;rw[TN.c204];unfold f204;simp (disch:=first|omega|simp only[zD]<;>omega|assumption) only[↓zR,↓zRM,zR,zRM,reduceAdd,reduceMul,reduceToNat];exact hkk _ _ ⟨((Ext.refl h).push _).set (Nat.le_refl _) _,rfl⟩
def zeS(s:List UInt8):List AV:=[.str s,.nils,.int .i64 0,.nils]
theorem GNM.w210(TN:GNM t)(T:GA t)(L:GI t)(n:Nat)(hn:1100<=n){h:H}{lv:AV}{s:List UInt8}{u:Tm}(hs:tP s=some u)(hkl:u.kids.length<=3) :
  Sp (β:=β) (zd t stdI n (.fn 210 []) [lv,.str s] h) λv h'=>Ext h h'/\if u.kind=0 then v = .tup [.agg [.int .i64 0,.int .i64 0,.nils],.int .i64 902] else
   ∃w,v = .tup [.agg [.int .i64 u.kind,.int .i64 u.num,w],.int .i64 0]/\w.sc=true/\∀p g',h'.n<=g'.n->(∀i,h.n<=i->i<h'.n->g'.get i=h'.get i)->LAt 4 (TPC p) g' w (u.kids.map Thg.term):=by
 intro kk R hkk;obtain⟨m,rfl⟩:∃m,n=m+2:=⟨n-2,by omega⟩
 have hroom:room=68719476736:=rfl;have hst:zfo s=some u:=by rw[zfn];exact hs
 have bz:∀kc:VK β,zp [.int .i64 0,.int .i64 0,.nils] [] [] (.mk kc)=kc (.agg [.int .i64 0,.int .i64 0,.nils]):=λkc=>rfl
 have bk:∀(x y:Int) (kc:VK β),zp [.int .i64 0,.int .i64 0,.nils] [(0,1),(1,1)] [.int .i64 x,.int .i64 y] (.mk kc)=kc (.agg [.int .i64 x,.int .i64 y,.nils]):=λx y kc=>rfl
 obtain⟨h0,hh0⟩:∃h0,h0=h.push (.own 0 [.int .i64 0,.int .i64 0,.nils]):=⟨_,rfl⟩
 have e0:Ext h h0:=by rw[hh0];exact (Ext.refl h).push _
 have n0:h0.n=h.n+1:=by rw[hh0,H.n_push]
 have g0:h0.get h.n = .own 0 [.int .i64 0,.int .i64 0,.nils]:=by rw[hh0];exact zf rfl
 have hp0:h.push (.own 0 [.int .i64 0,.int .i64 0,.nils])=h0:=hh0.symm;rw[TN.c210];unfold f210;simp (disch:=first|omega|simp only[zD]<;>omega|assumption) only[↓zR,↓zRM,zR,zRM,reduceAdd,reduceMul,reduceToNat,hp0];refine T.w11 L (m+1) (by omega) s h0 _ _ ?_;intro v h1 ⟨e1,e2⟩;rw[hst] at e2;obtain⟨c,e3,e4⟩:=e2;subst e3;have n1:=e1.n;have o1:zG (h1.get h.n)=some (0,[.int .i64 0,.int .i64 0,.nils]):=by rw[e1.get _ (by omega),g0];rfl
 by_cases hk0:u.kind=0
 ·simp (disch:=first|omega|simp only[zD]<;>omega|assumption) only[↓zR,↓zRM,zR,zRM,reduceAdd,reduceMul,reduceToNat,↓f210_J6,eq_true hk0,bz,o1];exact hkk _ _ ⟨(e0.trans e1).set (Nat.le_refl _) _,by rw[if_pos hk0]⟩
 have hc:SlAt h1 c (strs u.kids):=e4.sl (Nat.le_refl _);have lc:∀kc:VK β,qLenL c (.mk kc)=kc (.int .i64 (u.kids.length:Int)):=λkc=>by rw[hc.len,zbo]
 simp (disch:=first|omega|simp only[zD]<;>omega|assumption) only[↓zR,↓zRM,zR,zRM,reduceAdd,reduceMul,reduceToNat,↓f210_J9,↓f210_J16,↓f210_J15,↓f210_L13,↓f210_J6,eq_false hk0,↓bk,lc];have hrows:∀(xs:List (List UInt8)),∀r ∈ xs.map zeS,r.length=4:=λxs r hr=>by
  obtain⟨y,_,rfl⟩:=List.mem_map.1 hr;rfl
 refine zal 18 (m+1) _ _ (λi x0 x1 x2 x3 x4 x5 x6 x7 x8 x9 x10 x11 x12 x13 x14 x15 x16 x17 h'=>Ext h1 h'/\x1 = .ptr h.n 0/\x6 = .ptr h1.n 0/\x14=c/\x15 = .int .i64 (u.kids.length:Int)/\∃(j lo hi:Nat) (cur:AV) (cs:List AV),x16 = .int .i64 (j:Int)/\j+i=u.kids.length/\h1.n+1<=lo/\lo<=hi/\hi<=h'.n /\
  h'.get h1.n = .own 0 [.int .i64 u.kind,.int .i64 u.num,cur]/\zat h' lo hi 4 cur cs/\cs=((u.kids.take j).map zeS).flatten) u.kids.length (by omega) ?_ _ _ _ _ _ _ _ _ _ _ _ _ _ _ _ _ _ _ _
  ⟨((Ext.refl h1).push _).set (Nat.le_refl _) _,rfl,rfl,rfl,rfl,0,h1.n+1,h1.n+1,.nils,[],rfl,by omega,Nat.le_refl _,Nat.le_refl _,by rw[H.n_set,H.n_push];omega,zn rfl,zat.nil _ _ _ _,rfl⟩
 intro l i ih x0 x1 x2 x3 x4 x5 x6 x7 x8 x9 x10 x11 x12 x13 x14 x15 x16 x17 h' ⟨f1,p1,p2,p3,p4,j,lo,hi,cur,cs,p5,f2,f3,f4,f5,f6,f7,f8⟩;subst p1 p2 p3 p4 p5;have nn:=f1.n;have cb:(h'.get h1.n).cells=some [.int .i64 u.kind,.int .i64 u.num,cur]:=by rw[f6];rfl
 have csc:=f7.sc;cases i with
 | zero=>
  have hj:j=u.kids.length:=by omega
  subst hj;rw[List.take_length] at f8;have o1':zG (h'.get h.n)=some (0,[.int .i64 0,.int .i64 0,.nils]):=by rw[f1.get _ (by omega)];exact o1
  simp (disch:=first|omega|simp only[zD]<;>omega|assumption) only[↓zR,↓zRM,zR,zRM,reduceAdd,reduceMul,reduceToNat,↓f210_J9,↓f210_J16,↓f210_J15,↓f210_L13,↓f210_J6,cb,o1'];refine hkk _ _ ⟨((e0.trans e1).trans f1).set (Nat.le_refl _) _,?_⟩;rw[if_neg hk0];refine⟨cur,rfl,csc,λp g' y1 y2=>?_⟩;rw[H.n_set] at y1 y2;have hnr:zcZ h1 h' cur (u.kids.map zeS):=by
   rcases f7 with⟨q1,q2⟩|⟨b,l',q1,q2,q3,q4,q5,q6⟩
   ·refine .inl ⟨q1,?_⟩;have:=zcI _ (hrows u.kids)
    rw[<- f8,q2,List.length_nil] at this;exact List.eq_nil_of_length_eq_zero (by omega)
   ·have hl':l'=(u.kids.map zeS).length:=by
     have:=zcI _ (hrows u.kids)
     rw[<- f8,q5] at this;omega
    rw[hl'] at q1;exact .inr ⟨b,_,_,q1,by omega,by omega,by rw[q4,f8]⟩
  refine hnr.lat (hrows u.kids) (by rw[List.length_map,List.length_map]) y1 (λi z1 z2=>by rw[y2 i (by have:=e1.n;omega) z2,ze (by omega)]) λq r x hr hx=>?_
  rw[List.getElem?_map] at hr hx;cases hq:u.kids[q]? with
  | none=>rw[hq] at hr;cases hr
  | some y=>rw[hq] at hr hx;cases hr;cases hx;exact .term y
 | succ i=>
  have hj:j<u.kids.length:=by omega
  have hkq:u.kids[j]?=some (u.kids.getD j []):=by rw[List.getD_eq_getElem?_getD,List.getElem?_eq_getElem hj];rfl
  have hld:=λkc:VK β=>(hc.ext f1).loadS (i:=(j:Int)) (kd:=.i64) (by omega) (by omega) kc
  rw[Int.toNat_natCast] at hld;simp (disch:=first|omega|simp only[zD]<;>omega|assumption) only[↓zR,↓zRM,zR,zRM,reduceAdd,reduceMul,reduceToNat,↓f210_J9,↓f210_J16,↓f210_J15,↓f210_L13,↓f210_J6,cb,hld];generalize hky:u.kids.getD j []=y at hkq;refine TN.w204 m y h' _ _ ?_;intro v h3 ⟨x1,x2⟩;subst x2;have hx1:=x1.n;have cb3:(h3.get h1.n).cells=some [.int .i64 u.kind,.int .i64 u.num,cur]:=by rw[x1.get _ (by omega)];exact cb
  have hch:=f7.chk (β:=β);have hrow:=λ(hh:H) (kc:K β)=>thRow (β:=β) (.str y) .nils (.int .i64 0) .nils hh kc
  simp (disch:=first|omega|simp only[zD]<;>omega|assumption) only[↓zR,↓zRM,zR,zRM,reduceAdd,reduceMul,reduceToNat,↓f210_J9,↓f210_J16,↓f210_J15,↓f210_L13,↓f210_J6,cb3,hch,↓hrow];have hpu:∀i,i<h3.n->(h3.push (.own 0 [.str y,.nils,.int .i64 0,.nils])).get i=h3.get i:=λi hi=>zc (by omega)
  have hsrc:∀c:Nat->List AV->Option β,fSrc 4 (.sl h3.n 0 1 1 none) (h3.push (.own 0 (zeS y))) c=c 1 (zeS y):=by
   intro c;have:((h3.push (.own 0 (zeS y))).get h3.n).cells=some (zeS y):=by rw[zf rfl];rfl
   show (cells _ h3.n λcs=>cond (Nat.ble (Nat.add 0 (Nat.mul 1 4)) (lenF cs)) (c 1 (zbn (Nat.mul 1 4) (zbS 0 cs))) none)=_;rw[zaA,this];rfl
  have hcl:cs.length=j*4:=by rw[f8,zcI _ (hrows _),List.length_map,List.length_take];omega
  refine zdy (lo:=lo) (hi:=hi) (cs:=cs) (f7.mono (Nat.le_refl _) (Nat.le_refl _) λi p1 p2=>by rw[hpu i (by omega),x1.get i (by omega)]) (by rw[H.n_push];omega) hsrc rfl (by omega) (by omega) (by omega) (by omega) ?_;intro L' h4 z1 z2 z3 z4;rw[H.n_push] at z1 z2 z4;have hL:L'=j+1:=by rw[List.length_append,hcl] at z3;simp only[zeS,List.length_cons,List.length_nil] at z3;omega
  subst hL;have z5:∀i,i<h3.n->(i<lo\/hi<=i)->h4.get i=h3.get i:=λi p1 p2=>by rw[z4 i (by omega) p2,hpu i p1]
  have o4:zG (h4.get h1.n)=some (0,[.int .i64 u.kind,.int .i64 u.num,cur]):=by rw[z5 _ (by omega) (.inl (by omega)),x1.get _ (by omega),f6];rfl
  simp (disch:=first|omega|simp only[zD]<;>omega|assumption) only[↓zR,↓zRM,zR,zRM,reduceAdd,reduceMul,reduceToNat,↓f210_J9,↓f210_J16,↓f210_J15,↓f210_L13,↓f210_J6,o4];refine ih i (by omega) _ _ _ _ _ _ _ _ _ _ _ _ _ _ _ _ _ _ _ ⟨⟨by rw[H.n_set];omega,λi hi=>by rw[ze (by omega),z5 i (by omega) (.inl (by omega)),x1.get i (by omega)];exact f1.get i hi⟩,rfl,rfl,rfl,rfl,j+1,h3.n+1,h3.n+2,.sl (h3.n+1) 0 (j+1) (j+1) (some 4),cs++zeS y,zfE j,by omega,by omega,by omega,by rw[H.n_set];omega,zn rfl,
   .inr ⟨h3.n+1,j+1,rfl,by omega,by omega,by rw[ze (by omega)];exact z1,z3,by omega⟩,?_⟩
  rw[f8,List.take_add_one,hkq,List.map_append,List.flatten_append];rfl
end
end Am.F
end
section
namespace Am.F
open Go Am
structure Fnd where
 kind:Int
 num:Int
 parts:List Thg
inductive Rs where
 | ok (f:Fnd)
 | bad (c:Int)
def zb5:Fnd:=⟨3,0,[]⟩
def zjg(s:List UInt8):Rs:=match tP s with
 | some u=>if u.kind=0 then .bad 902 else .ok ⟨u.kind,u.num,u.kids.map .term⟩
 | none=>.bad 902
def doV(op a b:Int):Int :=
 if (-32768<=a/\a<=32767)/\(-32768<=b/\b<=32767) then
  IntKind.i16.wrap (if op=0 then a+b else if op=1 then a-b else if op=2 then a*b else if op=3 then (if a=b then 1 else 0) else if op=4 then (if a<b then 1 else 0) else 0)
 else 0
def zo(p:List Df)(d:Nat):List Ex:=((p[d]?).map Df.body).getD []
instance :Inhabited Thg:=⟨.term []⟩
def zA(p:List Df):Nat->Nat->Thg->Rs × Nat
 | 0,left,_=>(.bad 0,left)
 | n+1,left,.term s=>(zjg s,left)
 | n+1,0,.part d a env=>(.bad 901,0)
 | n+1,left+1,.part d a env=>match (zo p d)[a]? with
  | none=>(.bad 0,left)
  | some e=>
   let kid:=λk:Nat=>Thg.part d (e.kids.getD k 0).toNat env
   if e.kind=0 then (.ok ⟨1,e.num,[]⟩,left)
   else if e.kind=1 then zA p n left (env.getD e.num.toNat default)
   else if e.kind=2 then zA p n left (.part e.num.toNat ((zo p e.num.toNat).length-1) (zaS d env e.kids))
   else if e.kind=3 then (.ok ⟨2,e.num,zaS d env e.kids⟩,left)
   else if e.kind=4 then
    match zA p n left (kid 0) with
    | (.bad c,l1)=>(.bad c,l1)
    | (.ok f,l1)=>if f.kind=1 then
      match zA p n l1 (kid 1) with
      | (.bad c,l2)=>(.bad c,l2)
      | (.ok g,l2)=>if g.kind=1 then (.ok ⟨1,doV e.num f.num g.num,[]⟩,l2) else (.ok zb5,l2)
     else (.ok zb5,l1)
   else if e.kind=5 then
    match zA p n left (kid 0) with
    | (.bad c,l1)=>(.bad c,l1)
    | (.ok f,l1)=>if f.kind=3 then (.ok f,l1)
     else if f.kind=2/\f.num=e.num/\(f.parts.length:Int)=e.bind then zA p n l1 (.part d (e.kids.getD 1 0).toNat (env++f.parts))
     else zA p n l1 (kid 2)
   else if e.kind=6 then zA p n left (.part d (e.kids.getD 1 0).toNat (env++[kid 0]))
   else (.ok zb5,left)
theorem zfL(p:List Df):∀(n left:Nat) (t:Thg),(zA p n left t).2<=left
 | 0,left,t=>Nat.le_refl _
 | n+1,left,.term s=>Nat.le_refl _
 | n+1,0,.part d a env=>Nat.le_refl _
 | n+1,left+1,.part d a env=>by
  have ih:=zfL p n;unfold zA;cases (zo p d)[a]? with
  | none=>exact Nat.le_succ _
  | some e=>
   simp only
   by_cases c0:e.kind=0
   ·rw[if_pos c0];exact Nat.le_succ _
   rw[if_neg c0]
   by_cases c1:e.kind=1
   ·rw[if_pos c1];exact Nat.le_succ_of_le (ih _ _)
   rw[if_neg c1]
   by_cases c2:e.kind=2
   ·rw[if_pos c2];exact Nat.le_succ_of_le (ih _ _)
   rw[if_neg c2]
   by_cases c3:e.kind=3
   ·rw[if_pos c3];exact Nat.le_succ _
   rw[if_neg c3]
   by_cases c4:e.kind=4
   ·rw[if_pos c4];have h1:=ih left (.part d (e.kids.getD 0 0).toNat env);generalize zA p n left (.part d (e.kids.getD 0 0).toNat env)=r1 at h1;obtain⟨r,l1⟩:=r1;cases r with
    | bad c=>exact Nat.le_succ_of_le h1
    | ok f=>
     simp only
     by_cases d1:f.kind=1
     ·rw[if_pos d1];have h2:=ih l1 (.part d (e.kids.getD 1 0).toNat env);generalize zA p n l1 (.part d (e.kids.getD 1 0).toNat env)=r2 at h2;obtain⟨r,l2⟩:=r2;have h3:l2<=left:=Nat.le_trans h2 h1;cases r with
      | bad c=>exact Nat.le_succ_of_le h3
      | ok g=>
       simp only;split<;>exact Nat.le_succ_of_le h3
     ·rw[if_neg d1];exact Nat.le_succ_of_le h1
   rw[if_neg c4]
   by_cases c5:e.kind=5
   ·rw[if_pos c5];have h1:=ih left (.part d (e.kids.getD 0 0).toNat env);generalize zA p n left (.part d (e.kids.getD 0 0).toNat env)=r1 at h1;obtain⟨r,l1⟩:=r1;cases r with
    | bad c=>exact Nat.le_succ_of_le h1
    | ok f=>
     simp only
     by_cases d1:f.kind=3
     ·rw[if_pos d1];exact Nat.le_succ_of_le h1
     rw[if_neg d1]
     by_cases d2:f.kind=2/\f.num=e.num/\(f.parts.length:Int)=e.bind
     ·rw[if_pos d2];exact Nat.le_succ_of_le (Nat.le_trans (ih _ _) h1)
     ·rw[if_neg d2];exact Nat.le_succ_of_le (Nat.le_trans (ih _ _) h1)
   rw[if_neg c5]
   by_cases c6:e.kind=6
   ·rw[if_pos c6];exact Nat.le_succ_of_le (ih _ _)
   ·rw[if_neg c6];exact Nat.le_succ _
inductive WF (p:List Df):Thg->Prop
 | term {s:List UInt8} (h:mayP s=true):WF p (.term s)
 | part {d a:Nat} {env:List Thg} {df:Df} {lv:List Int} (hd:p[d]?=some df) (hlv:Levels df lv) (ha:a<df.body.length) (hl:(env.length:Int)=lv.getD a 0) (he:∀x ∈ env,WF p x):WF p (.part d a env)
theorem zE.kidsLen{e:Ex}{l:Int}(h:zE e l):(e.kind=4->e.kids.length=2)/\(e.kind=5->e.kids.length=3)/\(e.kind=6->e.kids.length=2)/\e.kids.length<=3/\(e.kind=1->0<=e.num/\e.num<l)/\(0<=e.kind/\e.kind<=7)/\(0<=e.bind/\e.bind<=3)/\(e.kind=4->0<=e.num/\e.num<=4):=by
 unfold zE Plain at h;rcases h with h|h|h|h|h|h|h|h<;>omega
structure Stand (p:List Df) (d a:Nat) (env:List Thg) (df:Df) (lv:List Int) (e:Ex):Prop where
 hd:p[d]?=some df
 hlv:Levels df lv
 he:df.body[a]?=some e
 hl:(env.length:Int)=lv.getD a 0
 wf:∀x ∈ env,WF p x
theorem WF.stand{p:List Df}{d a:Nat}{env:List Thg}(h:WF p (.part d a env)):∃df lv e,Stand p d a env df lv e:=by
 cases h with
 | part hd hlv ha hl he=>exact⟨_,_,_,hd,hlv,List.getElem?_eq_getElem ha,hl,he⟩
section
variable {p:List Df} {d a:Nat} {env:List Thg} {df:Df} {lv:List Int} {e:Ex}
theorem Stand.body(s:Stand p d a env df lv e):zo p d=df.body:=by unfold zo;rw[s.hd];rfl
theorem Stand.get(s:Stand p d a env df lv e):(zo p d)[a]?=some e:=by rw[s.body];exact s.he
theorem Stand.part(s:Stand p d a env df lv e):zE e (lv.getD a 0):=(s.hlv.part a e s.he).2.1
theorem Stand.env8(s:Stand p d a env df lv e):env.length<=8:=by have:=(s.hlv.part a e s.he).1;have:=s.hl;omega
theorem Stand.kid(s:Stand p d a env df lv e){k:Nat}{kid:Int}(hk:e.kids[k]?=some kid){more':List Thg}(hm:(more'.length:Int)=more e k)(hw:∀x ∈ more',WF p x):0<=kid/\WF p (.part d kid.toNat (env++more')):=by
 obtain⟨h1,h2⟩:=(s.hlv.part a e s.he).2.2 k kid hk;have ha:=(List.getElem?_eq_some_iff.1 s.he).1;refine⟨h1.1,.part s.hd s.hlv (by omega) ?_ λx hx=>?_⟩
 ·rw[h2,List.length_append,<- hm,<- s.hl];omega
 ·rcases List.mem_append.1 hx with hx|hx
  ·exact s.wf x hx
  ·exact hw x hx
theorem Stand.kid0(s:Stand p d a env df lv e){k:Nat}{kid:Int}(hk:e.kids[k]?=some kid)(hm:more e k=0):0<=kid/\WF p (.part d kid.toNat env):=by
 have:=s.kid hk (more':=[]) (by rw[hm];rfl) (λx hx=>by simp at hx)
 rw[List.append_nil] at this;exact this
end
end Am.F
end
section
namespace Am.F
open Go Am
def FndOk(p:List Df)(f:Fnd):Prop:=(∀x ∈ f.parts,WF p x)/\(f.kind=3->f=zb5)/\f.parts.length<=3/\(f.kind=1->f.parts=[])/\(-32768<=f.num/\f.num<=32767)/\(f.kind=1\/f.kind=2\/f.kind=3)
def RsOk(p:List Df):Rs->Prop
 | .ok f=>FndOk p f
 | .bad _=>True
theorem zhK(p:List Df):FndOk p zb5:=⟨λx hx=>by simp[zb5] at hx,λ_=>rfl,by simp[zb5],λh=>by simp[zb5] at h,by simp[zb5],.inr (.inr rfl)⟩
theorem zgw(x:Int):-32768<=IntKind.i16.wrap x/\IntKind.i16.wrap x<=32767:=by
 unfold IntKind.wrap;simp only[show IntKind.i16.bits=16 from rfl,show IntKind.i16.signed=true from rfl,Bool.true_and];have h1:0<=x%(2 ^ 16:Nat):=Int.emod_nonneg _ (by decide);have h2:x%(2 ^ 16:Nat)<(2 ^ 16:Nat):=Int.emod_lt_of_pos _ (by decide);have e1:((2 ^ 16:Nat):Int)=65536:=by decide
 rw[e1] at h1 h2;split<;>rename_i hc<;>(try simp only[decide_eq_true_eq] at hc)<;>(constructor<;>simp_all<;>omega)
theorem zgL(op a b:Int):-32768<=doV op a b/\doV op a b<=32767:=by
 unfold doV;split
 ·exact zgw _
 ·omega
theorem Stand.call{p:List Df}(hp:zt p=true){d a:Nat}{env:List Thg}{df:Df}{lv:List Int}{e:Ex}(s:Stand p d a env df lv e)(h2:e.kind=2) :
  ∃df',p[e.num.toNat]?=some df'/\0<=e.num/\1<=df'.body.length/\df'.body.length<=24/\WF p (.part e.num.toNat (df'.body.length-1) (zaS d env e.kids))/\zo p e.num.toNat=df'.body:=by
 obtain⟨h1,h0,hall⟩:=zc6 hp;have hc:=s.part.call h2;obtain⟨m1,m2⟩:=hall df (List.mem_of_getElem? s.hd);unfold zep at m2;rw[List.any_eq_false] at m2;have hno:¬ Odd p e:=λho=>m2 e (List.mem_of_getElem? s.he) (decide_eq_true ho)
 unfold Odd at hno;have hlt:¬ (p.length:Int)<=e.num:=λhh=>hno ⟨h2,.inl hh⟩
 have hpar:(e.kids.length:Int)=zan p e.num:=Classical.byContradiction λhh=>hno ⟨h2,.inr hh⟩
 obtain⟨df',hd'⟩:∃df',p[e.num.toNat]?=some df':=⟨_,List.getElem?_eq_getElem (by omega)⟩
 have hm':=(hall df' (List.mem_of_getElem? hd')).1;obtain⟨lv',hlv'⟩:=zck hm';have hl':=zbr hm';refine⟨df',hd',hc.1,hl'.2,hl'.1,.part hd' hlv' (by omega) ?_ λx hx=>?_,by unfold zo;rw[hd'];rfl⟩
 ·rw[hlv'.last];unfold zan at hpar;rw[hd'] at hpar;unfold zaS;rw[List.length_map,hpar];rfl
 ·unfold zaS at hx;obtain⟨kid,hk,rfl⟩:=List.mem_map.1 hx;obtain⟨k,hk⟩:=List.mem_iff_getElem?.1 hk;exact (s.kid0 hk (by unfold more;rw[h2];simp)).2
theorem Stand.kidsWf{p:List Df}{d a:Nat}{env:List Thg}{df:Df}{lv:List Int}{e:Ex}(s:Stand p d a env df lv e)(h5:e.kind≠5)(h6:e.kind≠6):(∀x ∈ e.kids,0<=x)/\∀x ∈ zaS d env e.kids,WF p x:=by
 have hm:∀k:Int,more e k=0:=λk=>by unfold more;rw[if_neg h5,if_neg h6];split<;>rfl
 constructor
 ·intro x hx;obtain⟨k,hk⟩:=List.mem_iff_getElem?.1 hx;exact (s.kid0 hk (hm _)).1
 ·intro x hx;unfold zaS at hx;obtain⟨kid,hk,rfl⟩:=List.mem_map.1 hx;obtain⟨k,hk⟩:=List.mem_iff_getElem?.1 hk;exact (s.kid0 hk (hm _)).2
theorem getD_some{xs:List Int}{k:Nat}(h:k<xs.length):xs[k]?=some (xs.getD k 0):=by rw[List.getD_eq_getElem?_getD,List.getElem?_eq_getElem h];rfl
theorem zh3{s:List UInt8}{u:Tm}(h:tP s=some u):(u.kind=0\/u.kind=1\/u.kind=2\/u.kind=3)/\u.kids.length<=3/\(-32768<=u.num/\u.num<=32767)/\(u.kind=3->u.num=0/\u.kids=[])/\(u.kind=1->u.kids=[]):=by
 obtain⟨_,h2,_⟩:=zjX h;rcases (zj1 h2).form with⟨a,b,c⟩|⟨a,b,c⟩|⟨a,b,c,d⟩|⟨a,b,c,d⟩
 ·exact⟨.inl a,by rw[c];simp,by omega,λ_=>⟨b,c⟩,λ_=>c⟩
 ·exact⟨.inr (.inr (.inr a)),by rw[c];simp,by omega,λ_=>⟨b,c⟩,λ_=>c⟩
 ·exact⟨.inr (.inl a),by rw[d];simp,⟨b,c⟩,λhh=>by omega,λ_=>d⟩
 ·exact⟨.inr (.inr (.inl a)),d,by omega,λhh=>by omega,λhh=>by omega⟩
theorem ziO{p:List Df}(hp:zt p=true):∀(n left:Nat) (t:Thg),WF p t->RsOk p (zA p n left t).1
 | 0,left,t,_=>trivial
 | n+1,left,.term s,h=>by
  show RsOk p (zjg s);unfold zjg;cases hs:tP s with
  | none=>exact trivial
  | some u=>
   simp only;obtain⟨r1,r2,r3,r4,r5⟩:=zh3 hs
   by_cases h0:u.kind=0
   ·rw[if_pos h0];exact trivial
   ·rw[if_neg h0];refine⟨λx hx=>?_,λh3=>?_,by simpa using r2,λh1=>by simp[r5 h1],r3,?_⟩
    ·obtain⟨y,hy,rfl⟩:=List.mem_map.1 hx;exact .term (tP_kid hs y hy).1
    ·simp only at h3;unfold zb5;rw[h3,(r4 h3).1,(r4 h3).2];rfl
    ·show u.kind=1\/u.kind=2\/u.kind=3;omega
 | n+1,0,.part d a env,h=>trivial
 | n+1,left+1,.part d a env,h=>by
  have ih:=ziO hp n;obtain⟨df,lv,e,s⟩:=h.stand;have hk:=s.part.kidsLen;unfold zA;rw[s.get];simp only
  by_cases c0:e.kind=0
  ·rw[if_pos c0];have:-32768<=e.num/\e.num<=32767:=by
    have hp:=s.part;unfold zE at hp;rcases hp with h|h|h|h|h|h|h|h<;>omega
   exact⟨λx hx=>by simp at hx,λh3=>by simp at h3,by simp,λ_=>rfl,this,.inl rfl⟩
  rw[if_neg c0]
  by_cases c1:e.kind=1
  ·rw[if_pos c1];refine ih _ _ (s.wf _ ?_);have:=hk.2.2.2.2.1 c1
   have hl:=s.hl;have hlt:e.num.toNat<env.length:=by omega
   rw[List.getD_eq_getElem?_getD,List.getElem?_eq_getElem hlt];exact List.getElem_mem hlt
  rw[if_neg c1]
  by_cases c2:e.kind=2
  ·rw[if_pos c2];obtain⟨df',_,_,_,_,h5,h6⟩:=s.call hp c2;rw[h6];exact ih _ _ h5
  rw[if_neg c2]
  by_cases c3:e.kind=3
  ·rw[if_pos c3];obtain⟨_,hw⟩:=s.kidsWf (by omega) (by omega);refine⟨hw,λh3=>by simp at h3,by unfold zaS;simpa using hk.2.2.2.1,λh1=>by simp at h1,?_,.inr (.inl rfl)⟩;show -32768<=e.num/\e.num<=32767;have hp:=s.part;unfold zE at hp;rcases hp with h|h|h|h|h|h|h|h<;>omega
  rw[if_neg c3]
  by_cases c4:e.kind=4
  ·rw[if_pos c4];cases zA p n left (.part d (e.kids.getD 0 0).toNat env) with
   | mk r l1=>
    cases r with
    | bad c=>exact trivial
    | ok f=>
     simp only
     by_cases d1:f.kind=1
     ·rw[if_pos d1];cases zA p n l1 (.part d (e.kids.getD 1 0).toNat env) with
      | mk r l2=>
       cases r with
       | bad c=>exact trivial
       | ok g=>
        simp only
        by_cases d2:g.kind=1
        ·rw[if_pos d2];exact⟨λx hx=>by simp at hx,λh3=>by simp at h3,by simp,λ_=>rfl,zgL _ _ _,.inl rfl⟩
        ·rw[if_neg d2];exact zhK p
     ·rw[if_neg d1];exact zhK p
  rw[if_neg c4]
  by_cases c5:e.kind=5
  ·rw[if_pos c5];have l3:=hk.2.1 c5;have h1:=ih left _ (s.kid0 (getD_some (xs:=e.kids) (k:=0) (by omega)) (by unfold more;simp)).2;generalize zA p n left (.part d (e.kids.getD 0 0).toNat env)=r1 at h1;obtain⟨r,l1⟩:=r1;cases r with
   | bad c=>exact trivial
   | ok f=>
    simp only
    by_cases d1:f.kind=3
    ·rw[if_pos d1];exact h1
    rw[if_neg d1]
    by_cases d2:f.kind=2/\f.num=e.num/\(f.parts.length:Int)=e.bind
    ·rw[if_pos d2];exact ih _ _ (s.kid (getD_some (xs:=e.kids) (k:=1) (by omega)) (by unfold more;simp[c5];exact d2.2.2) h1.1).2
    ·rw[if_neg d2];exact ih _ _ (s.kid0 (getD_some (xs:=e.kids) (k:=2) (by omega)) (by unfold more;simp)).2
  rw[if_neg c5]
  by_cases c6:e.kind=6
  ·rw[if_pos c6];have l2:=hk.2.2.1 c6;have w0:=(s.kid0 (getD_some (xs:=e.kids) (k:=0) (by omega)) (by unfold more;simp)).2;refine ih _ _ (s.kid (getD_some (xs:=e.kids) (k:=1) (by omega)) (by unfold more;simp[c6]) λx hx=>?_).2;rw[List.mem_singleton] at hx;rw[hx];exact w0
  ·rw[if_neg c6];exact zhK p
end Am.F
end
section
namespace Am.F
open Go Am
structure Gh (g g':H):Prop where
 un:Un g g'
 hid:∀i,i<g.n->(g.get i).cells=none->(g'.get i).cells=none
theorem Gh.refl(g:H):Gh g g:=⟨Un.refl g,λ_ _ h=>h⟩
theorem Un.trans{a b c:H}(h1:Un a b)(h2:Un b c):Un a c:=⟨by have:=h1.n;have:=h2.n;omega,λi p q=>by
 have e:=h1.get i p q;rw[h2.get i (by have:=h1.n;omega) (by rw[e];exact q),e]⟩
theorem Gh.trans{a b c:H}(h1:Gh a b)(h2:Gh b c):Gh a c:=⟨h1.un.trans h2.un,λi p q=>h2.hid i (by have:=h1.un.n;omega) (h1.hid i p q)⟩
theorem zgz:∀(k:Nat) (g h:H),g.n+k=h.n->∃g':H,g'.n=h.n/\(∀i,i<g.n->g'.get i=g.get i)/\∀i,g.n<=i->i<h.n->g'.get i=h.get i
 | 0,g,h,hk=>⟨g,by omega,λ_ _=>rfl,λi p q=>by omega⟩
 | k+1,g,h,hk=>by
  obtain⟨g',a,b,c⟩:=zgz k (g.push (h.get g.n)) h (by rw[H.n_push];omega);rw[H.n_push] at b c;refine⟨g',a,λi hi=>by rw[b i (by omega),zc (by omega)],λi p q=>?_⟩
  by_cases hi:i=g.n
  ·subst hi;rw[b _ (by omega),zf rfl]
  ·exact c i (by omega) q
theorem Un.grow{g h h':H}(u:Un g h)(hn:g.n=h.n)(e:Ext h h'):∃g',Gh g g'/\Un g' h'/\g'.n=h'.n/\∀i,h.n<=i->i<h'.n->g'.get i=h'.get i:=by
 obtain⟨g',a,b,c⟩:=zgz (h'.n-g.n) g h' (by have:=e.n;omega);have en:=e.n;refine⟨g',⟨⟨by omega,λi p q=>b i p⟩,λi p q=>by rw[b i p];exact q⟩,⟨by omega,λi p q=>?_⟩,a,λi p q=>c i (by omega) q⟩
 by_cases hi:i<g.n
 ·rw[b i hi] at q ⊢;rw[e.get i (by omega)];exact u.get i hi q
 ·exact (c i (by omega) (by omega)).symm
theorem Un.set{g h:H}(u:Un g h){i:Nat}(hi:(g.get i).cells=none)(b:Blk):Un g (h.set i b):=⟨by rw[H.n_set];exact u.n,λj p q=>by
 by_cases hj:i=j
 ·subst hj;exact absurd hi q
 ·rw[ze hj];exact u.get j p q⟩
theorem Un.hide{g h:H}(u:Un g h)(hn:g.n=h.n)(b:Blk):Gh g (g.push .dead)/\Un (g.push .dead) (h.push b)/\(g.push .dead).n=(h.push b).n/\((g.push .dead).get h.n).cells=none:=by
 refine⟨⟨⟨by rw[H.n_push];omega,λi p q=>by rw[zc (by omega)]⟩,λi p q=>by rw[zc (by omega)];exact q⟩,⟨by rw[H.n_push,H.n_push];omega,λi p q=>?_⟩,by rw[H.n_push,H.n_push,hn],by rw[zf hn];rfl⟩;rw[H.n_push] at p
 by_cases hi:i<g.n
 ·rw[zc (by omega)] at q ⊢;rw[zc (by omega)];exact u.get i hi q
 ·have:i=g.n:=by omega
  subst this;rw[zf rfl] at q;exact absurd rfl q
section
variable {β:Type} {t:ETree}
theorem GNM.w230(TN:GNM t)(n:Nat)(b:Bool)(h:H)(k:K β):qCall (zd t stdI (n+1)) (.fn 230 []) [.bool b] h (.mk k)=k (.int .i64 (if b=true then 1 else 0)) h:=by
 rw[TN.q230];unfold f230;cases b
 ·simp (disch:=first|omega|simp only[zD]<;>omega|assumption) only[↓zR,↓zRM,zR,zRM,reduceAdd,reduceMul,reduceToNat,↓f230_J0]
  try rfl
 ·simp (disch:=first|omega|simp only[zD]<;>omega|assumption) only[↓zR,↓zRM,zR,zRM,reduceAdd,reduceMul,reduceToNat,↓f230_J0]
  try rfl
theorem GNM.w226(TN:GNM t)(T:GA t)(n:Nat)(op a b:Int)(ho:0<=op/\op<=4)(h:H)(k:K β)(R:Option β)(hk:∀e:Int,k (.tup [.int .i64 (doV op a b),.int .i64 e]) h=R):qCall (zd t stdI (n+2)) (.fn 226 []) [.int .i64 op,.int .i64 a,.int .i64 b] h (.mk k)=R:=by
 have c16:∀(x:Int) (kk:VK β),qConv .i16 (.int .i64 x) (.mk kk)=kk (.int .i16 (IntKind.i16.wrap x)):=λx kk=>zkF _ _ _ kk
 have r16:=zgw
 by_cases h1:-32768<=a/\a<=32767
 case neg=>
  have hd:doV op a b=0:=by unfold doV;rw[if_neg (λhh=>h1 hh.1)]
  rw[TN.q226];unfold f226;simp (disch:=first|omega|simp only[zD]<;>omega|assumption) only[↓zR,↓zRM,zR,zRM,reduceAdd,reduceMul,reduceToNat,T.w28,eq_false h1];rw[<- hd];exact hk _
 by_cases h2:-32768<=b/\b<=32767
 case neg=>
  have hd:doV op a b=0:=by unfold doV;rw[if_neg (λhh=>h2 hh.2)]
  rw[TN.q226];unfold f226;simp (disch:=first|omega|simp only[zD]<;>omega|assumption) only[↓zR,↓zRM,zR,zRM,reduceAdd,reduceMul,reduceToNat,T.w28,eq_true h1,eq_false h2];rw[<- hd];exact hk _
 have hd:doV op a b=IntKind.i16.wrap (if op=0 then a+b else if op=1 then a-b else if op=2 then a*b else if op=3 then (if a=b then 1 else 0) else if op=4 then (if a<b then 1 else 0) else 0):=by
  unfold doV;rw[if_pos ⟨h1,h2⟩]
 have hm:-9223372036854775808<=a*b/\a*b<9223372036854775808:=by
  have q1:(a*b).natAbs<=32768*32768:=by rw[Int.natAbs_mul];exact Nat.mul_le_mul (by omega) (by omega)
  omega
 have ho':op=0\/op=1\/op=2\/op=3\/op=4:=by omega
 rw[TN.q226];unfold f226;rw[hd] at hk;rcases ho' with rfl|rfl|rfl|rfl|rfl
 ·have:=r16 (a+b)
  simp (disch:=first|omega|simp only[zD]<;>omega|assumption) only[↓zR,↓zRM,zR,zRM,reduceAdd,reduceMul,reduceToNat,↓f226_J1,↓f226_J0,T.w28,eq_true h1,eq_true h2,c16,Int.reduceEq];exact hk _
 ·have:=r16 (a-b)
  simp (disch:=first|omega|simp only[zD]<;>omega|assumption) only[↓zR,↓zRM,zR,zRM,reduceAdd,reduceMul,reduceToNat,↓f226_J1,↓f226_J0,T.w28,eq_true h1,eq_true h2,c16,Int.reduceEq];exact hk _
 ·have:=r16 (a*b)
  simp (disch:=first|omega|simp only[zD]<;>omega|assumption) only[↓zR,↓zRM,zR,zRM,reduceAdd,reduceMul,reduceToNat,↓f226_J1,↓f226_J0,T.w28,eq_true h1,eq_true h2,c16,Int.reduceEq,hm];exact hk _
 ·have:=r16 (if a=b then 1 else 0)
  have hw:=λ(c:Bool) (kk:K β)=>TN.w230 n c h kk
  simp (disch:=first|omega|simp only[zD]<;>omega|assumption) only[↓zR,↓zRM,zR,zRM,reduceAdd,reduceMul,reduceToNat,↓f226_J1,↓f226_J0,T.w28,eq_true h1,eq_true h2,c16,Int.reduceEq,hw,decide_eq_true_eq];exact hk _
 ·have:=r16 (if a<b then 1 else 0)
  have hw:=λ(c:Bool) (kk:K β)=>TN.w230 n c h kk
  simp (disch:=first|omega|simp only[zD]<;>omega|assumption) only[↓zR,↓zRM,zR,zRM,reduceAdd,reduceMul,reduceToNat,↓f226_J1,↓f226_J0,T.w28,eq_true h1,eq_true h2,c16,Int.reduceEq,hw,decide_eq_true_eq];exact hk _
theorem GNM.w209(TN:GNM t)(n:Nat)(h:H):Sp (β:=β) (zd t stdI (n+1) (.fn 209 []) [] h) λu h'=>Ext h h'/\u = .tup [.agg [.int .i64 3,.int .i64 0,.nils],.int .i64 0]:=by
 intro k R hk;rw[TN.c209];unfold f209;simp (disch:=first|omega|simp only[zD]<;>omega|assumption) only[↓zR,↓zRM,zR,zRM,reduceAdd,reduceMul,reduceToNat];exact hk _ _ ⟨((Ext.refl h).push _).set (Nat.le_refl _) _,rfl⟩
end
end Am.F
end
section
namespace Am.F
open Go Am
def zfk:AV:=.agg [.int .i64 0,.int .i64 0,.nils]
def zi6(p:List Df)(r:Rs × Nat)(g h:H)(lb:Nat)(pv:AV)(u:AV)(h':H):Prop :=
 ∃g',Gh g g'/\Un g' h'/\g'.n=h'.n/\h.n<=h'.n/\(∀i,i<h.n->i≠lb->h'.get i=h.get i)/\h'.get lb = .own 0 [pv,.int .i64 (r.2:Int)] /\
  match r.1 with
  | .bad c=>u = .tup [zfk,.int .i64 c]/\(c=901\/c=902)
  | .ok f=>∃w,u = .tup [.agg [.int .i64 f.kind,.int .i64 f.num,w],.int .i64 0]/\w.sc=true/\LAt 4 (TPC p) g' w f.parts
def zfj(t:ETree)(p:List Df)(N n:Nat):Prop:=∀{β:Type} {g h:H} {lb:Nat} {pv:AV} {left:Nat} {cs:List AV} {th:Thg},Un g h->g.n=h.n->lb<h.n->(g.get lb).cells=none->h.get lb = .own 0 [pv,.int .i64 (left:Int)]->LAt 2 DfC g pv p->TPC p g cs th->WF p th->left<N->left<=1000 ->
 Sp (β:=β) (zd t stdI n (.fn 184 []) [.ptr lb 0,.agg cs] h) λu h'=>zi6 p (zA p N left th) g h lb pv u h'
def zc7(p:List Df)(N left:Nat)(op:Int)(a b:Thg):Rs × Nat :=
 match zA p N left a with
 | (.bad c,l1)=>(.bad c,l1)
 | (.ok f,l1)=>if f.kind=1 then
   match zA p N l1 b with
   | (.bad c,l2)=>(.bad c,l2)
   | (.ok g,l2)=>if g.kind=1 then (.ok ⟨1,doV op f.num g.num,[]⟩,l2) else (.ok zb5,l2)
  else (.ok zb5,l1)
theorem Un.box{g h:H}(u:Un g h)(hn:g.n=h.n)(b b':Blk):Gh g (g.push .dead)/\Un (g.push .dead) ((h.push b).set h.n b')/\(g.push .dead).n=((h.push b).set h.n b').n/\∀i,i<h.n->((h.push b).set h.n b').get i=h.get i:=by
 obtain⟨a,c,d,e⟩:=u.hide hn b;exact⟨a,c.set e b',by rw[H.n_set];exact d,λi hi=>by rw[ze (by omega),zc (by omega)]⟩
theorem zkv{p:List Df}{N left l1:Nat}{op c:Int}{a b:Thg}(h:zA p N left a=(.bad c,l1)):zc7 p N left op a b=(.bad c,l1):=by unfold zc7;rw[h]
theorem zjo{p:List Df}{N left l1:Nat}{op:Int}{a b:Thg}{f:Fnd}(h:zA p N left a=(.ok f,l1))(hf:f.kind≠1):zc7 p N left op a b=(.ok zb5,l1):=by unfold zc7;rw[h];simp only;rw[if_neg hf]
theorem zjp{p:List Df}{N left l1 l2:Nat}{op c:Int}{a b:Thg}{f:Fnd}(h:zA p N left a=(.ok f,l1))(hf:f.kind=1)(h2:zA p N l1 b=(.bad c,l2)):zc7 p N left op a b=(.bad c,l2):=by unfold zc7;rw[h];simp only;rw[if_pos hf,h2]
theorem zhq{p:List Df}{N left l1 l2:Nat}{op:Int}{a b:Thg}{f g:Fnd}(h:zA p N left a=(.ok f,l1))(hf:f.kind=1)(h2:zA p N l1 b=(.ok g,l2))(hg:g.kind≠1):zc7 p N left op a b=(.ok zb5,l2):=by unfold zc7;rw[h];simp only;rw[if_pos hf,h2];simp only;rw[if_neg hg]
theorem primN_ok{p:List Df}{N left l1 l2:Nat}{op:Int}{a b:Thg}{f g:Fnd}(h:zA p N left a=(.ok f,l1))(hf:f.kind=1)(h2:zA p N l1 b=(.ok g,l2))(hg:g.kind=1):zc7 p N left op a b=(.ok ⟨1,doV op f.num g.num,[]⟩,l2):=by unfold zc7;rw[h];simp only;rw[if_pos hf,h2];simp only;rw[if_pos hg]
section
variable {β:Type} {t:ETree}
theorem GNM.w207(TN:GNM t)(T:GA t)(n:Nat)(hn:10<=n){p:List Df}{N:Nat}(hL:zfj t p N n){g h:H}{lb:Nat}{pv:AV}{left:Nat}(ug:Un g h)(gn:g.n=h.n)(hlb:lb<h.n)(glb:(g.get lb).cells=none)(hl:h.get lb = .own 0 [pv,.int .i64 (left:Int)])(hp:LAt 2 DfC g pv p)
  {op:Int} (ho:0<=op/\op<=4) {ca cb:List AV} {a b:Thg} (ha:TPC p g ca a) (hb:TPC p g cb b) (wa:WF p a) (wb:WF p b) (hN:left<N) (hN2:left<=1000) :
  Sp (β:=β) (zd t stdI (n+1) (.fn 207 []) [.ptr lb 0,.int .i64 op,.agg ca,.agg cb] h) λu h'=>zi6 p (zc7 p N left op a b) g h lb pv u h':=by
 intro k R hk;obtain⟨m,rfl⟩:∃m,n=m+3:=⟨n-3,by omega⟩
 have la:=ha.len;have lbb:=hb.len;obtain⟨a0,a1,a2,a3,rfl⟩:∃a0 a1 a2 a3,ca=[a0,a1,a2,a3]:=by
  match ca,la with
  | [a0,a1,a2,a3],_=>exact⟨_,_,_,_,rfl⟩
 obtain⟨b0,b1,b2,b3,rfl⟩:∃b0 b1 b2 b3,cb=[b0,b1,b2,b3]:=by
  match cb,lbb with
  | [b0,b1,b2,b3],_=>exact⟨_,_,_,_,rfl⟩
 obtain⟨h1,hh1⟩:∃h1,h1=((((h.push (.own 0 [a0,a1,a2,a3])).push (.own 0 [b0,b1,b2,b3])).push (.own 0 [.int .i64 0,.int .i64 0,.nils])).push (.own 0 [.int .i64 0,.int .i64 0])).push (.own 0 [a0,a1,a2,a3,b0,b1,b2,b3]):=⟨_,rfl⟩
 have n1:h1.n=h.n+5:=by rw[hh1];simp only[H.n_push]
 have e1:Ext h h1:=by rw[hh1];exact (((((Ext.refl h).push _).push _).push _).push _).push _
 have x2:h1.get (h.n+2) = .own 0 [.int .i64 0,.int .i64 0,.nils]:=by
  rw[hh1,zc (by simp only[H.n_push];omega),zc (by simp only[H.n_push];omega),zf (by simp only[H.n_push])]
 have x3:h1.get (h.n+3) = .own 0 [.int .i64 0,.int .i64 0]:=by
  rw[hh1,zc (by simp only[H.n_push];omega),zf (by simp only[H.n_push])]
 have x4:h1.get (h.n+4) = .own 0 [a0,a1,a2,a3,b0,b1,b2,b3]:=by rw[hh1,zf (by simp only[H.n_push])]
 obtain⟨gA,uA,nA,_⟩:=ug.hide gn (.own 0 [a0,a1,a2,a3]);obtain⟨gB,uB,nB,_⟩:=uA.hide nA (.own 0 [b0,b1,b2,b3]);obtain⟨gC,uC,nC,hC⟩:=uB.hide nB (.own 0 [.int .i64 0,.int .i64 0,.nils]);obtain⟨gD,uD,nD,hD⟩:=uC.hide nC (.own 0 [.int .i64 0,.int .i64 0]);obtain⟨gE,uE,nE,_⟩:=uD.hide nD (.own 0 [a0,a1,a2,a3,b0,b1,b2,b3]);rw[<- hh1] at uE nE;have gg:=gA.trans (gB.trans (gC.trans (gD.trans gE)));obtain⟨g1,hg1⟩:∃g1,g1=((((g.push .dead).push .dead).push .dead).push .dead).push .dead:=⟨_,rfl⟩
 rw[<- hg1] at uE nE gg;have hid2:(g1.get (h.n+2)).cells=none:=by
  have:=(gD.trans gE).hid _ (by rw[nC];simp only[H.n_push];omega) hC
  rw[hg1];simp only[H.n_push] at this;exact this
 have hid3:(g1.get (h.n+3)).cells=none:=by
  have:=gE.hid _ (by rw[nD];simp only[H.n_push];omega) hD
  rw[hg1];simp only[H.n_push] at this;exact this
 have rowB:∀(hh:H) (kk:K β),zQ 0 [.str [],.nils,.int .i64 0,.nils,.str [],.nils,.int .i64 0,.nils] 2 [(0,4),(4,4)] [.agg [a0,a1,a2,a3],.agg [b0,b1,b2,b3]] hh (.mk kk)=kk (.sl hh.n 0 2 2 none) (hh.push (.own 0 [a0,a1,a2,a3,b0,b1,b2,b3])):=λhh kk=>fBslice_n (λ_=>rfl) hh kk
 have hp1:((((h.push (.own 0 [a0,a1,a2,a3])).push (.own 0 [b0,b1,b2,b3])).push (.own 0 [.int .i64 0,.int .i64 0,.nils])).push (.own 0 [.int .i64 0,.int .i64 0])).push (.own 0 [a0,a1,a2,a3,b0,b1,b2,b3])=h1:=hh1.symm;have c4:(h1.get (h.n+4)).cells=some [a0,a1,a2,a3,b0,b1,b2,b3]:=by rw[x4];rfl
 have bxA:∀(hh:H) (kk:K β),qBox 0 (.agg [a0,a1,a2,a3]) hh (.mk kk)=kk (.ptr hh.n 0) (hh.push (.own 0 [a0,a1,a2,a3])):=λhh kk=>zU 0 _ hh kk
 have bxB:∀(hh:H) (kk:K β),qBox 0 (.agg [b0,b1,b2,b3]) hh (.mk kk)=kk (.ptr hh.n 0) (hh.push (.own 0 [b0,b1,b2,b3])):=λhh kk=>zU 0 _ hh kk
 obtain⟨gF,uF,nF,hF⟩:=uE.hide nE (.own 0 [.str [],.nils,.int .i64 0,.nils]);have uF':=uF.set (i:=h1.n) hF (.own 0 [a0,a1,a2,a3]);have nF':(g1.push .dead).n=((h1.push (.own 0 [.str [],.nils,.int .i64 0,.nils])).set h1.n (.own 0 [a0,a1,a2,a3])).n:=by rw[nF,H.n_set]
 have ggF:=gg.trans gF;have lbF:((h1.push (.own 0 [.str [],.nils,.int .i64 0,.nils])).set h1.n (.own 0 [a0,a1,a2,a3])).get lb = .own 0 [pv,.int .i64 (left:Int)]:=by
  rw[ze (by omega),zc (by omega),e1.get _ hlb,hl]
 have hidlb:((g1.push .dead).get lb).cells=none:=ggF.hid lb (by omega) glb;have L1:=hL (β:=β) uF' nF' (by rw[H.n_set,H.n_push];omega) hidlb lbF (hp.un DfC.staysU ggF.un) (ha.un ggF.un) wa hN hN2;have nh:h.n+1+1+1+1+1=h1.n:=by omega
 rw[TN.c207];unfold f207;simp (disch:=first|omega|simp only[zD]<;>omega|assumption) only[↓zR,↓zRM,zR,zRM,reduceAdd,reduceMul,reduceToNat,↓f207_J4,↓f207_J21,↓f207_J32,↓f207_J31,↓f207_J20,↓f207_L18,↓bxA,↓bxB,↓rowB,hp1,nh,zcr,Int.reduceLT,c4];refine L1 _ _ ?_;intro u h2 ⟨g2,G2,U2,N2,le2,same2,lb2,res2⟩;rw[H.n_set,H.n_push] at le2;have keep2:∀i,i<h1.n->i≠lb->h2.get i=h1.get i:=λi hi hne=>by
  rw[same2 i (by rw[H.n_set,H.n_push];omega) hne,ze (by omega),zc (by omega)]
 have k2:zG (h2.get (h.n+2))=some (0,[.int .i64 0,.int .i64 0,.nils]):=by rw[keep2 _ (by omega) (by omega),x2];rfl
 have k3:zG (h2.get (h.n+3))=some (0,[.int .i64 0,.int .i64 0]):=by rw[keep2 _ (by omega) (by omega),x3];rfl
 have k4:(h2.get (h.n+4)).cells=some [a0,a1,a2,a3,b0,b1,b2,b3]:=by rw[keep2 _ (by omega) (by omega),x4];rfl
 have hid2':=(gF.trans G2).hid _ (by omega) hid2;have hid3':=(gF.trans G2).hid _ (by omega) hid3;have hidlb2:=G2.hid _ (by rw[H.n_push];omega) hidlb;have GG2:=ggF.trans G2;generalize hr1:zA p N left a=r1 at res2 lb2;obtain⟨rs,l1⟩:=r1;have bz:∀kc:VK β,zp [.int .i64 0,.int .i64 0,.nils] [] [] (.mk kc)=kc zfk:=λkc=>rfl
 have fin:∀(h3:H) (g3:H) (l3:Nat) (r:Rs),zc7 p N left op a b=(r,l3)->Gh g g3->Un g3 h3->g3.n=h3.n->h.n+5<=h3.n->(∀i,i<h.n->i≠lb->h3.get i=h.get i)->h3.get lb = .own 0 [pv,.int .i64 (l3:Int)]->(g3.get (h.n+2)).cells=none ->
   ∀(x y:Int) (c:Int),(match r with|.bad c'=>c'=c/\x=0/\y=0/\(c=901\/c=902)|.ok f=>f=⟨x,y,[]⟩/\c=0) ->
    k (.tup [.agg [.int .i64 x,.int .i64 y,.nils],.int .i64 c]) (h3.set (h.n+2) (.own 0 [.int .i64 x,.int .i64 y,.nils]))=R:=by
  intro h3 g3 l3 r hr q1 q2 q3 q4 q5 q6 q7 x y c hm;refine hk _ _ ⟨g3,q1,q2.set q7 _,by rw[H.n_set];exact q3,by rw[H.n_set];omega,λi hi hne=>by rw[ze (by omega)];exact q5 i hi hne,by rw[ze (by omega),hr];exact q6,?_⟩;rw[hr];cases r with
  | bad c'=>obtain⟨rfl,rfl,rfl,hc⟩:=hm;exact⟨rfl,hc⟩
  | ok f=>obtain⟨rfl,rfl⟩:=hm;exact⟨.nils,rfl,rfl,.inl ⟨rfl,rfl⟩⟩
 have same2':∀i,i<h.n->i≠lb->h2.get i=h.get i:=λi hi hne=>by rw[keep2 i (by omega) hne,e1.get i hi]
 cases rs with
 | bad c=>
  obtain⟨rfl,hc⟩:=res2;have hpe:=zkv (op:=op) (b:=b) hr1;have c0:¬ c=0:=by omega
  have k2':∀bk,zG ((h2.push bk).get (h.n+2))=some (0,[.int .i64 0,.int .i64 0,.nils]):=λbk=>by rw[zc (by omega)];exact k2
  unfold zfk;simp (disch:=first|omega|simp only[zD]<;>omega|assumption) only[↓zR,↓zRM,zR,zRM,reduceAdd,reduceMul,reduceToNat,↓f207_J4,↓f207_J21,↓f207_J32,↓f207_J31,↓f207_J20,↓f207_L18,eq_false c0,k2,k2'];obtain⟨gX,uX,nX,xX⟩:=U2.box N2 (.own 0 [.int .i64 0,.int .i64 0,.nils]) (.own 0 [.int .i64 0,.int .i64 0,.nils]);exact fin _ _ l1 (.bad c) hpe (GG2.trans gX) uX nX (by rw[H.n_set,H.n_push];omega) (λi hi hne=>by rw[xX i (by omega)];exact same2' i hi hne) (by rw[xX _ (by omega)];exact lb2) (gX.hid _ (by omega) hid2') 0 0 c ⟨rfl,rfl,rfl,hc⟩
 | ok f=>
  obtain⟨w,rfl,hw,hparts⟩:=res2;obtain⟨fk,fnm,fp⟩:=f;obtain⟨gX,uX,nX,xX⟩:=U2.box N2 (.own 0 [.int .i64 0,.int .i64 0,.nils]) (.own 0 [.int .i64 fk,.int .i64 fnm,w]);obtain⟨hX,ehX⟩:∃hX,hX=(h2.push (.own 0 [.int .i64 0,.int .i64 0,.nils])).set h2.n (.own 0 [.int .i64 fk,.int .i64 fnm,w]):=⟨_,rfl⟩
  have nhX:hX.n=h2.n+1:=by rw[ehX,H.n_set,H.n_push]
  rw[<- ehX] at uX nX xX;have k2X:zG (hX.get (h.n+2))=some (0,[.int .i64 0,.int .i64 0,.nils]):=by rw[xX _ (by omega)];exact k2
  have k3X:zG (hX.get (h.n+3))=some (0,[.int .i64 0,.int .i64 0]):=by rw[xX _ (by omega)];exact k3
  have k4X:(hX.get (h.n+4)).cells=some [a0,a1,a2,a3,b0,b1,b2,b3]:=by rw[xX _ (by omega)];exact k4
  have kXX:(hX.get h2.n).cells=some [.int .i64 fk,.int .i64 fnm,w]:=by rw[ehX,zn rfl];rfl
  have hid2X:=gX.hid _ (by omega) hid2';have hid3X:=gX.hid _ (by omega) hid3';have hidlbX:=gX.hid _ (by omega) hidlb2;have GGX:=GG2.trans gX;have sameX:∀i,i<h.n->i≠lb->hX.get i=h.get i:=λi hi hne=>by rw[xX i (by omega)];exact same2' i hi hne
  have lbX:hX.get lb = .own 0 [pv,.int .i64 (l1:Int)]:=by rw[xX _ (by omega)];exact lb2
  by_cases hf:fk=1
  case neg=>
   have hpe:=zjo (op:=op) (b:=b) hr1 hf;simp (disch:=first|omega|simp only[zD]<;>omega|assumption) only[↓zR,↓zRM,zR,zRM,reduceAdd,reduceMul,reduceToNat,↓f207_J4,↓f207_J21,↓f207_J32,↓f207_J31,↓f207_J20,↓f207_L18,<- ehX,kXX,eq_false hf];refine TN.w209 (m+2) hX _ _ ?_;intro u h3 ⟨e3,eu⟩;subst eu;have k23:zG (h3.get (h.n+2))=some (0,[.int .i64 0,.int .i64 0,.nils]):=by rw[e3.get _ (by omega)];exact k2X
   obtain⟨g3,G3,U3,N3,_⟩:=uX.grow nX e3;have:=e3.n
   simp (disch:=first|omega|simp only[zD]<;>omega|assumption) only[↓zR,↓zRM,zR,zRM,reduceAdd,reduceMul,reduceToNat,↓f207_J4,↓f207_J21,↓f207_J32,↓f207_J31,↓f207_J20,↓f207_L18,k23];exact fin _ _ l1 (.ok zb5) hpe (GGX.trans G3) U3 N3 (by omega) (λi hi hne=>by rw[e3.get i (by omega)];exact sameX i hi hne) (by rw[e3.get _ (by omega)];exact lbX) (G3.hid _ (by omega) hid2X) 3 0 0 ⟨rfl,rfl⟩
  case pos=>
  subst hf;have hle:=zfL p N left a;rw[hr1] at hle;have hle:l1<=left:=hle;obtain⟨hY,ehY⟩:∃hY,hY=hX.set (h.n+3) (.own 0 [.int .i64 fnm,.int .i64 0]):=⟨_,rfl⟩
  have uY:=uX.set hid3X (.own 0 [.int .i64 fnm,.int .i64 0]);have nY:hY.n=hX.n:=by rw[ehY,H.n_set]
  have xY:∀i,i≠h.n+3->hY.get i=hX.get i:=λi hi=>by rw[ehY,ze (by omega)]
  rw[<- ehY] at uY;have k3Y:zG (hY.get (h.n+3))=some (0,[.int .i64 fnm,.int .i64 0]):=by rw[ehY,zn rfl];rfl
  have k4Y:(hY.get (h.n+4)).cells=some [a0,a1,a2,a3,b0,b1,b2,b3]:=by rw[xY _ (by omega)];exact k4X
  obtain⟨gP,uP,nP,xP⟩:=uY.box (by rw[nX,nY]) (.own 0 [.str [],.nils,.int .i64 0,.nils]) (.own 0 [b0,b1,b2,b3]);have lbP:((hY.push (.own 0 [.str [],.nils,.int .i64 0,.nils])).set hY.n (.own 0 [b0,b1,b2,b3])).get lb = .own 0 [pv,.int .i64 (l1:Int)]:=by rw[xP _ (by omega),xY _ (by omega)];exact lbX
  have hidlbP:=gP.hid lb (by omega) hidlbX;have GGP:=GGX.trans gP;have L2:=hL (β:=β) uP nP (by rw[H.n_set,H.n_push];omega) hidlbP lbP (hp.un DfC.staysU GGP.un) (hb.un GGP.un) wb (Nat.lt_of_le_of_lt hle hN) (by omega);have tk:List.take 4 (List.drop (((0:Int)+1).toNat*4) [a0,a1,a2,a3,b0,b1,b2,b3])=[b0,b1,b2,b3]:=rfl;have tl:([b0,b1,b2,b3]:List AV).length=4:=rfl;have ty:((h2.push (.own 0 [.int .i64 0,.int .i64 0,.nils])).set h2.n (.own 0 [.int .i64 1,.int .i64 fnm,w])).set (h.n+1+1+1) (.own 0 [.int .i64 fnm,.int .i64 0])=hY:=by rw[ehY,ehX]
  have hYn:hY.n=h2.n+1:=by rw[nY,nhX]
  rw[hYn] at L2;simp (disch:=first|omega|simp only[zD]<;>omega|assumption) only[↓zR,↓zRM,zR,zRM,reduceAdd,reduceMul,reduceToNat,↓f207_J4,↓f207_J21,↓f207_J32,↓f207_J31,↓f207_J20,↓f207_L18,kXX,k3,k4,k4Y,tk,tl,ty,List.set_cons_zero];refine L2 _ _ ?_;intro u h4 ⟨g4,G4,U4,N4,le4,same4,lb4,res4⟩;rw[H.n_set,H.n_push] at le4;have keep4:∀i,i<hY.n->i≠lb->h4.get i=hY.get i:=λi hi hne=>by
   rw[same4 i (by rw[H.n_set,H.n_push];omega) hne,ze (by omega),zc (by omega)]
  have c2:zG (h4.get (h.n+2))=some (0,[.int .i64 0,.int .i64 0,.nils]):=by rw[keep4 _ (by omega) (by omega),xY _ (by omega)];exact k2X
  have c3:zG (h4.get (h.n+3))=some (0,[.int .i64 fnm,.int .i64 0]):=by rw[keep4 _ (by omega) (by omega)];exact k3Y
  have c4':(h4.get (h.n+4)).cells=some [a0,a1,a2,a3,b0,b1,b2,b3]:=by rw[keep4 _ (by omega) (by omega)];exact k4Y
  have hid2P:=gP.hid _ (by omega) hid2X;have hid3P:=gP.hid _ (by omega) hid3X;have hid24:=G4.hid _ (by rw[nP,H.n_set,H.n_push];omega) hid2P;have hid34:=G4.hid _ (by rw[nP,H.n_set,H.n_push];omega) hid3P;have GG4:=GGP.trans G4;have same4':∀i,i<h.n->i≠lb->h4.get i=h.get i:=λi hi hne=>by rw[keep4 i (by omega) hne,xY i (by omega),sameX i hi hne]
  generalize hr2:zA p N l1 b=r2 at res4 lb4;obtain⟨rs2,l2⟩:=r2;cases rs2 with
  | bad c=>
   obtain⟨rfl,hc⟩:=res4;have hpe:=zjp (op:=op) hr1 rfl hr2;have c0:¬ c=0:=by omega
   have c2':∀bk,zG ((h4.push bk).get (h.n+2))=some (0,[.int .i64 0,.int .i64 0,.nils]):=λbk=>by rw[zc (by omega)];exact c2
   unfold zfk;simp (disch:=first|omega|simp only[zD]<;>omega|assumption) only[↓zR,↓zRM,zR,zRM,reduceAdd,reduceMul,reduceToNat,↓f207_J4,↓f207_J21,↓f207_J32,↓f207_J31,↓f207_J20,↓f207_L18,eq_false c0,c2,c2'];obtain⟨gZ,uZ,nZ,xZ⟩:=U4.box N4 (.own 0 [.int .i64 0,.int .i64 0,.nils]) (.own 0 [.int .i64 0,.int .i64 0,.nils]);exact fin _ _ l2 (.bad c) hpe (GG4.trans gZ) uZ nZ (by rw[H.n_set,H.n_push];omega) (λi hi hne=>by rw[xZ i (by omega)];exact same4' i hi hne) (by rw[xZ _ (by omega)];exact lb4) (gZ.hid _ (by omega) hid24) 0 0 c ⟨rfl,rfl,rfl,hc⟩
  | ok f2=>
   obtain⟨w2,rfl,hw2,hparts2⟩:=res4;obtain⟨fk2,fnm2,fp2⟩:=f2;obtain⟨gZ,uZ,nZ,xZ⟩:=U4.box N4 (.own 0 [.int .i64 0,.int .i64 0,.nils]) (.own 0 [.int .i64 fk2,.int .i64 fnm2,w2]);obtain⟨hZ,ehZ⟩:∃hZ,hZ=(h4.push (.own 0 [.int .i64 0,.int .i64 0,.nils])).set h4.n (.own 0 [.int .i64 fk2,.int .i64 fnm2,w2]):=⟨_,rfl⟩
   have nhZ:hZ.n=h4.n+1:=by rw[ehZ,H.n_set,H.n_push]
   rw[<- ehZ] at uZ nZ xZ;have c2Z:zG (hZ.get (h.n+2))=some (0,[.int .i64 0,.int .i64 0,.nils]):=by rw[xZ _ (by omega)];exact c2
   have c3Z:zG (hZ.get (h.n+3))=some (0,[.int .i64 fnm,.int .i64 0]):=by rw[xZ _ (by omega)];exact c3
   have kZZ:(hZ.get h4.n).cells=some [.int .i64 fk2,.int .i64 fnm2,w2]:=by rw[ehZ,zn rfl];rfl
   have hid2Z:=gZ.hid _ (by omega) hid24;have hid3Z:=gZ.hid _ (by omega) hid34;have GGZ:=GG4.trans gZ;have sameZ:∀i,i<h.n->i≠lb->hZ.get i=h.get i:=λi hi hne=>by rw[xZ i (by omega)];exact same4' i hi hne
   have lbZ:hZ.get lb = .own 0 [pv,.int .i64 (l2:Int)]:=by rw[xZ _ (by omega)];exact lb4
   by_cases hf2:fk2=1
   case neg=>
    have hpe:=zhq (op:=op) hr1 rfl hr2 hf2;simp (disch:=first|omega|simp only[zD]<;>omega|assumption) only[↓zR,↓zRM,zR,zRM,reduceAdd,reduceMul,reduceToNat,↓f207_J4,↓f207_J21,↓f207_J32,↓f207_J31,↓f207_J20,↓f207_L18,<- ehZ,kZZ,eq_false hf2];refine TN.w209 (m+2) hZ _ _ ?_;intro u h5 ⟨e5,eu⟩;subst eu;have c25:zG (h5.get (h.n+2))=some (0,[.int .i64 0,.int .i64 0,.nils]):=by rw[e5.get _ (by omega)];exact c2Z
    obtain⟨g5,G5,U5,N5,_⟩:=uZ.grow nZ e5;have:=e5.n
    simp (disch:=first|omega|simp only[zD]<;>omega|assumption) only[↓zR,↓zRM,zR,zRM,reduceAdd,reduceMul,reduceToNat,↓f207_J4,↓f207_J21,↓f207_J32,↓f207_J31,↓f207_J20,↓f207_L18,c25];exact fin _ _ l2 (.ok zb5) hpe (GGZ.trans G5) U5 N5 (by omega) (λi hi hne=>by rw[e5.get i (by omega)];exact sameZ i hi hne) (by rw[e5.get _ (by omega)];exact lbZ) (G5.hid _ (by omega) hid2Z) 3 0 0 ⟨rfl,rfl⟩
   case pos=>
   subst hf2;have hpe:=primN_ok (op:=op) hr1 rfl hr2 rfl;obtain⟨hV,ehV⟩:∃hV,hV=hZ.set (h.n+3) (.own 0 [.int .i64 fnm,.int .i64 fnm2]):=⟨_,rfl⟩
   have uV:=uZ.set hid3Z (.own 0 [.int .i64 fnm,.int .i64 fnm2]);have nV:hV.n=hZ.n:=by rw[ehV,H.n_set]
   have xV:∀i,i≠h.n+3->hV.get i=hZ.get i:=λi hi=>by rw[ehV,ze (by omega)]
   rw[<- ehV] at uV;have c3V:(hV.get (h.n+3)).cells=some [.int .i64 fnm,.int .i64 fnm2]:=by rw[ehV,zn rfl];rfl
   have c2V:zG (hV.get (h.n+2))=some (0,[.int .i64 0,.int .i64 0,.nils]):=by rw[xV _ (by omega)];exact c2Z
   have tV:((h4.push (.own 0 [.int .i64 0,.int .i64 0,.nils])).set h4.n (.own 0 [.int .i64 1,.int .i64 fnm2,w2])).set (h.n+1+1+1) (.own 0 [.int .i64 fnm,.int .i64 fnm2])=hV:=by rw[ehV,ehZ]
   have ts1:([.int .i64 fnm,.int .i64 0]:List AV).set ((0:Int)+1).toNat (.int .i64 fnm2)=[.int .i64 fnm,.int .i64 fnm2]:=rfl;have ts2:([.int .i64 fnm,.int .i64 0]:List AV).set (0+((0:Int)+1).toNat*1) (.int .i64 fnm2)=[.int .i64 fnm,.int .i64 fnm2]:=rfl;have ts3:([.int .i64 fnm,.int .i64 fnm2]:List AV)[0]?=some (.int .i64 fnm):=rfl;have ts4:([.int .i64 fnm,.int .i64 fnm2]:List AV)[1]?=some (.int .i64 fnm2):=rfl;simp (disch:=first|omega|simp only[zD]<;>omega|assumption) only[↓zR,↓zRM,zR,zRM,reduceAdd,reduceMul,reduceToNat,↓f207_J4,↓f207_J21,↓f207_J32,↓f207_J31,↓f207_J20,↓f207_L18,kZZ,c3,tV,ts1,ts2,ts3,ts4,c3V];refine TN.w226 T (m+1) op fnm fnm2 ho hV _ _ λe=>?_
   have bz2:∀(x y:Int) (kc:VK β),zp [.int .i64 0,.int .i64 0,.nils] [(0,1),(1,1)] [.int .i64 x,.int .i64 y] (.mk kc)=kc (.agg [.int .i64 x,.int .i64 y,.nils]):=λx y kc=>rfl
   simp (disch:=first|omega|simp only[zD]<;>omega|assumption) only[↓zR,↓zRM,zR,zRM,reduceAdd,reduceMul,reduceToNat,↓f207_J4,↓f207_J21,↓f207_J32,↓f207_J31,↓f207_J20,↓f207_L18,c2V,↓bz2];exact fin _ _ l2 (.ok ⟨1,doV op fnm fnm2,[]⟩) hpe GGZ uV (by rw[nV];exact nZ) (by omega) (λi hi hne=>by rw[xV i (by omega)];exact sameZ i hi hne) (by rw[xV _ (by omega)];exact lbZ) hid2Z 1 _ 0 ⟨rfl,rfl⟩
end
end Am.F
end
