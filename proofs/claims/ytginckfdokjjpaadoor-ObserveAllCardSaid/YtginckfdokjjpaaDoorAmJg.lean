/- Texts that belong together: no condition. -/
import Derived.Test.YtginckfdokjjpaaDoorAmJf
import Derived.Lib.AtoiTie
set_option maxRecDepth 100000
set_option linter.unusedVariables false
set_option linter.unusedSimpArgs false
set_option linter.defProp false
section
namespace Am.F
open Go Am
def isD(b:UInt8):Prop:=48<=b.toNat/\b.toNat<=57
instance (b:UInt8):Decidable (isD b):=by unfold isD;infer_instance
theorem zbX:∀(xs ys:List UInt8) (a:Nat),Lib.decFrom a (xs++ys)=(Lib.decFrom a xs).bind λb=>Lib.decFrom b ys
 | [],ys,a=>rfl
 | x::xs,ys,a=>by
  simp only[List.cons_append,Lib.decFrom];cases Lib.digitVal x with
  | none=>rfl
  | some d=>exact zbX xs ys _
theorem zbt{n:Nat}(h:n<256):(UInt8.ofNat n).toNat=n:=by rw[UInt8.toNat_ofNat'];omega
theorem zjt{d:Nat}(h:d<10):Lib.digitVal (UInt8.ofNat (48+d))=some d:=by
 unfold Lib.digitVal;rw[zbt (by omega),if_pos (by omega)];congr 1;omega
theorem zju{d:Nat}(h:d<10):isD (UInt8.ofNat (48+d)):=by unfold isD;rw[zbt (by omega)];omega
theorem zbx(u:Nat):Lib.decFrom 0 (Lib.decDigits u)=some u:=by
 induction u using Nat.strongRecOn with
 | _ u ih=>
  rw[Lib.decDigits];split
  ·rename_i h;simp only[Lib.decFrom,zjt h,Nat.zero_mul,Nat.zero_add]
  ·rename_i h;rw[zbX,ih (u / 10) (by omega)];simp only[Option.bind_some,Lib.decFrom,zjt (Nat.mod_lt u (by omega:0<10))];congr 1;omega
theorem zeM{u v:Nat}(h:Lib.decDigits u=Lib.decDigits v):u=v:=by
 have:=zbx u;rw[h,zbx] at this;exact (Option.some.inj this).symm
theorem zS(u:Nat):∀b ∈ Lib.decDigits u,isD b:=by
 induction u using Nat.strongRecOn with
 | _ u ih=>
  rw[Lib.decDigits];split
  ·rename_i h;intro b hb;rw[List.mem_singleton] at hb;subst hb;exact zju h
  ·rename_i h;intro b hb;rcases List.mem_append.1 hb with hb|hb
   ·exact ih (u / 10) (by omega) b hb
   ·rw[List.mem_singleton] at hb;subst hb;exact zju (Nat.mod_lt u (by omega))
theorem zK(u:Nat):Lib.decDigits u≠[]:=by
 rw[Lib.decDigits];split
 ·simp
 ·simp
theorem zdM(u:Nat)(hu:0<u):bt (Lib.decDigits u) 0≠48:=by
 induction u using Nat.strongRecOn with
 | _ u ih=>
  rw[Lib.decDigits];split
  ·rename_i h;show (UInt8.ofNat (48+u)).toNat≠48;rw[zbt (by omega)];omega
  ·rename_i h;have h2:=ih (u / 10) (by omega) (by omega);have hne:=zK (u / 10);cases hd:Lib.decDigits (u / 10) with
   | nil=>exact absurd hd hne
   | cons b r=>rw[hd] at h2;exact h2
theorem za6:Lib.decDigits 0=[48]:=by rw[Lib.decDigits,dif_pos (by omega)];rfl
theorem zdL{u d:Nat}(hu:0<u)(hd:d<10):Lib.decDigits (10*u+d)=Lib.decDigits u++[UInt8.ofNat (48+d)]:=by
 rw[Lib.decDigits,dif_neg (by omega),show (10*u+d) / 10=u by omega,show (10*u+d)%10=d by omega]
theorem zd7(u:Nat):Lib.decNat (Lib.decDigits u)=some u:=by
 unfold Lib.decNat;have:=zK u
 cases hd:Lib.decDigits u with
 | nil=>exact absurd hd this
 | cons b r=>rw[<- hd];simp only[hd,List.isEmpty_cons];rw[<- hd];exact zbx u
theorem zfV{x:Int}(h0:-32768<=x)(h1:x<=32767):Lib.atoiAll (Lib.itoa x) = .ok x:=by
 have hl:(Lib.itoa x).length<=18:=by
  unfold Lib.itoa;split
  ·have:=z6 4 x.natAbs (by omega);simp only[List.length_cons];omega
  ·have:=z6 4 x.toNat (by omega);omega
 rw[Lib.atoiAll_short _ hl];unfold Lib.itoa;split
 ·rename_i hneg;simp only[Lib.atoi,beq_self_eq_true,if_true,zd7,Option.map_some,Lib.NumEnd.ofOption];congr 1;omega
 ·rename_i hneg;have hb:∀b ∈ Lib.decDigits x.toNat,isD b:=zS _;cases hd:Lib.decDigits x.toNat with
  | nil=>exact absurd hd (zK _)
  | cons b r=>
   rw[hd] at hb;obtain⟨h2,h3⟩:=hb b (List.mem_cons_self ..);have n45:(b==45)=false:=by
    rw[beq_eq_false_iff_ne];intro q;subst q;exact absurd h2 (by decide)
   have n43:(b==43)=false:=by
    rw[beq_eq_false_iff_ne];intro q;subst q;exact absurd h2 (by decide)
   simp only[Lib.atoi,n45,n43,Bool.false_eq_true,if_false];rw[<- hd,zd7];simp only[Option.map_some,Lib.NumEnd.ofOption];congr 1;omega
theorem zbc{x:Int}(h0:-32768<=x)(h1:x<=32767):numX (Lib.itoa x)=x:=by unfold numX;rw[zfV h0 h1]
theorem zg7{x:Int}(h0:-32768<=x)(h1:x<=32767):okX (Lib.itoa x)=true:=by unfold okX;rw[zfV h0 h1]
theorem zex(w:List UInt8):numP w=true↔∃x,-32768<=x/\x<=32767/\w=Lib.itoa x:=by
 unfold numP;rw[decide_eq_true_eq];constructor
 ·rintro ⟨_,⟨h1,h2⟩,h3⟩;exact⟨_,h1,h2,h3.symm⟩
 ·rintro ⟨x,h1,h2,rfl⟩;rw[zbc h1 h2];exact⟨zg7 h1 h2,⟨h1,h2⟩,rfl⟩
theorem zhu(most:Int)(hm:most<=32767)(w:List UInt8):digP most w=true↔∃x:Int,0<=x/\x<=most/\w=Lib.itoa x:=by
 unfold digP;rw[decide_eq_true_eq];constructor
 ·rintro ⟨_,⟨h1,h2⟩,h3⟩;exact⟨_,h1,h2,h3.symm⟩
 ·rintro ⟨x,h1,h2,rfl⟩;rw[zbc (by omega) (by omega)];exact⟨zg7 (by omega) (by omega),⟨h1,h2⟩,rfl⟩
theorem zcV(u:Nat):Lib.itoa (u:Int)=Lib.decDigits u:=by unfold Lib.itoa;rw[if_neg (by omega)];simp
theorem zft{u:Nat}(h:0<u):Lib.itoa (-(u:Int))=45::Lib.decDigits u:=by unfold Lib.itoa;rw[if_pos (by omega)];simp
theorem zfN(s:List UInt8):∀(f x k:Nat),6<f+k->(∀j,j<k->digC s j)->(∀j,j<(digF s f x k).2->digC s j)/\¬ digC s (digF s f x k).2
 | 0,x,k,h1,h2=>⟨h2,λh=>by
   have:=h.2.1
   have:(digF s 0 x k).2=k:=rfl
   omega⟩
 | f+1,x,k,h1,h2=>by
  unfold digF;split
  ·rename_i hc;exact zfN s f _ _ (by omega) λj hj=>by
    by_cases h:j=k
    ·rw[h];exact hc
    ·exact h2 j (by omega)
  ·rename_i hc;exact⟨h2,hc⟩
theorem take_bt{s:List UInt8}{k:Nat}(hk:k<s.length):s.take (k+1)=s.take k++[UInt8.ofNat (bt s k)]:=by
 rw[List.take_succ_eq_append_getElem hk];congr 2;simp[bt,List.getD_eq_getElem?_getD,hk]
theorem bt_take{s:List UInt8}{k:Nat}(hk:0<k):bt (s.take k) 0=bt s 0:=by
 cases s with
 | nil=>simp[bt]
 | cons b s=>cases k with|zero=>omega|succ k=>rfl
theorem zfM(s:List UInt8):∀(f x k:Nat),(k=0/\x=0\/0<k/\s.take k=Lib.decDigits x)->0<(digF s f x k).2->s.take (digF s f x k).2=Lib.decDigits (digF s f x k).1
 | 0,x,k,h,hp=>by
  rcases h with⟨rfl,rfl⟩|⟨_,h⟩
  ·exact absurd hp (Nat.lt_irrefl 0)
  ·exact h
 | f+1,x,k,h,hp=>by
  by_cases hc:digC s k
  ·have e:digF s (f+1) x k=digF s f (10*x+(bt s k-48)) (k+1):=by simp only[digF,if_pos hc]
   rw[e] at hp ⊢;refine zfM s f _ _ (.inr ⟨by omega,?_⟩) hp;obtain⟨h1,h2,h3,h4,h5⟩:=hc;rw[take_bt h1];rcases h with⟨rfl,rfl⟩|⟨hk,h⟩
   ·rw[Lib.decDigits,dif_pos (by omega)];simp only[List.take_zero,List.nil_append];congr 2;omega
   ·have hx:0<x:=by
     rcases Nat.eq_zero_or_pos x with h0|h0
     ·exfalso
      rw[h0,za6] at h;have:=bt_take (s:=s) hk
      rw[h] at this;rcases h5 with h5|h5
      ·omega
      ·exact h5 (this.symm.trans (by rfl))
     ·exact h0
    rw[zdL hx (by omega),h];congr 3;omega
  ·have e:digF s (f+1) x k=(x,k):=by simp only[digF,if_neg hc]
   rw[e] at hp ⊢;rcases h with⟨rfl,rfl⟩|⟨_,h⟩
   ·exact absurd hp (Nat.lt_irrefl 0)
   ·exact h
theorem zht{s:List UInt8}(h:0<(dig s).2):s.take (dig s).2=Lib.decDigits (dig s).1:=zfM s 7 0 0 (.inl ⟨rfl,rfl⟩) h
theorem zdt{s:List UInt8}(h:0<(dig s).2):s=Lib.decDigits (dig s).1++s.drop (dig s).2:=by rw[<- zht h,List.take_append_drop]
theorem zaz{a b:List UInt8}{i:Nat}(h:i<a.length):bt (a++b) i=bt a i:=by
 simp[bt,List.getD_eq_getElem?_getD,List.getElem?_append_left h]
theorem zdA{a b:List UInt8}:bt (a++b) a.length=bt b 0:=by
 simp[bt,List.getD_eq_getElem?_getD,List.getElem?_append_right (Nat.le_refl _)]
theorem bt_mem{a:List UInt8}{i:Nat}(h:i<a.length):∃b ∈ a,b.toNat=bt a i:=⟨a[i],List.getElem_mem h,by simp[bt,List.getD_eq_getElem?_getD,h]⟩
theorem zgF{u:Nat}(hu:u<1000000){r:List UInt8}(hr:r=[]\/¬ (48<=bt r 0/\bt r 0<=57)):dig (Lib.decDigits u++r)=(u,(Lib.decDigits u).length):=by
 have hl:(Lib.decDigits u).length<=6:=z6 5 u (by omega);have hne:=zK u;have hpos:0<(Lib.decDigits u).length:=List.length_pos_iff.2 hne;obtain⟨h1,h2⟩:=zfN (Lib.decDigits u++r) 7 0 0 (by omega) (λj hj=>by omega);have hk:(dig (Lib.decDigits u++r)).2=(Lib.decDigits u).length:=by
  show (digF (Lib.decDigits u++r) 7 0 0).2=_;rcases Nat.lt_trichotomy (digF (Lib.decDigits u++r) 7 0 0).2 (Lib.decDigits u).length with h|h|h
  ·exfalso
   apply h2;obtain⟨b,hb,hbv⟩:=bt_mem h;obtain⟨d1,d2⟩:=zS u b hb;refine⟨by rw[List.length_append];omega,by omega,by rw[zaz h];omega,by rw[zaz h];omega,?_⟩
   by_cases h0:(digF (Lib.decDigits u++r) 7 0 0).2=0
   ·exact .inl h0
   ·right;rw[zaz hpos];refine zdM u ?_;rcases Nat.eq_zero_or_pos u with hz|hz
    ·rw[hz,za6] at h;simp only[List.length_cons,List.length_nil] at h;rw[hz,za6] at h0;omega
    ·exact hz
  ·exact h
  ·exfalso
   obtain⟨c1,c2,c3,c4,_⟩:=h1 _ h;rw[zdA] at c3 c4;rcases hr with hr|hr
   ·rw[hr,List.append_nil] at c1;omega
   ·exact hr ⟨c3,c4⟩
 have hv:(dig (Lib.decDigits u++r)).1=u:=by
  have:=zht (s:=Lib.decDigits u++r) (by omega)
  rw[hk,List.take_left] at this;exact (zeM this).symm
 exact Prod.ext hv hk
end Am.F
end
section
namespace Am.F
open Go Am
def pL(t:List UInt8->Option Tm)(x:Int):Nat->List (List UInt8)->List UInt8->Option Tm
 | 0,_,_=>none
 | m+1,kids,r=>match t r with
  | none=>none
  | some u=>match u.rest with
   | []=>none
   | b::r2=>if b=41 then some ⟨2,x,kids++[r.take (r.length-u.rest.length)],r2⟩
    else if b=32 then pL t x m (kids++[r.take (r.length-u.rest.length)]) r2
    else none
def tL:Nat->List UInt8->Option Tm
 | 0,_=>none
 | f+1,l=>
  if l=[] then none
  else if bt l 0=95 then some ⟨0,0,[],l.drop 1⟩
  else if bt l 0=33 then some ⟨3,0,[],l.drop 1⟩
  else if bt l 0=64 then
   (if (dig (l.drop 1)).2=0\/99<(dig (l.drop 1)).1 then none
   else if [40] <+: (l.drop 1).drop (dig (l.drop 1)).2 then pL (tL f) (dig (l.drop 1)).1 3 [] (((l.drop 1).drop (dig (l.drop 1)).2).drop 1)
   else some ⟨2,(dig (l.drop 1)).1,[],(l.drop 1).drop (dig (l.drop 1)).2⟩)
  else if bt l 0=45 then
   (if (dig (l.drop 1)).2=0\/(dig (l.drop 1)).1=0\/32768<(dig (l.drop 1)).1 then none
   else some ⟨1,-(dig (l.drop 1)).1,[],(l.drop 1).drop (dig (l.drop 1)).2⟩)
  else if (dig l).2=0\/32767<(dig l).1 then none
  else some ⟨1,(dig l).1,[],l.drop (dig l).2⟩
theorem zbq{b:UInt8}{r:List UInt8}:[b] <+: r↔∃r2,r=b::r2:=by
 constructor
 ·rintro ⟨t,rfl⟩;exact⟨t,rfl⟩
 ·rintro ⟨t,rfl⟩;exact⟨t,rfl⟩
theorem zgL(s:List UInt8)(i j:Nat):bt (s.drop i) j=bt s (i+j):=by simp[bt,List.getD_eq_getElem?_getD]
theorem zcF(b:UInt8)(r:List UInt8):bt (b::r) 0=b.toNat:=rfl
def Suf(l r:List UInt8):Prop:=∃p,p≠[]/\l=p++r
theorem Suf.lt{l r:List UInt8}(h:Suf l r):r.length<l.length:=by
 obtain⟨p,hp,rfl⟩:=h;have:=List.length_pos_iff.2 hp
 rw[List.length_append];omega
theorem Suf.trans{l m r:List UInt8}(h:Suf l m)(h':Suf m r):Suf l r:=by
 obtain⟨p,hp,rfl⟩:=h;obtain⟨q,hq,rfl⟩:=h';exact⟨p++q,λe=>hp (List.append_eq_nil_iff.1 e).1,(List.append_assoc ..).symm⟩
theorem Suf.cons(b:UInt8)(r:List UInt8):Suf (b::r) r:=⟨[b],by simp,rfl⟩
theorem Suf.drop1{l:List UInt8}(h:l≠[]):Suf l (l.drop 1):=by
 cases l with
 | nil=>exact absurd rfl h
 | cons b r=>exact Suf.cons b r
theorem Suf.dropLe{l r:List UInt8}(h:Suf l r)(n:Nat):Suf l (r.drop n):=by
 obtain⟨p,hp,rfl⟩:=h;exact⟨p++r.take n,λe=>hp (List.append_eq_nil_iff.1 e).1,by rw[List.append_assoc,List.take_append_drop]⟩
theorem pL_suf{t:List UInt8->Option Tm}{x:Int}(ht:∀l u,t l=some u->Suf l u.rest):∀(m:Nat) {kids:List (List UInt8)} {r:List UInt8} {u:Tm},pL t x m kids r=some u->Suf r u.rest
 | 0,kids,r,u,h=>by cases h
 | m+1,kids,r,u,h=>by
  simp only[pL] at h;cases hv:t r with
  | none=>rw[hv] at h;cases h
  | some v=>
   rw[hv] at h;have h1:=ht _ _ hv;cases hr:v.rest with
   | nil=>simp only[hr] at h;cases h
   | cons b r2=>
    simp only[hr] at h;rw[hr] at h1;split at h
    ·cases h;exact h1.trans (Suf.cons b r2)
    split at h
    ·exact (h1.trans (Suf.cons b r2)).trans (pL_suf ht m h)
    ·cases h
theorem zik:∀(f:Nat) {l:List UInt8} {u:Tm},tL f l=some u->Suf l u.rest
 | 0,l,u,h=>by cases h
 | f+1,l,u,h=>by
  simp only[tL] at h;split at h
  ·cases h
  rename_i hl;have h1:=Suf.drop1 hl;split at h
  ·cases h;exact h1
  split at h
  ·cases h;exact h1
  split at h
  ·split at h
   ·cases h
   split at h
   ·exact ((h1.dropLe _).dropLe 1).trans (pL_suf (λl u=>zik f) 3 h)
   ·cases h;exact h1.dropLe _
  split at h
  ·split at h
   ·cases h
   ·cases h;exact h1.dropLe _
  split at h
  ·cases h
  ·rename_i hd;cases h;have hp:0<(dig l).2:=by omega
   refine⟨l.take (dig l).2,λe=>?_,(List.take_append_drop ..).symm⟩;have:=congrArg List.length e
   have hb:=zdu l;rw[List.length_take,List.length_nil] at this;omega
def toC(s:List UInt8)(u:Tm):Ct:=⟨u.kind,u.num,u.kids,s.length-u.rest.length⟩
theorem zgE{s r:List UInt8}{i:Nat}(h:Suf (s.drop i) r)(hi:i<=s.length):r=s.drop (s.length-r.length)/\i<s.length-r.length/\s.length-r.length<=s.length:=by
 obtain⟨p,hp,e⟩:=h;have hpl:=List.length_pos_iff.2 hp;have hl:=congrArg List.length e;rw[List.length_drop,List.length_append] at hl;have:s.length-r.length=i+p.length:=by omega
 refine⟨?_,by omega,by omega⟩;rw[this,<- List.drop_drop,e,List.drop_left]
theorem zg2{s:List UInt8}{rt:Nat->Option Ct}{t:List UInt8->Option Tm}(ht:∀l u,t l=some u->Suf l u.rest)(x:Int):∀(m:Nat) (kids:List (List UInt8)) (i:Nat),
  i<=s.length->(∀i,i<=s.length->rt i=(t (s.drop i)).map (toC s))->zc7 rt s x m kids i=(pL t x m kids (s.drop i)).map (toC s)
 | 0,kids,i,hi,hr=>rfl
 | m+1,kids,i,hi,hr=>by
  simp only[zc7,pL,hr i hi];cases hv:t (s.drop i) with
  | none=>rfl
  | some v=>
   have hs:=ht _ _ hv;obtain⟨d1,d2,d3⟩:=zgE hs hi;simp only[Option.map_some,toC];have hk:(s.take (s.length-v.rest.length)).drop i=(s.drop i).take ((s.drop i).length-v.rest.length):=by
    rw[List.drop_take,List.length_drop];congr 1;omega
   cases hvr:v.rest with
   | nil=>rw[hvr] at d1;simp only[List.length_nil,Nat.sub_zero,Nat.le_refl,if_true,Option.map_none]
   | cons b r2=>
    rw[hvr] at d1 d2 hk;have hlt:¬ s.length<=s.length-(b::r2).length:=by
     have:=hs.lt;rw[hvr,List.length_drop] at this;simp only[List.length_cons] at this ⊢;omega
    have hb:bt s (s.length-(b::r2).length)=b.toNat:=by
     have:=zgL s (s.length-(b::r2).length) 0
     rw[Nat.add_zero,<- d1] at this;exact this.symm
    rw[if_neg hlt,hb,hk];have e41:b.toNat=41↔b=41:=by rw[<- UInt8.toNat_inj];rfl
    have e32:b.toNat=32↔b=32:=by rw[<- UInt8.toNat_inj];rfl
    have hto:s.length-(b::r2).length+1=s.length-r2.length:=by
     have:=hs.lt;rw[hvr,List.length_drop] at this;simp only[List.length_cons] at this ⊢;omega
    have hdr:s.drop (s.length-r2.length)=r2:=by
     rw[<- hto,<- List.drop_drop,<- d1];rfl
    by_cases h1:b=41
    ·simp only[if_pos (e41.2 h1),if_pos h1,Option.map_some,hto,toC]
    ·simp only[if_neg (λq=>h1 (e41.1 q)),if_neg h1]
     by_cases h2:b=32
     ·simp only[if_pos (e32.2 h2),if_pos h2,hto];rw[zg2 ht x m _ _ (by omega) hr,hdr]
     ·simp only[if_neg (λq=>h2 (e32.1 q)),if_neg h2];rfl
theorem zg1(s:List UInt8):∀(f i:Nat),i<=s.length->zc6 s f i=(tL f (s.drop i)).map (toC s)
 | 0,i,hi=>rfl
 | f+1,i,hi=>by
  have ih:=zg1 s f;have hb:bt (s.drop i) 0=bt s i:=by rw[zgL,Nat.add_zero]
  have hd1:(s.drop i).drop 1=s.drop (i+1):=by rw[List.drop_drop]
  have hbd:=zdu (s.drop (i+1));have hbd':=zdu (s.drop i);rw[List.length_drop] at hbd hbd';simp only[zc6,tL,hb,hd1]
  by_cases c0:s.length<=i
  ·rw[if_pos c0,if_pos (List.drop_eq_nil_of_le c0)];rfl
  have c0':¬ s.drop i=[]:=λq=>by have:=congrArg List.length q;rw[List.length_drop,List.length_nil] at this;omega
  rw[if_neg c0,if_neg c0'];have hl1:s.length-(s.drop (i+1)).length=i+1:=by rw[List.length_drop];omega
  by_cases c1:bt s i=95
  ·rw[if_pos c1,if_pos c1,Option.map_some,toC,hl1]
  rw[if_neg c1,if_neg c1]
  by_cases c2:bt s i=33
  ·rw[if_pos c2,if_pos c2,Option.map_some,toC,hl1]
  rw[if_neg c2,if_neg c2]
  by_cases c3:bt s i=64
  ·rw[if_pos c3,if_pos c3]
   by_cases c4:(dig (s.drop (i+1))).2=0\/99<(dig (s.drop (i+1))).1
   ·rw[if_pos c4,if_pos c4];rfl
   rw[if_neg c4,if_neg c4];have hdd:(s.drop (i+1)).drop (dig (s.drop (i+1))).2=s.drop (i+1+(dig (s.drop (i+1))).2):=by rw[List.drop_drop]
   have hl2:s.length-(s.drop (i+1+(dig (s.drop (i+1))).2)).length=i+1+(dig (s.drop (i+1))).2:=by rw[List.length_drop];omega
   rw[hdd];have hpre:[40] <+: s.drop (i+1+(dig (s.drop (i+1))).2)↔i+1+(dig (s.drop (i+1))).2<s.length/\bt s (i+1+(dig (s.drop (i+1))).2)=40:=by
    have hb2:=zgL s (i+1+(dig (s.drop (i+1))).2) 0;simp only[Nat.add_zero] at hb2;rw[zbq];constructor
    ·rintro ⟨r2,e⟩
     have:=congrArg List.length e
     rw[List.length_drop,List.length_cons] at this;rw[e] at hb2;exact⟨by omega,hb2.symm⟩
    ·rintro ⟨h1,h2⟩
     cases hx:s.drop (i+1+(dig (s.drop (i+1))).2) with
     | nil=>have:=congrArg List.length hx;rw[List.length_drop,List.length_nil] at this;omega
     | cons b r2=>
      rw[hx,h2,zcF] at hb2;exact⟨r2,by rw[show b=40 from UInt8.toNat_inj.1 hb2]⟩
   by_cases c5:i+1+(dig (s.drop (i+1))).2<s.length/\bt s (i+1+(dig (s.drop (i+1))).2)=40
   ·rw[if_pos c5,if_pos (hpre.2 c5),zg2 (λl u=>zik f) _ 3 [] _ (by omega) (λj hj=>ih j hj),List.drop_drop]
   ·rw[if_neg c5,if_neg (λq=>c5 (hpre.1 q)),Option.map_some,toC,hl2]
  rw[if_neg c3,if_neg c3]
  by_cases c4:bt s i=45
  ·rw[if_pos c4,if_pos c4]
   by_cases c5:(dig (s.drop (i+1))).2=0\/(dig (s.drop (i+1))).1=0\/32768<(dig (s.drop (i+1))).1
   ·rw[if_pos c5,if_pos c5];rfl
   ·rw[if_neg c5,if_neg c5,Option.map_some,toC,List.drop_drop];congr 2;rw[List.length_drop];omega
  rw[if_neg c4,if_neg c4]
  by_cases c5:(dig (s.drop i)).2=0\/32767<(dig (s.drop i)).1
  ·rw[if_pos c5,if_pos c5];rfl
  ·rw[if_neg c5,if_neg c5,Option.map_some,toC,List.drop_drop];congr 2;rw[List.length_drop];omega
def Stp(r:List UInt8):Prop:=wA r=[]
theorem Stp.nil:Stp []:=rfl
theorem zef{b:UInt8}{r:List UInt8}(h:stop b=true):Stp (b::r):=by simp[Stp,wA,h]
theorem stp_wB(s:List UInt8):Stp (wB s):=by
 unfold Stp wA wB;cases h:s.dropWhile λb=>!stop b with
 | nil=>rfl
 | cons b r=>
  have:=List.head_dropWhile_not (λb=>!stop b) (l:=s) (by rw[h];simp)
  simp only[h,List.head_cons] at this;simp[this]
theorem zgU{r:List UInt8}(h:Stp r):r=[]\/∃b r2,r=b::r2/\stop b=true:=by
 cases r with
 | nil=>exact .inl rfl
 | cons b r2=>
  refine .inr ⟨b,r2,rfl,?_⟩;unfold Stp wA at h;cases hb:stop b with
  | true=>rfl
  | false=>simp[hb] at h
theorem zcU{b:UInt8}(h:isD b):stop b=false:=by
 obtain⟨h1,h2⟩:=h;unfold stop;have a:∀c:UInt8,c.toNat<48->(b==c)=false:=λc hc=>by
  rw[beq_eq_false_iff_ne];intro q;subst q;omega
 rw[a 32 (by decide),a 40 (by decide),a 41 (by decide)];rfl
theorem stp_nd{r:List UInt8}(h:Stp r):r=[]\/¬ (48<=bt r 0/\bt r 0<=57):=by
 rcases zgU h with h|⟨b,r2,rfl,hb⟩
 ·exact .inl h
 ·right;rw[zcF];intro q;rw[zcU q] at hb;cases hb
theorem zee{w r:List UInt8}(hw:∀b ∈ w,stop b=false)(hr:Stp r):wA (w++r)=w/\wB (w++r)=r:=by
 induction w with
 | nil=>
  refine⟨hr,?_⟩;rcases zgU hr with rfl|⟨b,r2,rfl,hb⟩
  ·rfl
  ·simp[wB,hb]
 | cons b w ih=>
  obtain⟨h1,h2⟩:=ih λc hc=>hw c (List.mem_cons_of_mem _ hc)
  have hb:=hw b (List.mem_cons_self ..);refine⟨?_,?_⟩
  ·show (b::(w++r)).takeWhile _=_;rw[List.takeWhile_cons_of_pos (by simp[hb])];exact congrArg (b::·) h1
  ·show (b::(w++r)).dropWhile _=_;rw[List.dropWhile_cons_of_pos (by simp[hb])];exact h2
theorem zfv(x:Int):∃b r,Lib.itoa x=b::r/\(b=45\/isD b):=by
 unfold Lib.itoa;split
 ·exact⟨45,_,rfl,.inl rfl⟩
 ·cases hd:Lib.decDigits x.toNat with
  | nil=>exact absurd hd (zK _)
  | cons b r=>exact⟨b,r,rfl,.inr (zS _ b (by rw[hd];exact List.mem_cons_self ..))⟩
theorem zja{x:Int}:∀b ∈ Lib.itoa x,stop b=false:=by
 intro b hb;unfold Lib.itoa at hb;split at hb
 ·rcases List.mem_cons.1 hb with rfl|hb
  ·decide
  ·exact zcU (zS _ b hb)
 ·exact zcU (zS _ b hb)
theorem zi2{b:UInt8}{r:List UInt8}(hb:b≠45/\¬ isD b):numP (b::r)=false:=by
 rw[<- Bool.not_eq_true,zex]
 rintro ⟨x,_,_,e⟩
 obtain⟨c,r',e',hc⟩:=zfv x;rw[e'] at e;injection e with e1 e2
 subst e1;rcases hc with hc|hc
 ·exact hb.1 hc
 ·exact hb.2 hc
theorem tL_num{f:Nat}{x:Int}(h0:-32768<=x)(h1:x<=32767){r:List UInt8}(hr:r=[]\/¬ (48<=bt r 0/\bt r 0<=57)):tL (f+1) (Lib.itoa x++r)=some ⟨1,x,[],r⟩:=by
 unfold tL
 by_cases hx:x<0
 ·obtain⟨u,rfl⟩:∃u:Nat,x = -(u:Int):=⟨x.natAbs,by omega⟩
  rw[zft (by omega)];simp only[List.cons_append,List.drop_succ_cons,List.drop_zero,zgF (show u<1000000 by omega) hr,zcF];have hp:=List.length_pos_iff.2 (zK u);rw[if_neg (by simp),if_neg (by decide),if_neg (by decide),if_neg (by decide),if_pos (by decide),if_neg (by omega),List.drop_left]
 ·obtain⟨u,rfl⟩:∃u:Nat,x=(u:Int):=⟨x.toNat,by omega⟩
  rw[zcV];have hp:=List.length_pos_iff.2 (zK u);have hh:isD (UInt8.ofNat (bt (Lib.decDigits u++r) 0))/\bt (Lib.decDigits u++r) 0<256:=by
   obtain⟨b,hb,hv⟩:=bt_mem hp;rw[zaz hp,<- hv];exact⟨by simpa using zS u b hb,b.toNat_lt⟩
  obtain⟨⟨h2,h3⟩,h4⟩:=hh;rw[zbt h4] at h2 h3;simp only[zgF (show u<1000000 by omega) hr];rw[if_neg (by simp[zK]),if_neg (by omega),if_neg (by omega),if_neg (by omega),if_neg (by omega),if_neg (by omega),List.drop_left]
theorem tL_hole{f:Nat}(r:List UInt8):tL (f+1) (95::r)=some ⟨0,0,[],r⟩:=by
 unfold tL;rw[if_neg (by simp),if_pos (by rfl)];rfl
theorem tL_fail{f:Nat}(r:List UInt8):tL (f+1) (33::r)=some ⟨3,0,[],r⟩:=by
 unfold tL;rw[if_neg (by simp),if_neg (by rw[zcF];decide),if_pos (by rfl)];rfl
theorem tL_tag{f:Nat}{u:Nat}(hu:u<=99){r:List UInt8}(hr:r=[]\/¬ (48<=bt r 0/\bt r 0<=57)):tL (f+1) (64::(Lib.decDigits u++r))=if [40] <+: r then pL (tL f) u 3 [] (r.drop 1) else some ⟨2,u,[],r⟩:=by
 conv=>lhs;unfold tL
 have hp:=List.length_pos_iff.2 (zK u);simp only[List.drop_succ_cons,List.drop_zero,zgF (show u<1000000 by omega) hr,zcF,List.drop_left];rw[if_neg (by simp),if_neg (by decide),if_neg (by decide),if_pos (by decide),if_neg (by omega)]
theorem tL_forms{f:Nat}{l:List UInt8}{v:Tm}(h:tL (f+1) l=some v):(∃r,l=95::r/\v=⟨0,0,[],r⟩)\/(∃r,l=33::r/\v=⟨3,0,[],r⟩) \/
  (∃x r,-32768<=x/\x<=32767/\l=Lib.itoa x++r/\v=⟨1,x,[],r⟩)\/(∃(u:Nat) (r:List UInt8),u<=99/\l=64::(Lib.decDigits u++r)/\(([40] <+: r/\pL (tL f) u 3 [] (r.drop 1)=some v)\/(¬ [40] <+: r/\v=⟨2,u,[],r⟩))):=by
 unfold tL at h;split at h
 ·cases h
 rename_i hl;obtain⟨b,r,rfl⟩:∃b r,l=b::r:=by
  cases l with
  | nil=>exact absurd rfl hl
  | cons b r=>exact⟨b,r,rfl⟩
 have hb:∀c:UInt8,bt (b::r) 0=c.toNat->b=c:=λc q=>UInt8.toNat_inj.1 (by rw[zcF] at q;exact q)
 simp only[List.drop_succ_cons,List.drop_zero] at h;split at h
 ·rename_i q;rw[hb 95 q] at *;exact .inl ⟨r,rfl,(Option.some.inj h).symm⟩
 split at h
 ·rename_i q;rw[hb 33 q] at *;exact .inr (.inl ⟨r,rfl,(Option.some.inj h).symm⟩)
 split at h
 ·rename_i q;rw[hb 64 q];split at h
  ·cases h
  rename_i hd;have hs:=zdt (s:=r) (by omega);refine .inr (.inr (.inr ⟨(dig r).1,r.drop (dig r).2,by omega,by rw[<- hs],?_⟩));split at h
  ·rename_i hp;exact .inl ⟨hp,h⟩
  ·rename_i hp;exact .inr ⟨hp,(Option.some.inj h).symm⟩
 split at h
 ·rename_i q;rw[hb 45 q];split at h
  ·cases h
  rename_i hd;have hs:=zdt (s:=r) (by omega);refine .inr (.inr (.inl ⟨-((dig r).1:Int),r.drop (dig r).2,by omega,by omega,?_,(Option.some.inj h).symm⟩));rw[zft (by omega),List.cons_append,<- hs]
 split at h
 ·cases h
 ·rename_i hd;have hs:=zdt (s:=b::r) (by omega);refine .inr (.inr (.inl ⟨((dig (b::r)).1:Int),(b::r).drop (dig (b::r)).2,by omega,by omega,?_,(Option.some.inj h).symm⟩));rw[zcV,<- hs]
end Am.F
end
section
namespace Am.F
open Go Am
theorem zii{w:List UInt8}(h:tagP w=true):∃u:Nat,u<=99/\w=64::Lib.decDigits u/\tagX w=u:=by
 unfold tagP at h;rw[Bool.and_eq_true,decide_eq_true_eq,zbq] at h;obtain⟨⟨w2,rfl⟩,h2⟩:=h;rw[List.drop_succ_cons,List.drop_zero,zhu 99 (by omega)] at h2;obtain⟨x,h3,h4,rfl⟩:=h2;obtain⟨u,rfl⟩:∃u:Nat,x=(u:Int):=⟨x.toNat,by omega⟩
 refine⟨u,by omega,by rw[zcV],?_⟩;unfold tagX;rw[if_pos ⟨_,rfl⟩,List.drop_succ_cons,List.drop_zero,zbc (by omega) (by omega)]
theorem tagP_of{u:Nat}(hu:u<=99):tagP (64::Lib.decDigits u)=true/\tagX (64::Lib.decDigits u)=u:=by
 unfold tagP tagX;rw[if_pos ⟨_,rfl⟩,List.drop_succ_cons,List.drop_zero,<- zcV,zbc (by omega) (by omega)];refine⟨?_,rfl⟩;rw[Bool.and_eq_true,decide_eq_true_eq,zhu 99 (by omega)];exact⟨⟨_,rfl⟩,u,by omega,by omega,rfl⟩
theorem K1{c t:List UInt8->Option Tm}(hc:∀s u,c s=some u->t s=some u){x:Int}:∀(m:Nat) {kids:List (List UInt8)} {r:List UInt8} {u:Tm},cutK c x (m+1) kids r=some u->pL t x (m+1) kids (r.drop 1)=some u:=by
 intro m
 induction m with
 | zero=>
  intro kids r u h;simp only[cutK] at h;cases hv:c (r.drop 1) with
  | none=>rw[hv] at h;cases h
  | some v=>
   rw[hv] at h;simp only[pL,hc _ _ hv]
   by_cases h32:[32] <+: v.rest
   ·simp only[if_pos h32,zbZ] at h;obtain⟨r2,e⟩:=zbq.1 h32;rw[if_neg (λq=>by obtain⟨r3,e3⟩:=zbq.1 q;rw[e] at e3;injection e3 with e4;exact absurd e4 (by decide))] at h;cases h
   ·simp only[if_neg h32,zbZ] at h;split at h
    ·rename_i h41;obtain⟨r2,e⟩:=zbq.1 h41;cases h;simp only[e,if_true,List.drop_succ_cons,List.drop_zero]
    ·cases h
 | succ m ih=>
  intro kids r u h;rw[cutK] at h;cases hv:c (r.drop 1) with
  | none=>rw[hv] at h;cases h
  | some v=>
   rw[hv] at h;rw[pL,hc _ _ hv]
   by_cases h32:[32] <+: v.rest
   ·simp only[if_pos h32] at h;obtain⟨r2,e⟩:=zbq.1 h32;have:=ih h
    simp only[e,List.drop_succ_cons,List.drop_zero] at this ⊢;rw[if_neg (by decide)];simpa using this
   ·simp only[if_neg h32,zbZ] at h;split at h
    ·rename_i h41;obtain⟨r2,e⟩:=zbq.1 h41;cases h;simp only[e,if_true,List.drop_succ_cons,List.drop_zero]
    ·cases h
theorem K2{c t:List UInt8->Option Tm}(hc:∀s u,t s=some u->Stp u.rest->c s=some u){x:Int}:∀(m:Nat) {kids:List (List UInt8)} {r:List UInt8} {u:Tm},pL t x m kids (r.drop 1)=some u->cutK c x m kids r=some u
 | 0,kids,r,u,h=>by cases h
 | m+1,kids,r,u,h=>by
  rw[pL] at h;cases hv:t (r.drop 1) with
  | none=>rw[hv] at h;cases h
  | some v=>
   rw[hv] at h;cases hr:v.rest with
   | nil=>simp only[hr] at h;cases h
   | cons b r2=>
    simp only[hr] at h;split at h
    ·rename_i hb;subst hb;have:=hc _ _ hv (by rw[hr];exact zef (by decide))
     rw[cutK,this];simp only[hr,zbZ];rw[if_neg (λq=>by obtain⟨r3,e3⟩:=zbq.1 q;injection e3 with e4;exact absurd e4 (by decide)),if_pos ⟨_,rfl⟩];exact h
    split at h
    ·rename_i hb;subst hb;have:=hc _ _ hv (by rw[hr];exact zef (by decide))
     rw[cutK,this];simp only[hr];rw[if_pos ⟨_,rfl⟩];exact K2 hc m (r:=32::r2) h
    ·cases h
theorem zjw:∀(f:Nat) {s:List UInt8} {u:Tm},cutP f s=some u->tL f s=some u
 | 0,s,u,h=>by cases h
 | f+1,s,u,h=>by
  have hs:=zif s;have hst:=stp_wB s;rw[cutP] at h;split at h
  ·rename_i hw;cases h;have:=tL_hole (f:=f) (wB s)
   rw[hw,List.singleton_append] at hs;rw[hs] at this;exact this
  split at h
  ·rename_i hw;cases h;have:=tL_fail (f:=f) (wB s)
   rw[hw,List.singleton_append] at hs;rw[hs] at this;exact this
  split at h
  ·rename_i hn;cases h;obtain⟨x,h0,h1,e⟩:=(zex _).1 hn;have:=tL_num (f:=f) h0 h1 (stp_nd hst)
   rw[<- e,hs] at this;rw[this,e,zbc h0 h1]
  split at h
  ·rename_i ht;obtain⟨v,hv,e,ex⟩:=zii ht;have hs':s=64::(Lib.decDigits v++wB s):=by rw[<- List.cons_append,<- e,hs]
   rw[ex] at h;rw[hs',tL_tag hv (stp_nd hst)];split at h
   ·rename_i hp;rw[if_pos hp];exact K1 (λs u=>zjw f) 2 h
   ·rename_i hp;rw[if_neg hp];exact h
  ·cases h
theorem zil:∀(f:Nat) {s:List UInt8} {u:Tm},tL f s=some u->Stp u.rest->cutP f s=some u
 | 0,s,u,h,_=>by cases h
 | f+1,s,u,h,hst=>by
  rcases tL_forms h with⟨r,rfl,rfl⟩|⟨r,rfl,rfl⟩|⟨x,r,h0,h1,rfl,rfl⟩|⟨v,r,hv,rfl,hh⟩
  ·obtain⟨a,b⟩:=zee (w:=[95]) (r:=r) (by intro b hb;rw[List.mem_singleton] at hb;subst hb;decide) hst;rw[List.singleton_append] at a b;rw[cutP,if_pos a,b]
  ·obtain⟨a,b⟩:=zee (w:=[33]) (r:=r) (by intro b hb;rw[List.mem_singleton] at hb;subst hb;decide) hst;rw[List.singleton_append] at a b;rw[cutP,a,if_neg (by decide),if_pos rfl,b]
  ·obtain⟨a,b⟩:=zee (w:=Lib.itoa x) (r:=r) zja hst;obtain⟨c,r',e,hc⟩:=zfv x;have hn:numP (Lib.itoa x)=true:=(zex _).2 ⟨x,h0,h1,rfl⟩;rw[cutP,a,if_neg (λq=>by rw[e] at q;injection q with q1;subst q1;rcases hc with hc|hc<;>revert hc<;>decide),if_neg (λq=>by rw[e] at q;injection q with q1;subst q1;rcases hc with hc|hc<;>revert hc<;>decide),if_pos hn,b,zbc h0 h1]
  ·have hr:Stp r:=by
    rcases hh with⟨hp,_⟩|⟨_,rfl⟩
    ·obtain⟨r2,rfl⟩:=zbq.1 hp;exact zef (by decide)
    ·exact hst
   obtain⟨a,b⟩:=zee (w:=64::Lib.decDigits v) (r:=r) (by
    intro b hb;rcases List.mem_cons.1 hb with rfl|hb
    ·decide
    ·exact zcU (zS _ b hb)) hr
   rw[List.cons_append] at a b;obtain⟨t1,t2⟩:=tagP_of hv;rw[cutP,a,if_neg (λq=>by injection q with q1;exact absurd q1 (by decide)),if_neg (λq=>by injection q with q1;exact absurd q1 (by decide)),
    if_neg (by rw[zi2 ⟨by decide,by decide⟩];decide),if_pos t1,b,t2]
   rcases hh with⟨hp,hq⟩|⟨hp,rfl⟩
   ·rw[if_pos hp];exact K2 (λs u=>zil f) 3 hq
   ·rw[if_neg hp]
def ks(kids:List (List UInt8))(r:List UInt8):List UInt8:=Lib.join kids [32]++41::r
def outT(u:Tm):List UInt8:=if u.kind=0 then [95] else if u.kind=3 then [33] else if u.kind=1 then Lib.itoa u.num else conP u.num u.kids
structure Good (f:Nat) (l:List UInt8) (u:Tm):Prop where
 text:l=outT u++u.rest
 form:(u.kind=0/\u.num=0/\u.kids=[])\/(u.kind=3/\u.num=0/\u.kids=[])\/(u.kind=1/\-32768<=u.num/\u.num<=32767/\u.kids=[])\/(u.kind=2/\0<=u.num/\u.num<=99/\u.kids.length<=3)
 kids:∀y ∈ u.kids,∃v,tL f y=some v/\v.rest=[]
def tP(s:List UInt8):Option Tm:=if s.length<=1024 then (match tL (s.length+1) s with
 | some t=>if t.rest=[] then some t else none
 | none=>none) else none
theorem zgT(s:List UInt8):termP s=tP s:=by
 unfold termP tP;split
 ·cases hc:cutP (s.length+1) s with
  | some t=>rw[zjw _ hc]
  | none=>
   cases ht:tL (s.length+1) s with
   | none=>rfl
   | some t=>
    by_cases h:t.rest=[]
    ·rw[zil _ ht (by rw[h];exact Stp.nil)] at hc;cases hc
    ·simp only[if_neg h]
 ·rfl
theorem refP_tP(s:List UInt8):refP s=(tP s).map (toC s):=by
 unfold refP tP;split
 ·rw[zg1 s _ 0 (by omega),List.drop_zero];cases ht:tL (s.length+1) s with
  | none=>rfl
  | some t=>
   simp only[Option.map_some,toC];have hs:=(zik _ ht).lt
   by_cases h:t.rest=[]
   ·rw[if_pos h,h,if_pos (by simp)];simp[toC,h]
   ·have:=List.length_pos_iff.2 h
    rw[if_neg h,if_neg (by omega)];rfl
 ·rfl
theorem zfn(s:List UInt8):(refP s).isSome=mayP s:=by
 unfold mayP;rw[refP_tP,zgT];cases tP s<;>rfl
theorem tP_some{s:List UInt8}{u:Tm}(h:tP s=some u):s.length<=1024/\tL (s.length+1) s=some u/\u.rest=[]:=by
 unfold tP at h;split at h
 ·rename_i hl;cases ht:tL (s.length+1) s with
  | none=>rw[ht] at h;cases h
  | some t=>
   rw[ht] at h;simp only at h;split at h
   ·rename_i hr;cases h;exact⟨hl,rfl,hr⟩
   ·cases h
 ·cases h
theorem mayP_iff(s:List UInt8):mayP s=true↔∃u,tP s=some u:=by
 unfold mayP;rw[zgT];cases tP s<;>simp
end Am.F
end
section
namespace Am.F
open Go Am
section
variable {β:Type} {t:ETree}
end
end Am.F
end
