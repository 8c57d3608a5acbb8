/- Texts that belong together: no condition. -/
import Derived.Test.YtlidemdbimpkaaaDoorAmJf
import Derived.Lib.AtoiTie
set_option maxRecDepth 100000
set_option linter.unusedVariables false
set_option linter.unusedSimpArgs false
set_option linter.defProp false
section
namespace Am.F
open Go Am
def isD(b:UInt8):Prop:=48<=b.toNat/\b.toNat<=57
instance (b:UInt8):Decidable (isD b):=by unfold isD;infer_instance
theorem zcF:∀(xs ys:List UInt8) (a:Nat),Lib.decFrom a (xs++ys)=(Lib.decFrom a xs).bind λb=>Lib.decFrom b ys
 | [],ys,a=>rfl
 | x::xs,ys,a=>by
  simp only[List.cons_append,Lib.decFrom];cases Lib.digitVal x with
  | none=>rfl
  | some d=>exact zcF xs ys _
theorem zb9{n:Nat}(h:n<256):(UInt8.ofNat n).toNat=n:=by rw[UInt8.toNat_ofNat'];omega
theorem zkN{d:Nat}(h:d<10):Lib.digitVal (UInt8.ofNat (48+d))=some d:=by
 unfold Lib.digitVal;rw[zb9 (by omega),if_pos (by omega)];congr 1;omega
theorem zkO{d:Nat}(h:d<10):isD (UInt8.ofNat (48+d)):=by unfold isD;rw[zb9 (by omega)];omega
theorem zcd(u:Nat):Lib.decFrom 0 (Lib.decDigits u)=some u:=by
 induction u using Nat.strongRecOn with
 | _ u ih=>
  rw[Lib.decDigits];split
  ·rename_i h;simp only[Lib.decFrom,zkN h,Nat.zero_mul,Nat.zero_add]
  ·rename_i h;rw[zcF,ih (u / 10) (by omega)];simp only[Option.bind_some,Lib.decFrom,zkN (Nat.mod_lt u (by omega:0<10))];congr 1;omega
theorem zfx{u v:Nat}(h:Lib.decDigits u=Lib.decDigits v):u=v:=by
 have:=zcd u;rw[h,zcd] at this;exact (Option.some.inj this).symm
theorem zam(u:Nat):∀b ∈ Lib.decDigits u,isD b:=by
 induction u using Nat.strongRecOn with
 | _ u ih=>
  rw[Lib.decDigits];split
  ·rename_i h;intro b hb;rw[List.mem_singleton] at hb;subst hb;exact zkO h
  ·rename_i h;intro b hb;rcases List.mem_append.1 hb with hb|hb
   ·exact ih (u / 10) (by omega) b hb
   ·rw[List.mem_singleton] at hb;subst hb;exact zkO (Nat.mod_lt u (by omega))
theorem zac(u:Nat):Lib.decDigits u≠[]:=by
 rw[Lib.decDigits];split
 ·simp
 ·simp
theorem zeE(u:Nat)(hu:0<u):bt (Lib.decDigits u) 0≠48:=by
 induction u using Nat.strongRecOn with
 | _ u ih=>
  rw[Lib.decDigits];split
  ·rename_i h;show (UInt8.ofNat (48+u)).toNat≠48;rw[zb9 (by omega)];omega
  ·rename_i h;have h2:=ih (u / 10) (by omega) (by omega);have hne:=zac (u / 10);cases hd:Lib.decDigits (u / 10) with
   | nil=>exact absurd hd hne
   | cons b r=>rw[hd] at h2;exact h2
theorem zbN:Lib.decDigits 0=[48]:=by rw[Lib.decDigits,dif_pos (by omega)];rfl
theorem zeD{u d:Nat}(hu:0<u)(hd:d<10):Lib.decDigits (10*u+d)=Lib.decDigits u++[UInt8.ofNat (48+d)]:=by
 rw[Lib.decDigits,dif_neg (by omega),show (10*u+d) / 10=u by omega,show (10*u+d)%10=d by omega]
theorem zeS(u:Nat):Lib.decNat (Lib.decDigits u)=some u:=by
 unfold Lib.decNat;have:=zac u
 cases hd:Lib.decDigits u with
 | nil=>exact absurd hd this
 | cons b r=>rw[<- hd];simp only[hd,List.isEmpty_cons];rw[<- hd];exact zcd u
theorem zgH{x:Int}(h0:-32768<=x)(h1:x<=32767):Lib.atoiAll (Lib.itoa x) = .ok x:=by
 have hl:(Lib.itoa x).length<=18:=by
  unfold Lib.itoa;split
  ·have:=zaw 4 x.natAbs (by omega);simp only[List.length_cons];omega
  ·have:=zaw 4 x.toNat (by omega);omega
 rw[Lib.atoiAll_short _ hl];unfold Lib.itoa;split
 ·rename_i hneg;simp only[Lib.atoi,beq_self_eq_true,if_true,zeS,Option.map_some,Lib.NumEnd.ofOption];congr 1;omega
 ·rename_i hneg;have hb:∀b ∈ Lib.decDigits x.toNat,isD b:=zam _;cases hd:Lib.decDigits x.toNat with
  | nil=>exact absurd hd (zac _)
  | cons b r=>
   rw[hd] at hb;obtain⟨h2,h3⟩:=hb b (List.mem_cons_self ..);have n45:(b==45)=false:=by
    rw[beq_eq_false_iff_ne];intro q;subst q;exact absurd h2 (by decide)
   have n43:(b==43)=false:=by
    rw[beq_eq_false_iff_ne];intro q;subst q;exact absurd h2 (by decide)
   simp only[Lib.atoi,n45,n43,Bool.false_eq_true,if_false];rw[<- hd,zeS];simp only[Option.map_some,Lib.NumEnd.ofOption];congr 1;omega
theorem zbS{x:Int}(h0:-32768<=x)(h1:x<=32767):numX (Lib.itoa x)=x:=by unfold numX;rw[zgH h0 h1]
theorem zh4{x:Int}(h0:-32768<=x)(h1:x<=32767):okX (Lib.itoa x)=true:=by unfold okX;rw[zgH h0 h1]
theorem zfg(w:List UInt8):numP w=true↔∃x,-32768<=x/\x<=32767/\w=Lib.itoa x:=by
 unfold numP;rw[decide_eq_true_eq];constructor
 ·rintro ⟨_,⟨h1,h2⟩,h3⟩;exact⟨_,h1,h2,h3.symm⟩
 ·rintro ⟨x,h1,h2,rfl⟩;rw[zbS h1 h2];exact⟨zh4 h1 h2,⟨h1,h2⟩,rfl⟩
theorem zix(most:Int)(hm:most<=32767)(w:List UInt8):digP most w=true↔∃x:Int,0<=x/\x<=most/\w=Lib.itoa x:=by
 unfold digP;rw[decide_eq_true_eq];constructor
 ·rintro ⟨_,⟨h1,h2⟩,h3⟩;exact⟨_,h1,h2,h3.symm⟩
 ·rintro ⟨x,h1,h2,rfl⟩;rw[zbS (by omega) (by omega)];exact⟨zh4 (by omega) (by omega),⟨h1,h2⟩,rfl⟩
theorem zcz(u:Nat):Lib.itoa (u:Int)=Lib.decDigits u:=by unfold Lib.itoa;rw[if_neg (by omega)];simp
theorem zgf{u:Nat}(h:0<u):Lib.itoa (-(u:Int))=45::Lib.decDigits u:=by unfold Lib.itoa;rw[if_pos (by omega)];simp
theorem zgA(s:List UInt8):∀(f x k:Nat),6<f+k->(∀j,j<k->digC s j)->(∀j,j<(digF s f x k).2->digC s j)/\¬ digC s (digF s f x k).2
 | 0,x,k,h1,h2=>⟨h2,λh=>by
   have:=h.2.1
   have:(digF s 0 x k).2=k:=rfl
   omega⟩
 | f+1,x,k,h1,h2=>by
  unfold digF;split
  ·rename_i hc;exact zgA s f _ _ (by omega) λj hj=>by
    by_cases h:j=k
    ·rw[h];exact hc
    ·exact h2 j (by omega)
  ·rename_i hc;exact⟨h2,hc⟩
theorem take_bt{s:List UInt8}{k:Nat}(hk:k<s.length):s.take (k+1)=s.take k++[UInt8.ofNat (bt s k)]:=by
 rw[List.take_succ_eq_append_getElem hk];congr 2;simp[bt,List.getD_eq_getElem?_getD,hk]
theorem bt_take{s:List UInt8}{k:Nat}(hk:0<k):bt (s.take k) 0=bt s 0:=by
 cases s with
 | nil=>simp[bt]
 | cons b s=>cases k with|zero=>omega|succ k=>rfl
theorem zgz(s:List UInt8):∀(f x k:Nat),(k=0/\x=0\/0<k/\s.take k=Lib.decDigits x)->0<(digF s f x k).2->s.take (digF s f x k).2=Lib.decDigits (digF s f x k).1
 | 0,x,k,h,hp=>by
  rcases h with⟨rfl,rfl⟩|⟨_,h⟩
  ·exact absurd hp (Nat.lt_irrefl 0)
  ·exact h
 | f+1,x,k,h,hp=>by
  by_cases hc:digC s k
  ·have e:digF s (f+1) x k=digF s f (10*x+(bt s k-48)) (k+1):=by simp only[digF,if_pos hc]
   rw[e] at hp ⊢;refine zgz s f _ _ (.inr ⟨by omega,?_⟩) hp;obtain⟨h1,h2,h3,h4,h5⟩:=hc;rw[take_bt h1];rcases h with⟨rfl,rfl⟩|⟨hk,h⟩
   ·rw[Lib.decDigits,dif_pos (by omega)];simp only[List.take_zero,List.nil_append];congr 2;omega
   ·have hx:0<x:=by
     rcases Nat.eq_zero_or_pos x with h0|h0
     ·exfalso
      rw[h0,zbN] at h;have:=bt_take (s:=s) hk
      rw[h] at this;rcases h5 with h5|h5
      ·omega
      ·exact h5 (this.symm.trans (by rfl))
     ·exact h0
    rw[zeD hx (by omega),h];congr 3;omega
  ·have e:digF s (f+1) x k=(x,k):=by simp only[digF,if_neg hc]
   rw[e] at hp ⊢;rcases h with⟨rfl,rfl⟩|⟨_,h⟩
   ·exact absurd hp (Nat.lt_irrefl 0)
   ·exact h
theorem ziw{s:List UInt8}(h:0<(dig s).2):s.take (dig s).2=Lib.decDigits (dig s).1:=zgz s 7 0 0 (.inl ⟨rfl,rfl⟩) h
theorem zek{s:List UInt8}(h:0<(dig s).2):s=Lib.decDigits (dig s).1++s.drop (dig s).2:=by rw[<- ziw h,List.take_append_drop]
theorem zba{a b:List UInt8}{i:Nat}(h:i<a.length):bt (a++b) i=bt a i:=by
 simp[bt,List.getD_eq_getElem?_getD,List.getElem?_append_left h]
theorem zep{a b:List UInt8}:bt (a++b) a.length=bt b 0:=by
 simp[bt,List.getD_eq_getElem?_getD,List.getElem?_append_right (Nat.le_refl _)]
theorem bt_mem{a:List UInt8}{i:Nat}(h:i<a.length):∃b ∈ a,b.toNat=bt a i:=⟨a[i],List.getElem_mem h,by simp[bt,List.getD_eq_getElem?_getD,h]⟩
theorem zht{u:Nat}(hu:u<1000000){r:List UInt8}(hr:r=[]\/¬ (48<=bt r 0/\bt r 0<=57)):dig (Lib.decDigits u++r)=(u,(Lib.decDigits u).length):=by
 have hl:(Lib.decDigits u).length<=6:=zaw 5 u (by omega);have hne:=zac u;have hpos:0<(Lib.decDigits u).length:=List.length_pos_iff.2 hne;obtain⟨h1,h2⟩:=zgA (Lib.decDigits u++r) 7 0 0 (by omega) (λj hj=>by omega);have hk:(dig (Lib.decDigits u++r)).2=(Lib.decDigits u).length:=by
  show (digF (Lib.decDigits u++r) 7 0 0).2=_;rcases Nat.lt_trichotomy (digF (Lib.decDigits u++r) 7 0 0).2 (Lib.decDigits u).length with h|h|h
  ·exfalso
   apply h2;obtain⟨b,hb,hbv⟩:=bt_mem h;obtain⟨d1,d2⟩:=zam u b hb;refine⟨by rw[List.length_append];omega,by omega,by rw[zba h];omega,by rw[zba h];omega,?_⟩
   by_cases h0:(digF (Lib.decDigits u++r) 7 0 0).2=0
   ·exact .inl h0
   ·right;rw[zba hpos];refine zeE u ?_;rcases Nat.eq_zero_or_pos u with hz|hz
    ·rw[hz,zbN] at h;simp only[List.length_cons,List.length_nil] at h;rw[hz,zbN] at h0;omega
    ·exact hz
  ·exact h
  ·exfalso
   obtain⟨c1,c2,c3,c4,_⟩:=h1 _ h;rw[zep] at c3 c4;rcases hr with hr|hr
   ·rw[hr,List.append_nil] at c1;omega
   ·exact hr ⟨c3,c4⟩
 have hv:(dig (Lib.decDigits u++r)).1=u:=by
  have:=ziw (s:=Lib.decDigits u++r) (by omega)
  rw[hk,List.take_left] at this;exact (zfx this).symm
 exact Prod.ext hv hk
end Am.F
end
section
namespace Am.F
open Go Am
def pL(t:List UInt8->Option Tm)(x:Int):Nat->List (List UInt8)->List UInt8->Option Tm
 | 0,_,_=>none
 | m+1,kids,r=>match t r with
  | none=>none
  | some u=>match u.rest with
   | []=>none
   | b::r2=>if b=41 then some ⟨2,x,kids++[r.take (r.length-u.rest.length)],r2⟩
    else if b=32 then pL t x m (kids++[r.take (r.length-u.rest.length)]) r2
    else none
def tL:Nat->List UInt8->Option Tm
 | 0,_=>none
 | f+1,l=>
  if l=[] then none
  else if bt l 0=95 then some ⟨0,0,[],l.drop 1⟩
  else if bt l 0=33 then some ⟨3,0,[],l.drop 1⟩
  else if bt l 0=64 then
   (if (dig (l.drop 1)).2=0\/99<(dig (l.drop 1)).1 then none
   else if [40] <+: (l.drop 1).drop (dig (l.drop 1)).2 then pL (tL f) (dig (l.drop 1)).1 3 [] (((l.drop 1).drop (dig (l.drop 1)).2).drop 1)
   else some ⟨2,(dig (l.drop 1)).1,[],(l.drop 1).drop (dig (l.drop 1)).2⟩)
  else if bt l 0=45 then
   (if (dig (l.drop 1)).2=0\/(dig (l.drop 1)).1=0\/32768<(dig (l.drop 1)).1 then none
   else some ⟨1,-(dig (l.drop 1)).1,[],(l.drop 1).drop (dig (l.drop 1)).2⟩)
  else if (dig l).2=0\/32767<(dig l).1 then none
  else some ⟨1,(dig l).1,[],l.drop (dig l).2⟩
theorem zbs{b:UInt8}{r:List UInt8}:[b] <+: r↔∃r2,r=b::r2:=by
 constructor
 ·rintro ⟨t,rfl⟩;exact⟨t,rfl⟩
 ·rintro ⟨t,rfl⟩;exact⟨t,rfl⟩
theorem zcf(b:UInt8)(r:List UInt8):bt (b::r) 0=b.toNat:=rfl
def Suf(l r:List UInt8):Prop:=∃p,p≠[]/\l=p++r
theorem Suf.lt{l r:List UInt8}(h:Suf l r):r.length<l.length:=by
 obtain⟨p,hp,rfl⟩:=h;have:=List.length_pos_iff.2 hp
 rw[List.length_append];omega
theorem Suf.trans{l m r:List UInt8}(h:Suf l m)(h':Suf m r):Suf l r:=by
 obtain⟨p,hp,rfl⟩:=h;obtain⟨q,hq,rfl⟩:=h';exact⟨p++q,λe=>hp (List.append_eq_nil_iff.1 e).1,(List.append_assoc ..).symm⟩
theorem Suf.cons(b:UInt8)(r:List UInt8):Suf (b::r) r:=⟨[b],by simp,rfl⟩
theorem Suf.drop1{l:List UInt8}(h:l≠[]):Suf l (l.drop 1):=by
 cases l with
 | nil=>exact absurd rfl h
 | cons b r=>exact Suf.cons b r
theorem Suf.dropLe{l r:List UInt8}(h:Suf l r)(n:Nat):Suf l (r.drop n):=by
 obtain⟨p,hp,rfl⟩:=h;exact⟨p++r.take n,λe=>hp (List.append_eq_nil_iff.1 e).1,by rw[List.append_assoc,List.take_append_drop]⟩
theorem zh1{t:List UInt8->Option Tm}{x:Int}(ht:∀l u,t l=some u->Suf l u.rest):∀(m:Nat) {kids:List (List UInt8)} {r:List UInt8} {u:Tm},pL t x m kids r=some u->Suf r u.rest
 | 0,kids,r,u,h=>by cases h
 | m+1,kids,r,u,h=>by
  simp only[pL] at h;cases hv:t r with
  | none=>rw[hv] at h;cases h
  | some v=>
   rw[hv] at h;have h1:=ht _ _ hv;cases hr:v.rest with
   | nil=>simp only[hr] at h;cases h
   | cons b r2=>
    simp only[hr] at h;rw[hr] at h1;split at h
    ·cases h;exact h1.trans (Suf.cons b r2)
    split at h
    ·exact (h1.trans (Suf.cons b r2)).trans (zh1 ht m h)
    ·cases h
theorem zhK:∀(f:Nat) {l:List UInt8} {u:Tm},tL f l=some u->Suf l u.rest
 | 0,l,u,h=>by cases h
 | f+1,l,u,h=>by
  simp only[tL] at h;split at h
  ·cases h
  rename_i hl;have h1:=Suf.drop1 hl;split at h
  ·cases h;exact h1
  split at h
  ·cases h;exact h1
  split at h
  ·split at h
   ·cases h
   split at h
   ·exact ((h1.dropLe _).dropLe 1).trans (zh1 (λl u=>zhK f) 3 h)
   ·cases h;exact h1.dropLe _
  split at h
  ·split at h
   ·cases h
   ·cases h;exact h1.dropLe _
  split at h
  ·cases h
  ·rename_i hd;cases h;have hp:0<(dig l).2:=by omega
   refine⟨l.take (dig l).2,λe=>?_,(List.take_append_drop ..).symm⟩;have:=congrArg List.length e
   have hb:=dig_bd l;rw[List.length_take,List.length_nil] at this;omega
def Stp(r:List UInt8):Prop:=wA r=[]
theorem Stp.nil:Stp []:=rfl
theorem ze4{b:UInt8}{r:List UInt8}(h:stop b=true):Stp (b::r):=by simp[Stp,wA,h]
theorem stp_wB(s:List UInt8):Stp (wB s):=by
 unfold Stp wA wB;cases h:s.dropWhile λb=>!stop b with
 | nil=>rfl
 | cons b r=>
  have:=List.head_dropWhile_not (λb=>!stop b) (l:=s) (by rw[h];simp)
  simp only[h,List.head_cons] at this;simp[this]
theorem zhM{r:List UInt8}(h:Stp r):r=[]\/∃b r2,r=b::r2/\stop b=true:=by
 cases r with
 | nil=>exact .inl rfl
 | cons b r2=>
  refine .inr ⟨b,r2,rfl,?_⟩;unfold Stp wA at h;cases hb:stop b with
  | true=>rfl
  | false=>simp[hb] at h
theorem zdD{b:UInt8}(h:isD b):stop b=false:=by
 obtain⟨h1,h2⟩:=h;unfold stop;have a:∀c:UInt8,c.toNat<48->(b==c)=false:=λc hc=>by
  rw[beq_eq_false_iff_ne];intro q;subst q;omega
 rw[a 32 (by decide),a 40 (by decide),a 41 (by decide)];rfl
theorem stp_nd{r:List UInt8}(h:Stp r):r=[]\/¬ (48<=bt r 0/\bt r 0<=57):=by
 rcases zhM h with h|⟨b,r2,rfl,hb⟩
 ·exact .inl h
 ·right;rw[zcf];intro q;rw[zdD q] at hb;cases hb
theorem ze1{w r:List UInt8}(hw:∀b ∈ w,stop b=false)(hr:Stp r):wA (w++r)=w/\wB (w++r)=r:=by
 induction w with
 | nil=>
  refine⟨hr,?_⟩;rcases zhM hr with rfl|⟨b,r2,rfl,hb⟩
  ·rfl
  ·simp[wB,hb]
 | cons b w ih=>
  obtain⟨h1,h2⟩:=ih λc hc=>hw c (List.mem_cons_of_mem _ hc)
  have hb:=hw b (List.mem_cons_self ..);refine⟨?_,?_⟩
  ·show (b::(w++r)).takeWhile _=_;rw[List.takeWhile_cons_of_pos (by simp[hb])];exact congrArg (b::·) h1
  ·show (b::(w++r)).dropWhile _=_;rw[List.dropWhile_cons_of_pos (by simp[hb])];exact h2
theorem zgh(x:Int):∃b r,Lib.itoa x=b::r/\(b=45\/isD b):=by
 unfold Lib.itoa;split
 ·exact⟨45,_,rfl,.inl rfl⟩
 ·cases hd:Lib.decDigits x.toNat with
  | nil=>exact absurd hd (zac _)
  | cons b r=>exact⟨b,r,rfl,.inr (zam _ b (by rw[hd];exact List.mem_cons_self ..))⟩
theorem zkw{x:Int}:∀b ∈ Lib.itoa x,stop b=false:=by
 intro b hb;unfold Lib.itoa at hb;split at hb
 ·rcases List.mem_cons.1 hb with rfl|hb
  ·decide
  ·exact zdD (zam _ b hb)
 ·exact zdD (zam _ b hb)
theorem zkn{b:UInt8}{r:List UInt8}(hb:b≠45/\¬ isD b):numP (b::r)=false:=by
 rw[<- Bool.not_eq_true,zfg]
 rintro ⟨x,_,_,e⟩
 obtain⟨c,r',e',hc⟩:=zgh x;rw[e'] at e;injection e with e1 e2
 subst e1;rcases hc with hc|hc
 ·exact hb.1 hc
 ·exact hb.2 hc
theorem zju{f:Nat}{x:Int}(h0:-32768<=x)(h1:x<=32767){r:List UInt8}(hr:r=[]\/¬ (48<=bt r 0/\bt r 0<=57)):tL (f+1) (Lib.itoa x++r)=some ⟨1,x,[],r⟩:=by
 unfold tL
 by_cases hx:x<0
 ·obtain⟨u,rfl⟩:∃u:Nat,x = -(u:Int):=⟨x.natAbs,by omega⟩
  rw[zgf (by omega)];simp only[List.cons_append,List.drop_succ_cons,List.drop_zero,zht (show u<1000000 by omega) hr,zcf];have hp:=List.length_pos_iff.2 (zac u);rw[if_neg (by simp),if_neg (by decide),if_neg (by decide),if_neg (by decide),if_pos (by decide),if_neg (by omega),List.drop_left]
 ·obtain⟨u,rfl⟩:∃u:Nat,x=(u:Int):=⟨x.toNat,by omega⟩
  rw[zcz];have hp:=List.length_pos_iff.2 (zac u);have hh:isD (UInt8.ofNat (bt (Lib.decDigits u++r) 0))/\bt (Lib.decDigits u++r) 0<256:=by
   obtain⟨b,hb,hv⟩:=bt_mem hp;rw[zba hp,<- hv];exact⟨by simpa using zam u b hb,b.toNat_lt⟩
  obtain⟨⟨h2,h3⟩,h4⟩:=hh;rw[zb9 h4] at h2 h3;simp only[zht (show u<1000000 by omega) hr];rw[if_neg (by simp[zac]),if_neg (by omega),if_neg (by omega),if_neg (by omega),if_neg (by omega),if_neg (by omega),List.drop_left]
theorem zjv{f:Nat}(r:List UInt8):tL (f+1) (95::r)=some ⟨0,0,[],r⟩:=by
 unfold tL;rw[if_neg (by simp),if_pos (by rfl)];rfl
theorem zjw{f:Nat}(r:List UInt8):tL (f+1) (33::r)=some ⟨3,0,[],r⟩:=by
 unfold tL;rw[if_neg (by simp),if_neg (by rw[zcf];decide),if_pos (by rfl)];rfl
theorem zfO{f:Nat}{u:Nat}(hu:u<=99){r:List UInt8}(hr:r=[]\/¬ (48<=bt r 0/\bt r 0<=57)):tL (f+1) (64::(Lib.decDigits u++r))=if [40] <+: r then pL (tL f) u 3 [] (r.drop 1) else some ⟨2,u,[],r⟩:=by
 conv=>lhs;unfold tL
 have hp:=List.length_pos_iff.2 (zac u);simp only[List.drop_succ_cons,List.drop_zero,zht (show u<1000000 by omega) hr,zcf,List.drop_left];rw[if_neg (by simp),if_neg (by decide),if_neg (by decide),if_pos (by decide),if_neg (by omega)]
theorem zhL{f:Nat}{l:List UInt8}{v:Tm}(h:tL (f+1) l=some v):(∃r,l=95::r/\v=⟨0,0,[],r⟩)\/(∃r,l=33::r/\v=⟨3,0,[],r⟩) \/
  (∃x r,-32768<=x/\x<=32767/\l=Lib.itoa x++r/\v=⟨1,x,[],r⟩)\/(∃(u:Nat) (r:List UInt8),u<=99/\l=64::(Lib.decDigits u++r)/\(([40] <+: r/\pL (tL f) u 3 [] (r.drop 1)=some v)\/(¬ [40] <+: r/\v=⟨2,u,[],r⟩))):=by
 unfold tL at h;split at h
 ·cases h
 rename_i hl;obtain⟨b,r,rfl⟩:∃b r,l=b::r:=by
  cases l with
  | nil=>exact absurd rfl hl
  | cons b r=>exact⟨b,r,rfl⟩
 have hb:∀c:UInt8,bt (b::r) 0=c.toNat->b=c:=λc q=>UInt8.toNat_inj.1 (by rw[zcf] at q;exact q)
 simp only[List.drop_succ_cons,List.drop_zero] at h;split at h
 ·rename_i q;rw[hb 95 q] at *;exact .inl ⟨r,rfl,(Option.some.inj h).symm⟩
 split at h
 ·rename_i q;rw[hb 33 q] at *;exact .inr (.inl ⟨r,rfl,(Option.some.inj h).symm⟩)
 split at h
 ·rename_i q;rw[hb 64 q];split at h
  ·cases h
  rename_i hd;have hs:=zek (s:=r) (by omega);refine .inr (.inr (.inr ⟨(dig r).1,r.drop (dig r).2,by omega,by rw[<- hs],?_⟩));split at h
  ·rename_i hp;exact .inl ⟨hp,h⟩
  ·rename_i hp;exact .inr ⟨hp,(Option.some.inj h).symm⟩
 split at h
 ·rename_i q;rw[hb 45 q];split at h
  ·cases h
  rename_i hd;have hs:=zek (s:=r) (by omega);refine .inr (.inr (.inl ⟨-((dig r).1:Int),r.drop (dig r).2,by omega,by omega,?_,(Option.some.inj h).symm⟩));rw[zgf (by omega),List.cons_append,<- hs]
 split at h
 ·cases h
 ·rename_i hd;have hs:=zek (s:=b::r) (by omega);refine .inr (.inr (.inl ⟨((dig (b::r)).1:Int),(b::r).drop (dig (b::r)).2,by omega,by omega,?_,(Option.some.inj h).symm⟩));rw[zcz,<- hs]
end Am.F
end
section
namespace Am.F
open Go Am
theorem zjr{w:List UInt8}(h:tagP w=true):∃u:Nat,u<=99/\w=64::Lib.decDigits u/\tagX w=u:=by
 unfold tagP at h;rw[Bool.and_eq_true,decide_eq_true_eq,zbs] at h;obtain⟨⟨w2,rfl⟩,h2⟩:=h;rw[List.drop_succ_cons,List.drop_zero,zix 99 (by omega)] at h2;obtain⟨x,h3,h4,rfl⟩:=h2;obtain⟨u,rfl⟩:∃u:Nat,x=(u:Int):=⟨x.toNat,by omega⟩
 refine⟨u,by omega,by rw[zcz],?_⟩;unfold tagX;rw[if_pos ⟨_,rfl⟩,List.drop_succ_cons,List.drop_zero,zbS (by omega) (by omega)]
theorem tagP_of{u:Nat}(hu:u<=99):tagP (64::Lib.decDigits u)=true/\tagX (64::Lib.decDigits u)=u:=by
 unfold tagP tagX;rw[if_pos ⟨_,rfl⟩,List.drop_succ_cons,List.drop_zero,<- zcz,zbS (by omega) (by omega)];refine⟨?_,rfl⟩;rw[Bool.and_eq_true,decide_eq_true_eq,zix 99 (by omega)];exact⟨⟨_,rfl⟩,u,by omega,by omega,rfl⟩
theorem K1{c t:List UInt8->Option Tm}(hc:∀s u,c s=some u->t s=some u){x:Int}:∀(m:Nat) {kids:List (List UInt8)} {r:List UInt8} {u:Tm},cutK c x (m+1) kids r=some u->pL t x (m+1) kids (r.drop 1)=some u:=by
 intro m
 induction m with
 | zero=>
  intro kids r u h;simp only[cutK] at h;cases hv:c (r.drop 1) with
  | none=>rw[hv] at h;cases h
  | some v=>
   rw[hv] at h;simp only[pL,hc _ _ hv]
   by_cases h32:[32] <+: v.rest
   ·simp only[if_pos h32,zeU] at h;obtain⟨r2,e⟩:=zbs.1 h32;rw[if_neg (λq=>by obtain⟨r3,e3⟩:=zbs.1 q;rw[e] at e3;injection e3 with e4;exact absurd e4 (by decide))] at h;cases h
   ·simp only[if_neg h32,zeU] at h;split at h
    ·rename_i h41;obtain⟨r2,e⟩:=zbs.1 h41;cases h;simp only[e,if_true,List.drop_succ_cons,List.drop_zero]
    ·cases h
 | succ m ih=>
  intro kids r u h;rw[cutK] at h;cases hv:c (r.drop 1) with
  | none=>rw[hv] at h;cases h
  | some v=>
   rw[hv] at h;rw[pL,hc _ _ hv]
   by_cases h32:[32] <+: v.rest
   ·simp only[if_pos h32] at h;obtain⟨r2,e⟩:=zbs.1 h32;have:=ih h
    simp only[e,List.drop_succ_cons,List.drop_zero] at this ⊢;rw[if_neg (by decide)];simpa using this
   ·simp only[if_neg h32,zeU] at h;split at h
    ·rename_i h41;obtain⟨r2,e⟩:=zbs.1 h41;cases h;simp only[e,if_true,List.drop_succ_cons,List.drop_zero]
    ·cases h
theorem K2{c t:List UInt8->Option Tm}(hc:∀s u,t s=some u->Stp u.rest->c s=some u){x:Int}:∀(m:Nat) {kids:List (List UInt8)} {r:List UInt8} {u:Tm},pL t x m kids (r.drop 1)=some u->cutK c x m kids r=some u
 | 0,kids,r,u,h=>by cases h
 | m+1,kids,r,u,h=>by
  rw[pL] at h;cases hv:t (r.drop 1) with
  | none=>rw[hv] at h;cases h
  | some v=>
   rw[hv] at h;cases hr:v.rest with
   | nil=>simp only[hr] at h;cases h
   | cons b r2=>
    simp only[hr] at h;split at h
    ·rename_i hb;subst hb;have:=hc _ _ hv (by rw[hr];exact ze4 (by decide))
     rw[cutK,this];simp only[hr,zeU];rw[if_neg (λq=>by obtain⟨r3,e3⟩:=zbs.1 q;injection e3 with e4;exact absurd e4 (by decide)),if_pos ⟨_,rfl⟩];exact h
    split at h
    ·rename_i hb;subst hb;have:=hc _ _ hv (by rw[hr];exact ze4 (by decide))
     rw[cutK,this];simp only[hr];rw[if_pos ⟨_,rfl⟩];exact K2 hc m (r:=32::r2) h
    ·cases h
theorem zkR:∀(f:Nat) {s:List UInt8} {u:Tm},cutP f s=some u->tL f s=some u
 | 0,s,u,h=>by cases h
 | f+1,s,u,h=>by
  have hs:=wA_wB s;have hst:=stp_wB s;rw[cutP] at h;split at h
  ·rename_i hw;cases h;have:=zjv (f:=f) (wB s)
   rw[hw,List.singleton_append] at hs;rw[hs] at this;exact this
  split at h
  ·rename_i hw;cases h;have:=zjw (f:=f) (wB s)
   rw[hw,List.singleton_append] at hs;rw[hs] at this;exact this
  split at h
  ·rename_i hn;cases h;obtain⟨x,h0,h1,e⟩:=(zfg _).1 hn;have:=zju (f:=f) h0 h1 (stp_nd hst)
   rw[<- e,hs] at this;rw[this,e,zbS h0 h1]
  split at h
  ·rename_i ht;obtain⟨v,hv,e,ex⟩:=zjr ht;have hs':s=64::(Lib.decDigits v++wB s):=by rw[<- List.cons_append,<- e,hs]
   rw[ex] at h;rw[hs',zfO hv (stp_nd hst)];split at h
   ·rename_i hp;rw[if_pos hp];exact K1 (λs u=>zkR f) 2 h
   ·rename_i hp;rw[if_neg hp];exact h
  ·cases h
theorem zjx:∀(f:Nat) {s:List UInt8} {u:Tm},tL f s=some u->Stp u.rest->cutP f s=some u
 | 0,s,u,h,_=>by cases h
 | f+1,s,u,h,hst=>by
  rcases zhL h with⟨r,rfl,rfl⟩|⟨r,rfl,rfl⟩|⟨x,r,h0,h1,rfl,rfl⟩|⟨v,r,hv,rfl,hh⟩
  ·obtain⟨a,b⟩:=ze1 (w:=[95]) (r:=r) (by intro b hb;rw[List.mem_singleton] at hb;subst hb;decide) hst;rw[List.singleton_append] at a b;rw[cutP,if_pos a,b]
  ·obtain⟨a,b⟩:=ze1 (w:=[33]) (r:=r) (by intro b hb;rw[List.mem_singleton] at hb;subst hb;decide) hst;rw[List.singleton_append] at a b;rw[cutP,a,if_neg (by decide),if_pos rfl,b]
  ·obtain⟨a,b⟩:=ze1 (w:=Lib.itoa x) (r:=r) zkw hst;obtain⟨c,r',e,hc⟩:=zgh x;have hn:numP (Lib.itoa x)=true:=(zfg _).2 ⟨x,h0,h1,rfl⟩;rw[cutP,a,if_neg (λq=>by rw[e] at q;injection q with q1;subst q1;rcases hc with hc|hc<;>revert hc<;>decide),if_neg (λq=>by rw[e] at q;injection q with q1;subst q1;rcases hc with hc|hc<;>revert hc<;>decide),if_pos hn,b,zbS h0 h1]
  ·have hr:Stp r:=by
    rcases hh with⟨hp,_⟩|⟨_,rfl⟩
    ·obtain⟨r2,rfl⟩:=zbs.1 hp;exact ze4 (by decide)
    ·exact hst
   obtain⟨a,b⟩:=ze1 (w:=64::Lib.decDigits v) (r:=r) (by
    intro b hb;rcases List.mem_cons.1 hb with rfl|hb
    ·decide
    ·exact zdD (zam _ b hb)) hr
   rw[List.cons_append] at a b;obtain⟨t1,t2⟩:=tagP_of hv;rw[cutP,a,if_neg (λq=>by injection q with q1;exact absurd q1 (by decide)),if_neg (λq=>by injection q with q1;exact absurd q1 (by decide)),
    if_neg (by rw[zkn ⟨by decide,by decide⟩];decide),if_pos t1,b,t2]
   rcases hh with⟨hp,hq⟩|⟨hp,rfl⟩
   ·rw[if_pos hp];exact K2 (λs u=>zjx f) 3 hq
   ·rw[if_neg hp]
theorem pL_congr{t t':List UInt8->Option Tm}{x:Int}(hs:∀l u,t l=some u->Suf l u.rest):∀(m:Nat) (kids:List (List UInt8)) (r:List UInt8),(∀l,l.length<=r.length->t l=t' l)->pL t x m kids r=pL t' x m kids r
 | 0,kids,r,h=>rfl
 | m+1,kids,r,h=>by
  rw[pL,pL,<- h r (Nat.le_refl _)];cases hv:t r with
  | none=>rfl
  | some v=>
   cases hr:v.rest with
   | nil=>simp only[hr]
   | cons b r2=>
    simp only[hr];have hlt:=(hs _ _ hv).lt;rw[hr,List.length_cons] at hlt;rw[pL_congr hs m _ r2 λl hl=>h l (by omega)]
theorem zgQ:∀(f g:Nat) (l:List UInt8),l.length<f->l.length<g->tL f l=tL g l
 | 0,g,l,h,_=>by omega
 | f+1,0,l,_,h=>by omega
 | f+1,g+1,l,h,h'=>by
  rw[tL,tL]
  by_cases hl:l=[]
  ·rw[if_pos hl,if_pos hl]
  ·rw[if_neg hl,if_neg hl];have hpos:=List.length_pos_iff.2 hl;have:∀x q,q.length<l.length->pL (tL f) x 3 [] q=pL (tL g) x 3 [] q:=λx q hq=>
    pL_congr (λl u=>zhK f) 3 [] q λl' hl'=>zgQ f g l' (by omega) (by omega)
   rw[this _ _ (by simp only[List.length_drop];omega)]
def Okr(r:List UInt8):Prop:=r=[]\/∃b r2,r=b::r2/\(b=32\/b=41)
theorem Okr.nd{r:List UInt8}(h:Okr r):r=[]\/¬ (48<=bt r 0/\bt r 0<=57):=by
 rcases h with h|⟨b,r2,rfl,rfl|rfl⟩
 ·exact .inl h
 ·exact .inr (by rw[zcf];decide)
 ·exact .inr (by rw[zcf];decide)
theorem Okr.n40{r:List UInt8}(h:Okr r):¬ [40] <+: r:=by
 rw[zbs]
 rintro ⟨r3,e⟩
 rcases h with h|⟨b,r2,h,hb⟩
 ·rw[h] at e;cases e
 ·rw[h] at e;injection e with e1;subst e1;rcases hb with hb|hb<;>revert hb<;>decide
theorem zj8{t:List UInt8->Option Tm}{x:Int}(hs:∀l u,t l=some u->Suf l u.rest)(ht:∀p a b c r r',t (p++r)=some ⟨a,b,c,r⟩->Okr r'->t (p++r')=some ⟨a,b,c,r'⟩) :
  ∀(m:Nat) {kids:List (List UInt8)} {q r:List UInt8} {u:Tm},pL t x m kids (q++r)=some u->u.rest=r->∀r',pL t x m kids (q++r')=some ⟨u.kind,u.num,u.kids,r'⟩
 | 0,kids,q,r,u,h,_,r'=>by cases h
 | m+1,kids,q,r,u,h,hu,r'=>by
  rw[pL] at h;cases hv:t (q++r) with
  | none=>rw[hv] at h;cases h
  | some v=>
   rw[hv] at h;cases hr:v.rest with
   | nil=>simp only[hr] at h;cases h
   | cons b r2=>
    simp only[hr] at h;obtain⟨p,hp,e⟩:=hs _ _ hv;rw[hr] at e;have hend:∃q2,r2=q2++r:=by
     split at h
     ·cases h;exact⟨[],hu⟩
     split at h
     ·obtain⟨p2,_,e2⟩:=zh1 hs m h;exact⟨p2,by rw[e2,hu]⟩
     ·cases h
    obtain⟨q2,e2⟩:=hend;have hq:q=p++b::q2:=by
     rw[e2] at e;have:q++r=(p++b::q2)++r:=by rw[e];simp
     exact List.append_cancel_right this
    have hb:b=32\/b=41:=by
     split at h
     ·exact .inr (by assumption)
     split at h
     ·exact .inl (by assumption)
     ·cases h
    have hv2:=ht p v.kind v.num v.kids (b::r2) (b::(q2++r')) (by rw[<- e,hv];congr 1;rw[<- hr]) (.inr ⟨b,_,rfl,hb⟩);have e3:q++r'=p++b::(q2++r'):=by rw[hq];simp
    have ek:(q++r').take ((q++r').length-(b::(q2++r')).length)=p:=by
     rw[e3,List.length_append,Nat.add_sub_cancel,List.take_left]
    have ek':(q++r).take ((q++r).length-v.rest.length)=p:=by
     rw[hr,e,List.length_append,Nat.add_sub_cancel,List.take_left]
    rw[pL,e3,hv2,<- e3];simp only[ek];rw[<- hr,ek'] at h
    by_cases h41:b=41
    ·rw[if_pos h41] at h⊢;cases h;have:q2=[]:=by
      have:([]:List UInt8)++r=q2++r:=by rw[<- e2];exact hu.symm
      exact (List.append_cancel_right this).symm
     rw[this];rfl
    ·rw[if_neg h41] at h⊢
     by_cases h32:b=32
     ·rw[if_pos h32] at h⊢;rw[e2] at h;exact zj8 hs ht m h hu r'
     ·rw[if_neg h32] at h;cases h
theorem zjt:∀(f:Nat) (p:List UInt8) (a b:Int) (c:List (List UInt8)) (r r':List UInt8),tL f (p++r)=some ⟨a,b,c,r⟩->Okr r'->tL f (p++r')=some ⟨a,b,c,r'⟩
 | 0,p,a,b,c,r,r',h,_=>by cases h
 | f+1,p,a,b,c,r,r',h,ho=>by
  rcases zhL h with⟨r1,e,e2⟩|⟨r1,e,e2⟩|⟨x,r1,h0,h1,e,e2⟩|⟨v,r1,hv,e,hh⟩
  ·injection e2 with e3 e4 e5 e6
   subst e3 e4 e5 e6;have:p=[95]:=List.append_cancel_right (e.trans (List.singleton_append).symm)
   subst this;exact zjv r'
  ·injection e2 with e3 e4 e5 e6
   subst e3 e4 e5 e6;have:p=[33]:=List.append_cancel_right (e.trans (List.singleton_append).symm)
   subst this;exact zjw r'
  ·injection e2 with e3 e4 e5 e6
   subst e3 e4 e5 e6;have:p=Lib.itoa b:=List.append_cancel_right e
   subst this;exact zju h0 h1 ho.nd
  ·rcases hh with⟨hp,hq⟩|⟨hp,hq⟩
   ·obtain⟨r2,rfl⟩:=zbs.1 hp;rw[List.drop_succ_cons,List.drop_zero] at hq;obtain⟨q,_,eq⟩:=zh1 (λl u=>zhK f) 3 hq;have eq:r2=q++r:=eq;subst eq;have:p=64::(Lib.decDigits v++40::q):=by
     apply List.append_cancel_right (bs:=r);rw[e];simp
    subst this;have:=zj8 (λl u=>zhK f) (λp a b c r r'=>zjt f p a b c r r') 3 hq rfl r'
    have e3:64::(Lib.decDigits v++40::q)++r'=64::(Lib.decDigits v++40::(q++r')):=by simp
    rw[e3,zfO hv (.inr (by rw[zcf];decide)),if_pos ⟨_,rfl⟩,List.drop_succ_cons,List.drop_zero];exact this
   ·injection hq with e3 e4 e5 e6
    subst e3 e4 e5 e6;have:p=64::Lib.decDigits v:=List.append_cancel_right (e.trans (List.cons_append ..).symm)
    subst this;rw[List.cons_append,zfO hv ho.nd,if_neg ho.n40]
def ks(kids:List (List UInt8))(r:List UInt8):List UInt8:=Lib.join kids [32]++41::r
theorem ks_one(k:List UInt8)(r:List UInt8):ks [k] r=k++41::r:=by unfold ks;rw[Lib.join_one]
theorem ks_cons(k k':List UInt8)(kk:List (List UInt8))(r:List UInt8):ks (k::k'::kk) r=k++32::ks (k'::kk) r:=by
 unfold ks;rw[Lib.join_cons,Lib.join_cons];simp[Lib.joinTail,List.append_assoc]
theorem pL_build{t:List UInt8->Option Tm}{x:Int}(hr:∀p u r,t p=some u->u.rest=[]->Okr r->t (p++r)=some ⟨u.kind,u.num,u.kids,r⟩):∀(m:Nat) (kids kk:List (List UInt8)) (k:List UInt8) (r:List UInt8),
  (k::kk).length<=m->(∀y ∈ k::kk,∃v,t y=some v/\v.rest=[])->pL t x m kids (ks (k::kk) r)=some ⟨2,x,kids++k::kk,r⟩
 | 0,kids,kk,k,r,h,_=>by simp at h
 | m+1,kids,kk,k,r,h,hy=>by
  obtain⟨v,hv,hv2⟩:=hy k (List.mem_cons_self ..);cases kk with
  | nil=>
   rw[ks_one,pL,hr k v (41::r) hv hv2 (.inr ⟨41,r,rfl,.inr rfl⟩)];simp only[if_true,List.length_append,Nat.add_sub_cancel,List.take_left]
  | cons k' kk=>
   rw[ks_cons,pL,hr k v (32::ks (k'::kk) r) hv hv2 (.inr ⟨32,_,rfl,.inl rfl⟩)];simp only[List.length_append,Nat.add_sub_cancel,List.take_left];rw[if_neg (by decide),if_pos trivial,pL_build hr m _ kk k' r (by simp only[List.length_cons] at h⊢;omega) λy h2=>hy y (List.mem_cons_of_mem _ h2)];simp
def outT(u:Tm):List UInt8:=if u.kind=0 then [95] else if u.kind=3 then [33] else if u.kind=1 then Lib.itoa u.num else conP u.num u.kids
theorem zkU(x:Int)(k:List UInt8)(kk:List (List UInt8))(r:List UInt8):conP x (k::kk)++r=64::(Lib.itoa x++40::ks (k::kk) r):=by
 unfold conP ks;rw[if_pos (by simp)];simp
theorem conP_nil(x:Int)(r:List UInt8):conP x []++r=64::(Lib.itoa x++r):=by
 unfold conP;rw[if_neg (by simp)];simp
structure Good (f:Nat) (l:List UInt8) (u:Tm):Prop where
 text:l=outT u++u.rest
 form:(u.kind=0/\u.num=0/\u.kids=[])\/(u.kind=3/\u.num=0/\u.kids=[])\/(u.kind=1/\-32768<=u.num/\u.num<=32767/\u.kids=[])\/(u.kind=2/\0<=u.num/\u.num<=99/\u.kids.length<=3)
 kids:∀y ∈ u.kids,∃v,tL f y=some v/\v.rest=[]
theorem tL_con{f:Nat}{x:Int}(h0:0<=x)(h1:x<=99){kids:List (List UInt8)}(hl:kids.length<=3)(hk:∀y ∈ kids,∃v,tL f y=some v/\v.rest=[]):tL (f+1) (conP x kids)=some ⟨2,x,kids,[]⟩:=by
 obtain⟨v,rfl⟩:∃v:Nat,x=(v:Int):=⟨x.toNat,by omega⟩
 rw[show conP (v:Int) kids=conP (v:Int) kids++[] by rw[List.append_nil]];cases kids with
 | nil=>rw[conP_nil,zcz,zfO (by omega) (.inl rfl),if_neg (λq=>by obtain⟨r,e⟩:=zbs.1 q;cases e)]
 | cons k kk=>
  rw[zkU,zcz,zfO (by omega) (.inr (by rw[zcf];decide)),if_pos ⟨_,rfl⟩,List.drop_succ_cons,List.drop_zero,
   pL_build (λp u r h hu ho=>by
    have:=zjt f p u.kind u.num u.kids [] r (by rw[List.append_nil,h,<- hu]) ho
    exact this) 3 [] kk k [] hl hk]
  rfl
def tP(s:List UInt8):Option Tm:=if s.length<=1024 then (match tL (s.length+1) s with
 | some t=>if t.rest=[] then some t else none
 | none=>none) else none
theorem termP_tP(s:List UInt8):termP s=tP s:=by
 unfold termP tP;split
 ·cases hc:cutP (s.length+1) s with
  | some t=>rw[zkR _ hc]
  | none=>
   cases ht:tL (s.length+1) s with
   | none=>rfl
   | some t=>
    by_cases h:t.rest=[]
    ·rw[zjx _ ht (by rw[h];exact Stp.nil)] at hc;cases hc
    ·simp only[if_neg h]
 ·rfl
theorem tP_some{s:List UInt8}{u:Tm}(h:tP s=some u):s.length<=1024/\tL (s.length+1) s=some u/\u.rest=[]:=by
 unfold tP at h;split at h
 ·rename_i hl;cases ht:tL (s.length+1) s with
  | none=>rw[ht] at h;cases h
  | some t=>
   rw[ht] at h;simp only at h;split at h
   ·rename_i hr;cases h;exact⟨hl,rfl,hr⟩
   ·cases h
 ·cases h
theorem tP_of{s:List UInt8}{f:Nat}{u:Tm}(hl:s.length<=1024)(hf:s.length<f)(h:tL f s=some u)(hr:u.rest=[]):tP s=some u:=by
 unfold tP;rw[if_pos hl,zgQ (s.length+1) f s (by omega) hf,h];simp only[if_pos hr]
theorem zc4(s:List UInt8):mayP s=true↔∃u,tP s=some u:=by
 unfold mayP;rw[termP_tP];cases tP s<;>simp
end Am.F
end
section
namespace Am.F
open Go Am
theorem tP_hole:tP [95]=some ⟨0,0,[],[]⟩:=by rfl
theorem tP_fail:tP [33]=some ⟨3,0,[],[]⟩:=by rfl
theorem tP_itoa{x:Int}(h0:-32768<=x)(h1:x<=32767):tP (Lib.itoa x)=some ⟨1,x,[],[]⟩:=by
 have hl:(Lib.itoa x).length<=20:=zfm (by omega) (by omega);have:=zju (f:=(Lib.itoa x).length) h0 h1 (r:=[]) (.inl rfl)
 rw[List.append_nil] at this;exact tP_of (by omega) (by omega) this rfl
theorem tP_conP{x:Int}(h0:0<=x)(h1:x<=99){kids:List (List UInt8)}(hl:kids.length<=3)(hk:∀y ∈ kids,mayP y=true)(hc:(conP x kids).length<=1024):tP (conP x kids)=some ⟨2,x,kids,[]⟩:=by
 have key:∀y ∈ kids,∃v,tL 1025 y=some v/\v.rest=[]:=by
  intro y hy;obtain⟨u,hu⟩:=(zc4 y).1 (hk y hy);obtain⟨a,b,c⟩:=tP_some hu;exact⟨u,by rw[zgQ 1025 (y.length+1) y (by omega) (by omega)];exact b,c⟩
 exact tP_of hc (f:=1026) (by omega) (tL_con h0 h1 hl key) rfl
section
variable {β:Type} {t:ETree}
end
end Am.F
end
