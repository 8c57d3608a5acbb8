/- Walks: NameArgs. -/
import Derived.Test.YtokaabdbaodimaaGreatDoorAmJj
import Derived.Test.YtokaabdbaodimaaGreatDoorAmJk
import Derived.Test.YtokaabdbaodimaaGreatDoorAmNmW
import Derived.Test.YtokaabdbaodimaaGreatDoorAmFu
import Derived.Test.YtokaabdbaodimaaGreatDoorAmGG9W
open Nat (reduceAdd reduceMul)
open Int (reduceToNat)
set_option linter.unusedSimpArgs false
set_option linter.unusedVariables false
namespace Am.F
open Go Am
def zdU(r:Int):List Df:=[⟨0,[⟨0,0,0,[]⟩]⟩,⟨2,[⟨1,r,0,[]⟩]⟩]
theorem zgl{r:Int}(hr:r=0\/r=1):zRq9 (zdU r)=true:=by
 rcases hr with rfl|rfl<;>decide +kernel
theorem zkj:mayP [33]=true:=(zbr _).2 ⟨_,zjv⟩
theorem zkt{r:Nat}(hr:r=0\/r=1){s:List UInt8}{u:Tm}(hs:tP s=some u):zaz (zdU (r:Int)) 1 (([[33],[33]]:List (List UInt8)).set r s) 5=if u.kind=0 then ([],902) else (zdb ⟨u.kind,u.num,u.kids.map .term⟩,0):=by
 have hr':(r:Int)=0\/(r:Int)=1:=by omega
 have hms:mayP s=true:=(zbr s).2 ⟨_,hs⟩;have hm:zZ (zdU (r:Int)) 1 (([[33],[33]]:List (List UInt8)).set r s) 5:=by
  refine⟨zgl hr',by omega,by show (1:Int)<2;omega,?_,?_,by omega,by omega⟩
  ·rw[List.length_set];rfl
  ·rw[List.all_eq_true];intro x hx;rcases List.mem_or_eq_of_mem_set hx with h|h
   ·have:x=[33]:=by simpa using h
    rw[this];exact zkj
   ·rw[h];exact hms
 unfold zaz;rw[if_pos hm];have hev:zn (zdU (r:Int)) 6 5 (zbJ (zdU (r:Int)) 1 (([[33],[33]]:List (List UInt8)).set r s))=(zb4 s,4):=by
  rcases hr with rfl|rfl<;>rfl
 show outN (zn (zdU (r:Int)) 6 5 (zbJ (zdU (r:Int)) 1 (([[33],[33]]:List (List UInt8)).set r s))).1=_;rw[hev];unfold zb4;rw[hs];simp only
 by_cases h0:u.kind=0
 ·rw[if_pos h0,if_pos h0];rfl
 ·rw[if_neg h0,if_neg h0];rfl
theorem read_ok{s:List UInt8}{u:Tm}(hs:tP s=some u)(h0:¬ u.kind=0):zh6 (zdU 0) ⟨u.kind,u.num,u.kids.map .term⟩/\(u.kind=2->0<=u.num/\u.num<=99):=by
 have hm:mayP s=true:=(zbr s).2 ⟨_,hs⟩;have h1:=zbt (zgl (.inl rfl)) 1 0 (.term s) (.term hm);have h2:=zdR (zgl (.inl rfl)) 1 0 (.term s) (.term hm) (by omega);have e:(zn (zdU 0) 1 0 (.term s)).1 = .ok ⟨u.kind,u.num,u.kids.map .term⟩:=by
  show zb4 s=_;unfold zb4;rw[hs];simp only;rw[if_neg h0]
 rw[e] at h1 h2;exact⟨h1,h2⟩
section
variable {β:Type} {t:ETree}
set_option maxHeartbeats 2000000 in
theorem zO.put{h:H}{lo hi:Nat}{c:AV}{xs:List (List UInt8)}(ho:zO h lo hi 1 c (strs xs)){j:Nat}(hj:j<xs.length)(s:List UInt8):∃h',(∀K:H->Option β,(zx 1 c (.int .i64 (j:Int))<|.mk λv=>zl 1 v (.str s) h<|.mk K)=K h')/\zO h' lo hi 1 c (strs (xs.set j s))/\h'.n=h.n/\∀i,(i<lo\/hi<=i)->h'.get i=h.get i:=by
 rcases ho with⟨_,h2⟩|⟨b,l,rfl,h4,h5,h6,h7,h8⟩
 ·have:=congrArg List.length h2
  rw[zQ] at this;have h0:xs.length=0:=this;omega
 ·rw[zQ,Nat.mul_one] at h7;have hset:(strs xs).set j (.str s)=strs (xs.set j s):=by simp[strs,List.map_set]
  refine⟨h.set b (.own 0 (strs (xs.set j s))),λK=>?_,.inr ⟨b,l,rfl,h4,h5,zj rfl,by rw[zQ,List.length_set,Nat.mul_one];exact h7,h8⟩,by rw[H.n_set],λi hi=>zd (by omega)⟩;have hjl:(j:Int)<(l:Int):=by rw[<- h7];omega
  rw[zcB (by omega) hjl,Int.toNat_natCast,Nat.mul_one,Nat.zero_add,zfZ rfl,h6,zbB,zeH,zcC (by show j<(strs xs).length;rw[zQ];exact hj)];simp only;rw[hset]
theorem GG9.w243(TG:GG9 t)(TN:GNM t)(TR:GR9 t)(TC:GC t)(T:GA t)(L:GI t)(hA:t.get 153=some (eAw 153))(n:Nat)(hn:3200<=n){h:H}(s:List UInt8)(hsl:s.length<=9223372036854775807)(wh:Int) :
  Sp (β:=β) (zc t stdI n (.fn 243 []) [.str s,.int .i64 wh] h) λu h'=>u = .bool true:=by
 intro k R hk;obtain⟨m,rfl⟩:∃m,n=m+2:=⟨n-2,by omega⟩
 have hroom:room=68719476736:=rfl;have haw:=λ(hh:H) (kk:K β)=>awk_q (β:=β) (k:=153) rfl hA m hh kk
 have W:=T.w12 (β:=β) (m+1) (by omega) s hsl h;cases hs:tP s with
 | none=>
  have hrf:refP s=none:=by rw[zdm,hs];rfl
  rw[hrf] at W;rw[TG.c243];unfold f243;simp (disch:=first|omega|simp only[zD]<;>omega|assumption) only[↓zR,↓zRM,zR,zRM,reduceAdd,reduceMul,reduceToNat,↓f243_J0,haw];refine W _ _ ?_;intro u h1 ⟨e1,eu⟩;have eu:u = .tup [.int .i64 0,.int .i64 0,.nils,.int .i64 200]:=eu;subst eu;simp (disch:=first|omega|simp only[zD]<;>omega|assumption) only[↓zR,↓zRM,zR,zRM,reduceAdd,reduceMul,reduceToNat];exact hk _ _ rfl
 | some u=>
 have hrf:refP s=some (toC s u):=by rw[zdm,hs];rfl
 rw[hrf] at W;have hkr:=zem hs;obtain⟨r,hr,hwr⟩:∃r:Nat,(r=0\/r=1)/\wh%2=(r:Int):=⟨(wh%2).toNat,by omega,by omega⟩
 have hand:∀kk:VK β,qBin .and (.int .i64 wh) (.int .i64 1) (.mk kk)=kk (.int .i64 (r:Int)):=λkk=>by
  have:=zik 1 1 rfl (by omega) wh kk
  rw[show ((2 ^ 1:Nat):Int)=2 by decide,hwr] at this;exact this
 have hhead:=zkt hr hs;have hb1:∀kk:VK β,zo [.int .i64 0,.int .i64 0,.int .i64 0,.nils] [] [] (.mk kk)=kk (.agg [.int .i64 0,.int .i64 0,.int .i64 0,.nils]):=λkk=>rfl
 have hb2:∀kk:VK β,zo [.int .i64 0,.int .i64 0,.int .i64 0,.nils] [(0,1),(1,1)] [.int .i64 1,.int .i64 (r:Int)] (.mk kk)=kk (.agg [.int .i64 1,.int .i64 (r:Int),.int .i64 0,.nils]):=λkk=>rfl
 have hb3:∀(b:Nat) (kk:VK β),zo [.int .i64 0,.nils] [(1,1)] [.sl b 0 1 1 none] (.mk kk)=kk (.agg [.int .i64 0,.sl b 0 1 1 none]):=λb kk=>rfl
 have hb4:∀(b:Nat) (kk:VK β),zo [.int .i64 0,.nils] [(0,1),(1,1)] [.int .i64 2,.sl b 0 1 1 none] (.mk kk)=kk (.agg [.int .i64 2,.sl b 0 1 1 none]):=λb kk=>rfl
 have hb5:∀(b:Nat) (kk:VK β),zo [.nils] [(0,1)] [.sl b 0 2 2 none] (.mk kk)=kk (.agg [.sl b 0 2 2 none]):=λb kk=>rfl
 have hs1:∀(x y z w:AV) (hh:H) (kk:K β),zr 0 [.int .i64 0,.int .i64 0,.int .i64 0,.nils] 1 [(0,4)] [.agg [x,y,z,w]] hh (.mk kk)=kk (.sl hh.n 0 1 1 none) (hh.push (.own 0 [x,y,z,w])):=λx y z w hh kk=>fBslice_n (λ_=>rfl) hh kk
 have hs2:∀(x y z w:AV) (hh:H) (kk:K β),zr 0 [.int .i64 0,.nils,.int .i64 0,.nils] 2 [(0,2),(2,2)] [.agg [x,y],.agg [z,w]] hh (.mk kk)=kk (.sl hh.n 0 2 2 none) (hh.push (.own 0 [x,y,z,w])):=λx y z w hh kk=>fBslice_n (λ_=>rfl) hh kk
 have hs3:∀(hh:H) (kk:K β),zr 0 [.str [],.str []] 2 [(0,1),(1,1)] [.str [33],.str [33]] hh (.mk kk)=kk (.sl hh.n 0 2 2 none) (hh.push (.own 0 [.str [33],.str [33]])):=λhh kk=>fBslice_n (λ_=>rfl) hh kk
 have hiad:∀(b:Nat) (kk:VK β),zx 1 (.sl b 0 2 2 none) (.int .i64 (r:Int)) (.mk kk)=kk (.ptr b r):=λb kk=>by rw[zcB (by omega) (by omega),Int.toNat_natCast,Nat.mul_one,Nat.zero_add]
 have hset:([.str [33],.str [33]]:List AV).set r (.str s)=strs (([[33],[33]]:List (List UInt8)).set r s):=by
  rcases hr with rfl|rfl<;>rfl
 have hst2:∀(b:Nat) (hh:H) (kk:H->Option β),zt (hh.get b)=some (0,[.str [33],.str [33]])->zl 1 (.ptr b r) (.str s) hh (.mk kk)=kk (hh.set b (.own 0 (strs (([[33],[33]]:List (List UInt8)).set r s)))):=λb hh kk ho=>by
  rw[zfZ rfl,ho,zeH,zcC (by show r<2;omega),hset]
 rw[TG.c243];unfold f243;simp (disch:=first|omega|simp only[zD]<;>omega|assumption) only[↓zR,↓zRM,zR,zRM,reduceAdd,reduceMul,reduceToNat,↓f243_J0,haw];refine W _ _ ?_;intro v h1 ⟨e1,eu⟩;obtain⟨c,eu,hc⟩:∃c,v = .tup [.int .i64 u.kind,.int .i64 u.num,c,.int .i64 0]/\zO h1 h.n h1.n 1 c (strs u.kids):=eu;subst eu;obtain⟨hF,ehF⟩:∃hF,hF=((((((h1.push (.own 0 [.int .i64 0,.int .i64 0,.int .i64 0,.nils])).push (.own 0 [.int .i64 1,.int .i64 (r:Int),.int .i64 0,.nils])).push (.own 0 [.int .i64 0,.sl h1.n 0 1 1 none,.int .i64 2,.sl (h1.n+1) 0 1 1 none])).push (.own 0 [.nils])).set (h1.n+3) (.own 0 [.sl (h1.n+2) 0 2 2 none])).push (.own 0 [.str [33],.str [33]])).set (h1.n+4) (.own 0 (([.str [33],.str [33]]:List AV).set r (.str s))):=⟨_,rfl⟩
 have nF:hF.n=h1.n+5:=by rw[ehF];simp only[H.n_set,H.n_push]
 have gF:∀i,i<h1.n->hF.get i=h1.get i:=λi hi=>by
  rw[ehF,zd (by omega),za (by simp only[H.n_set,H.n_push];omega),zd (by omega),za (by simp only[H.n_push];omega),za (by simp only[H.n_push];omega),za (by simp only[H.n_push];omega),za (by omega)]
 have eF:Ext h1 hF:=⟨by omega,gF⟩
 have g1:hF.get h1.n = .own 0 [.int .i64 0,.int .i64 0,.int .i64 0,.nils]:=by
  rw[ehF,zd (by omega),za (by simp only[H.n_set,H.n_push];omega),zd (by omega),za (by simp only[H.n_push];omega),za (by simp only[H.n_push];omega),za (by simp only[H.n_push];omega),ze rfl]
 have g2:hF.get (h1.n+1) = .own 0 [.int .i64 1,.int .i64 (r:Int),.int .i64 0,.nils]:=by
  rw[ehF,zd (by omega),za (by simp only[H.n_set,H.n_push];omega),zd (by omega),za (by simp only[H.n_push];omega),za (by simp only[H.n_push];omega),ze (by simp only[H.n_push])]
 have g3:hF.get (h1.n+2) = .own 0 [.int .i64 0,.sl h1.n 0 1 1 none,.int .i64 2,.sl (h1.n+1) 0 1 1 none]:=by
  rw[ehF,zd (by omega),za (by simp only[H.n_set,H.n_push];omega),zd (by omega),za (by simp only[H.n_push];omega),ze (by simp only[H.n_push])]
 have g4:(hF.get (h1.n+3)).cells=some [.sl (h1.n+2) 0 2 2 none]:=by
  rw[ehF,zd (by omega),za (by simp only[H.n_set,H.n_push];omega),zj rfl];rfl
 have g5:hF.get (h1.n+4) = .own 0 (strs (([[33],[33]]:List (List UInt8)).set r s)):=by rw[ehF,zj rfl,hset]
 have hsa:SlAt hF (.sl (h1.n+4) 0 2 2 none) (strs (([[33],[33]]:List (List UInt8)).set r s)):=.inr ⟨h1.n+4,0,2,none,_,by rw[zQ,List.length_set];rfl,by omega,by rw[g5];rfl,by rw[List.drop_zero,List.take_length],by omega⟩;have hpl:LAt 2 DfC hF (.sl (h1.n+2) 0 2 2 none) (zdU (r:Int)):=by
  refine .inr ⟨h1.n+2,0,2,none,_,rfl,by omega,by rw[g3];rfl,by simp[zdU],λj x hx=>?_⟩
  match j,hx with
  | 0,hx=>
   cases hx;refine⟨_,rfl,.inr ⟨h1.n,0,1,none,_,rfl,by omega,by rw[g1];rfl,by simp,λj x hx=>?_⟩⟩
   match j,hx with
   | 0,hx=>cases hx;exact⟨.nils,rfl,.inl ⟨rfl,rfl⟩⟩
   | j+1,hx=>simp at hx
  | 1,hx=>
   cases hx;refine⟨_,rfl,.inr ⟨h1.n+1,0,1,none,_,rfl,by omega,by rw[g2];rfl,by simp,λj x hx=>?_⟩⟩
   match j,hx with
   | 0,hx=>cases hx;exact⟨.nils,rfl,.inl ⟨rfl,rfl⟩⟩
   | j+1,hx=>simp at hx
  | j+2,hx=>simp[zdU] at hx
 have tF:((((((h1.push (.own 0 [.int .i64 0,.int .i64 0,.int .i64 0,.nils])).push (.own 0 [.int .i64 1,.int .i64 (r:Int),.int .i64 0,.nils])).push (.own 0 [.int .i64 0,.sl h1.n 0 1 1 none,.int .i64 2,.sl (h1.n+1) 0 1 1 none])).push (.own 0 [.nils])).set (h1.n+1+1+1) (.own 0 [.sl (h1.n+1+1) 0 2 2 none])).push (.own 0 [.str [33],.str [33]])).set (h1.n+1+1+1+1) (.own 0 (([.str [33],.str [33]]:List AV).set r (.str s)))=hF:=ehF.symm;have WH:=TN.w155 (β:=β) TC T L (m+1) hpl (by simp[zdU]) (λd hd=>by
  have:d=⟨0,[⟨0,0,0,[]⟩]⟩\/d=⟨2,[⟨1,(r:Int),0,[]⟩]⟩:=by simpa [zdU] using hd
  rcases this with rfl|rfl<;>simp) hsa (by rw[List.length_set];simp;omega) 1 5
 rw[hhead] at WH;have co:zt (((((h1.push (.own 0 [.int .i64 0,.int .i64 0,.int .i64 0,.nils])).push (.own 0 [.int .i64 1,.int .i64 (r:Int),.int .i64 0,.nils])).push (.own 0 [.int .i64 0,.sl h1.n 0 1 1 none,.int .i64 2,.sl (h1.n+1) 0 1 1 none])).push (.own 0 [.nils])).get (h1.n+1+1+1))=some (0,[.nils]):=by
  rw[ze (by simp only[H.n_push])];rfl
 simp (disch:=first|omega|simp only[zD]<;>omega|assumption) only[↓zR,↓zRM,zR,zRM,reduceAdd,reduceMul,reduceToNat,↓f243_J6,hand,hb1,hb2,hb3,hb4,hb5,↓hs1,↓hs2,↓hs3,hiad,tF,g4];refine WH _ _ ?_;intro v h2 ⟨e2,eu⟩;subst eu
 by_cases h0:u.kind=0
 ·simp only[if_pos h0];simp (disch:=first|omega|simp only[zD]<;>omega|assumption) only[↓zR,↓zRM,zR,zRM,reduceAdd,reduceMul,reduceToNat,eq_true h0,T.w16];exact hk _ _ rfl
 ·simp only[if_neg h0];obtain⟨fo,hcon⟩:=read_ok hs h0;have hmk:=zfz fo hcon;simp only[List.length_map] at hmk;have lc:=(hc.sl (Nat.le_refl _)).len (β:=β);have lc':∀kc:VK β,qLenL c (.mk kc)=kc (.int .i64 (u.kids.length:Int)):=λkc=>by rw[lc,zQ]
  generalize hw:zdb ⟨u.kind,u.num,u.kids.map .term⟩=ww at hmk;have n1:=e1.n;have e12:=eF.trans e2;have n12:=e12.n;simp (disch:=first|omega|simp only[zD]<;>omega|assumption) only[↓zR,↓zRM,zR,zRM,reduceAdd,reduceMul,reduceToNat,eq_false h0,↓f243_J23];refine zM 29 (m+1) _ _ (λi x0 x1 x2 x3 x4 x5 x6 x7 x8 x9 x10 x11 x12 x13 x14 x15 x16 x17 x18 x19 x20 x21 x22 x23 x24 x25 x26 x27 x28 h'=>x3 = .int .i64 u.kind/\x4 = .int .i64 u.num/\x5=c/\x10 = .str ww/\x11 = .int .i64 0/\h1.n<=h'.n/\∃j:Nat,x12 = .int .i64 (j:Int)/\j+i=u.kids.length/\zO h' h.n h1.n 1 c (strs (List.replicate j [95]++u.kids.drop j))) u.kids.length (by have:=hkr.2.1;omega) ?_ _ _ _ _ _ _ _ _ _ _ _ _ _ _ _ _ _ _ _ _ _ _ _ _ _ _ _ _ _ _
   ⟨rfl,rfl,rfl,rfl,rfl,n12,0,rfl,by omega,by
    rw[List.replicate_zero,List.nil_append,List.drop_zero];exact hc.mono (Nat.le_refl _) (Nat.le_refl _) λi p q=>e12.get i q⟩
  intro l i ih x0 x1 x2 x3 x4 x5 x6 x7 x8 x9 x10 x11 x12 x13 x14 x15 x16 x17 x18 x19 x20 x21 x22 x23 x24 x25 x26 x27 x28 h' ⟨p3,p4,p5,p10,p11,nn,j,p12,f2,f7⟩;subst p3 p4 p5 p10 p11 p12;have hkl:=hkr.2.1;cases i with
  | zero=>
   have hj:j=u.kids.length:=by omega
   have cj:¬ (j:Int)<(u.kids.length:Int):=by omega
   rw[hj,List.drop_length,List.append_nil] at f7;have W14:=T.w14 (β:=β) (m+1) (by omega) u.kind u.num (by have:=hkr.2.2.1;omega) (by have:=hkr.2.2.1;omega) (List.replicate u.kids.length [95]) (λx hx=>by rw[(List.mem_replicate.1 hx).2];simp) (by simp;omega) x5 h' (f7.sl nn);rw[hmk] at W14;simp (disch:=first|omega|simp only[zD]<;>omega|assumption) only[↓zR,↓zRM,zR,zRM,reduceAdd,reduceMul,reduceToNat,↓f243_J24,↓f243_J36,↓f243_J35,↓f243_L34,↓f243_J23,↓f243_J6,↓f243_J0,lc',eq_false cj];refine W14 _ _ ?_;intro v h3 ⟨e3,eu⟩;have eu:v = .tup [.str ww,.int .i64 0]:=eu;subst eu;simp (disch:=first|omega|simp only[zD]<;>omega|assumption) only[↓zR,↓zRM,zR,zRM,reduceAdd,reduceMul,reduceToNat,T.w16,eq_self];exact hk _ _ (by simp)
  | succ i=>
   have hj:j<u.kids.length:=by omega
   have cj:(j:Int)<(u.kids.length:Int):=by omega
   obtain⟨h3,q1,q2,q3,q4⟩:=f7.put (β:=β) (j:=j) (by rw[List.length_append,List.length_replicate,List.length_drop];omega) [95];simp (disch:=first|omega|simp only[zD]<;>omega|assumption) only[↓zR,↓zRM,zR,zRM,reduceAdd,reduceMul,reduceToNat,↓f243_J24,↓f243_J36,↓f243_J35,↓f243_L34,↓f243_J23,↓f243_J6,↓f243_J0,lc',eq_true cj];rw[q1];simp (disch:=first|omega|simp only[zD]<;>omega|assumption) only[↓zR,↓zRM,zR,zRM,reduceAdd,reduceMul,reduceToNat,↓f243_J36];refine ih i (by omega) _ _ _ _ _ _ _ _ _ _ _ _ _ _ _ _ _ _ _ _ _ _ _ _ _ _ _ _ _ _ ⟨rfl,rfl,rfl,rfl,rfl,by omega,j+1,zbe j,by omega,?_⟩;have:(List.replicate j ([95]:List UInt8)++u.kids.drop j).set j [95]=List.replicate (j+1) [95]++u.kids.drop (j+1):=by
    rw[List.set_append_right _ _ (by rw[List.length_replicate];exact Nat.le_refl _),List.length_replicate,Nat.sub_self,List.drop_eq_getElem_cons hj,List.set_cons_zero,List.replicate_succ',List.append_assoc];rfl
   rw[this] at q2;exact q2
end
end Am.F
