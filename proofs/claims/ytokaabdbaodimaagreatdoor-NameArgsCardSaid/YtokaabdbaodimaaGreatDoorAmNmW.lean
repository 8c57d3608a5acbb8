/- More fuel;holes filled: plain. -/
import Derived.Test.YtokaabdbaodimaaGreatDoorAmJj
set_option linter.unusedVariables false
namespace Am.F
open Go Am
theorem zfG{p:List Df}:∀(N l:Nat) (t:Thg) (d:Nat),l<N->(zn p N l t).1 ≠ .bad 901->zn p (N+d) (l+d) t=((zn p N l t).1,(zn p N l t).2+d)
 | 0,l,t,d,hl,_=>absurd hl (by omega)
 | N+1,l,.term s,d,hl,h=>by
  rw[show N+1+d=(N+d)+1 by omega];rfl
 | N+1,0,.part dd a env,d,hl,h=>absurd rfl h
 | N+1,l+1,.part dd a env,d,hl,h=>by
  have ih:=λl' t'=>zfG (p:=p) N l' t' d
  have hl':l<N:=by omega
  rw[show N+1+d=(N+d)+1 by omega,show l+1+d=(l+d)+1 by omega];unfold zn at h⊢;cases hb:(zbp p dd)[a]? with
  | none=>rfl
  | some e=>
   rw[hb] at h;simp only at h⊢
   by_cases c0:e.kind=0
   ·rw[if_pos c0,if_pos c0]
   rw[if_neg c0] at h;rw[if_neg c0,if_neg c0]
   by_cases c1:e.kind=1
   ·rw[if_pos c1] at h;rw[if_pos c1,if_pos c1];exact ih _ _ hl' h
   rw[if_neg c1] at h;rw[if_neg c1,if_neg c1]
   by_cases c2:e.kind=2
   ·rw[if_pos c2] at h;rw[if_pos c2,if_pos c2];exact ih _ _ hl' h
   rw[if_neg c2] at h;rw[if_neg c2,if_neg c2]
   by_cases c3:e.kind=3
   ·rw[if_pos c3,if_pos c3]
   rw[if_neg c3] at h;rw[if_neg c3,if_neg c3]
   by_cases c4:e.kind=4
   ·rw[if_pos c4] at h;rw[if_pos c4,if_pos c4];have h1:=ih l (.part dd (e.kids.getD 0 0).toNat env) hl';have hle:=zaQ p N l (.part dd (e.kids.getD 0 0).toNat env);generalize zn p N l (.part dd (e.kids.getD 0 0).toNat env)=r1 at h h1 hle;obtain⟨r,l1⟩:=r1;cases r with
    | bad c=>rw[h1 h]
    | ok f=>
     rw[h1 (by simp)];simp only at h⊢
     by_cases d1:f.kind=1
     ·rw[if_pos d1] at h;rw[if_pos d1,if_pos d1];have h2:=ih l1 (.part dd (e.kids.getD 1 0).toNat env) (Nat.lt_of_le_of_lt hle hl');generalize zn p N l1 (.part dd (e.kids.getD 1 0).toNat env)=r2 at h h2;obtain⟨r,l2⟩:=r2;cases r with
      | bad c=>rw[h2 h]
      | ok g=>rw[h2 (by simp)];simp only;split<;>rfl
     ·rw[if_neg d1,if_neg d1]
   rw[if_neg c4] at h;rw[if_neg c4,if_neg c4]
   by_cases c5:e.kind=5
   ·rw[if_pos c5] at h;rw[if_pos c5,if_pos c5];have h1:=ih l (.part dd (e.kids.getD 0 0).toNat env) hl';have hle:=zaQ p N l (.part dd (e.kids.getD 0 0).toNat env);generalize zn p N l (.part dd (e.kids.getD 0 0).toNat env)=r1 at h h1 hle;obtain⟨r,l1⟩:=r1;cases r with
    | bad c=>rw[h1 h]
    | ok f=>
     rw[h1 (by simp)];simp only at h⊢
     by_cases d1:f.kind=3
     ·rw[if_pos d1,if_pos d1]
     rw[if_neg d1] at h;rw[if_neg d1,if_neg d1]
     by_cases d2:f.kind=2/\f.num=e.num/\(f.parts.length:Int)=e.bind
     ·rw[if_pos d2] at h;rw[if_pos d2,if_pos d2];exact ih _ _ (Nat.lt_of_le_of_lt hle hl') h
     ·rw[if_neg d2] at h;rw[if_neg d2,if_neg d2];exact ih _ _ (Nat.lt_of_le_of_lt hle hl') h
   rw[if_neg c5] at h;rw[if_neg c5,if_neg c5]
   by_cases c6:e.kind=6
   ·rw[if_pos c6] at h;rw[if_pos c6,if_pos c6];exact ih _ _ hl' h
   ·rw[if_neg c6,if_neg c6]
inductive Fl (w:List UInt8):Thg->Thg->Prop
 | hole:Fl w (.term [95]) (.term w)
 | same (s:List UInt8):Fl w (.term s) (.term s)
 | part {d a:Nat} {env env':List Thg} (hl:env.length=env'.length) (he:∀(j:Nat) (x y:Thg),env[j]?=some x->env'[j]?=some y->Fl w x y):Fl w (.part d a env) (.part d a env')
def Fls(w:List UInt8)(xs ys:List Thg):Prop:=xs.length=ys.length/\∀(j:Nat) (x y:Thg),xs[j]?=some x->ys[j]?=some y->Fl w x y
theorem Fls.app{w:List UInt8}{a b c d:List Thg}(h1:Fls w a b)(h2:Fls w c d):Fls w (a++c) (b++d):=by
 refine⟨by rw[List.length_append,List.length_append,h1.1,h2.1],λj x y hx hy=>?_⟩;rcases Nat.lt_or_ge j a.length with hj|hj
 ·rw[List.getElem?_append_left hj] at hx;rw[List.getElem?_append_left (by rw[<- h1.1];exact hj)] at hy;exact h1.2 j x y hx hy
 ·rw[List.getElem?_append_right hj] at hx;rw[List.getElem?_append_right (by rw[<- h1.1];exact hj),<- h1.1] at hy;exact h2.2 _ x y hx hy
theorem Fls.terms(w:List UInt8)(xs:List (List UInt8)):Fls w (xs.map .term) (xs.map .term):=⟨rfl,λj x y hx hy=>by
 rw[hx] at hy;cases hy;rw[List.getElem?_map] at hx;cases hq:xs[j]? with
 | none=>rw[hq] at hx;cases hx
 | some s=>rw[hq] at hx;cases hx;exact .same s⟩
theorem Fls.kids{w:List UInt8}{env env':List Thg}(h:Fls w env env')(d:Nat)(ks:List Int):Fls w (zu d env ks) (zu d env' ks):=by
 unfold zu;refine⟨by rw[List.length_map,List.length_map],λj x y hx hy=>?_⟩;rw[List.getElem?_map] at hx hy;cases hq:ks[j]? with
 | none=>rw[hq] at hx;cases hx
 | some k=>rw[hq] at hx hy;cases hx;cases hy;exact .part h.1 h.2
theorem Fls.one{w:List UInt8}{x y:Thg}(h:Fl w x y):Fls w [x] [y]:=⟨rfl,λj a b ha hb=>by
 cases j with
 | zero=>cases ha;cases hb;exact h
 | succ j=>simp at ha⟩
theorem zfH{p:List Df}{w:List UInt8}:∀(N l:Nat) (t t':Thg) (f:Fnd) (l1:Nat),Fl w t t'->zn p N l t=(.ok f,l1)->∃g,zn p N l t'=(.ok g,l1)/\g.kind=f.kind/\g.num=f.num/\Fls w f.parts g.parts
 | 0,l,t,t',f,l1,_,h=>by cases h
 | N+1,l,.term s,t',f,l1,ht,h=>by
  have h':(zb4 s,l)=(.ok f,l1):=h;cases ht with
  | hole=>
   exfalso
   have:zb4 [95] = .bad 902:=by unfold zb4;rw[zhl];rfl
   rw[this] at h';cases h'
  | same s=>
   refine⟨f,h,rfl,rfl,?_⟩;have h1:zb4 s = .ok f:=congrArg Prod.fst h';unfold zb4 at h1;cases hs:tP s with
   | none=>rw[hs] at h1;cases h1
   | some u=>
    rw[hs] at h1;simp only at h1
    by_cases h0:u.kind=0
    ·rw[if_pos h0] at h1;cases h1
    ·rw[if_neg h0] at h1;cases h1;exact Fls.terms w u.kids
 | N+1,0,.part dd a env,t',f,l1,ht,h=>by cases h
 | N+1,l+1,.part dd a env,t',f,l1,ht,h=>by
  cases ht with
  | part hl he=>
  rename_i env';have ih:=zfH (p:=p) (w:=w) N;have hE:Fls w env env':=⟨hl,he⟩
  unfold zn at h⊢;cases hb:(zbp p dd)[a]? with
  | none=>rw[hb] at h;cases h
  | some e=>
   rw[hb] at h;simp only at h⊢
   by_cases c0:e.kind=0
   ·rw[if_pos c0] at h;rw[if_pos c0];cases h;exact⟨_,rfl,rfl,rfl,rfl,λj x y hx=>by simp at hx⟩
   rw[if_neg c0] at h;rw[if_neg c0]
   by_cases c1:e.kind=1
   ·rw[if_pos c1] at h;rw[if_pos c1];refine ih l _ _ f l1 ?_ h;rw[List.getD_eq_getElem?_getD,List.getD_eq_getElem?_getD];cases hx:env[e.num.toNat]? with
    | none=>
     have:env'[e.num.toNat]?=none:=by rw[List.getElem?_eq_none_iff] at hx ⊢;omega
     rw[this];exact .same []
    | some x=>
     obtain⟨y,hy⟩:∃y,env'[e.num.toNat]?=some y:=⟨_,List.getElem?_eq_getElem (by have:=(List.getElem?_eq_some_iff.1 hx).1;omega)⟩
     rw[hy];exact he _ x y hx hy
   rw[if_neg c1] at h;rw[if_neg c1]
   by_cases c2:e.kind=2
   ·rw[if_pos c2] at h;rw[if_pos c2];have hK:=hE.kids dd e.kids;exact ih l _ _ f l1 (.part hK.1 hK.2) h
   rw[if_neg c2] at h;rw[if_neg c2]
   by_cases c3:e.kind=3
   ·rw[if_pos c3] at h;rw[if_pos c3];cases h;exact⟨_,rfl,rfl,rfl,hE.kids dd e.kids⟩
   rw[if_neg c3] at h;rw[if_neg c3]
   by_cases c4:e.kind=4
   ·rw[if_pos c4] at h;rw[if_pos c4];cases hr:zn p N l (.part dd (e.kids.getD 0 0).toNat env) with
    | mk r l2=>
     rw[hr] at h;cases r with
     | bad c=>cases h
     | ok q=>
      obtain⟨g,g1,g2,g3,g4⟩:=ih l _ _ q l2 (.part hl he) hr;rw[g1];simp only at h⊢;rw[g2]
      by_cases d1:q.kind=1
      ·rw[if_pos d1] at h;rw[if_pos d1];cases hr2:zn p N l2 (.part dd (e.kids.getD 1 0).toNat env) with
       | mk r l3=>
        rw[hr2] at h;cases r with
        | bad c=>cases h
        | ok q2=>
         obtain⟨g',g1',g2',g3',g4'⟩:=ih l2 _ _ q2 l3 (.part hl he) hr2;rw[g1'];simp only at h⊢;rw[g2',g3,g3']
         by_cases d2:q2.kind=1
         ·rw[if_pos d2] at h;rw[if_pos d2];cases h;exact⟨_,rfl,rfl,rfl,rfl,λj x y hx=>by simp at hx⟩
         ·rw[if_neg d2] at h;rw[if_neg d2];cases h;exact⟨_,rfl,rfl,rfl,rfl,λj x y hx=>by simp[zaE] at hx⟩
      ·rw[if_neg d1] at h;rw[if_neg d1];cases h;exact⟨_,rfl,rfl,rfl,rfl,λj x y hx=>by simp[zaE] at hx⟩
   rw[if_neg c4] at h;rw[if_neg c4]
   by_cases c5:e.kind=5
   ·rw[if_pos c5] at h;rw[if_pos c5];cases hr:zn p N l (.part dd (e.kids.getD 0 0).toNat env) with
    | mk r l2=>
     rw[hr] at h;cases r with
     | bad c=>cases h
     | ok q=>
      obtain⟨g,g1,g2,g3,g4⟩:=ih l _ _ q l2 (.part hl he) hr;rw[g1];simp only at h⊢;rw[g2,g3,<- g4.1]
      by_cases d1:q.kind=3
      ·rw[if_pos d1] at h;rw[if_pos d1];cases h;exact⟨g,rfl,g2,g3,g4⟩
      rw[if_neg d1] at h;rw[if_neg d1]
      by_cases d2:q.kind=2/\q.num=e.num/\(q.parts.length:Int)=e.bind
      ·rw[if_pos d2] at h;rw[if_pos d2];have hA:=hE.app g4;exact ih l2 _ _ f l1 (.part hA.1 hA.2) h
      ·rw[if_neg d2] at h;rw[if_neg d2];exact ih l2 _ _ f l1 (.part hl he) h
   rw[if_neg c5] at h;rw[if_neg c5]
   by_cases c6:e.kind=6
   ·rw[if_pos c6] at h;rw[if_pos c6];have hA:=hE.app (Fls.one (.part (d:=dd) (a:=(e.kids.getD 0 0).toNat) hl he));exact ih l _ _ f l1 (.part hA.1 hA.2) h
   ·rw[if_neg c6] at h;rw[if_neg c6];cases h;exact⟨_,rfl,rfl,rfl,rfl,λj x y hx=>by simp[zaE] at hx⟩
theorem outN_ne{r:Rs}(h:(outN r).2≠0):(outN r).1=[]:=by
 cases r with
 | bad c=>rfl
 | ok f=>exact absurd rfl h
theorem ziu{p:List Df}{f:Int}{args:List (List UInt8)}{k:Int}(h:(zaz p f args k).2≠0):(zaz p f args k).1=[]:=by
 unfold zaz at h⊢
 by_cases hm:zZ p f args k
 ·rw[if_pos hm] at h⊢;exact outN_ne h
 ·rw[if_neg hm]
theorem zfE{p:List Df}{f:Int}{args:List (List UInt8)}{a b:Int}(h0:0<=a)(h1:a<=b)(h2:b<=400)(h:(zaz p f args a).2≠901):zaz p f args b=zaz p f args a:=by
 unfold zaz at h⊢
 by_cases hm:zZ p f args a
 ·have hm':zZ p f args b:=⟨hm.1,hm.2.1,hm.2.2.1,hm.2.2.2.1,hm.2.2.2.2.1,by omega,h2⟩
  rw[if_pos hm] at h⊢;rw[if_pos hm'];have hne:(zn p (a.toNat+1) a.toNat (zbJ p f.toNat args)).1 ≠ .bad 901:=λhh=>h (by rw[hh];rfl)
  have:=zfG (p:=p) (a.toNat+1) a.toNat (zbJ p f.toNat args) (b.toNat-a.toNat) (by omega) hne
  rw[show a.toNat+1+(b.toNat-a.toNat)=b.toNat+1 by omega,show a.toNat+(b.toNat-a.toNat)=b.toNat by omega] at this;rw[this]
 ·have hm':¬ zZ p f args b:=λhh=>hm ⟨hh.1,hh.2.1,hh.2.2.1,hh.2.2.2.1,hh.2.2.2.2.1,h0,by omega⟩
  rw[if_neg hm,if_neg hm']
def zc7(w s:List UInt8):List UInt8:=if s=[95] then w else s
theorem zjg{p:List Df}{f:Int}{args:List (List UInt8)}{k:Int}{w:List UInt8}(hw:mayP w=true)(h:(zaz p f args k).2=0):zaz p f (args.map (zc7 w)) k=zaz p f args k:=by
 unfold zaz at h⊢
 by_cases hm:zZ p f args k
 ·have hm':zZ p f (args.map (zc7 w)) k:=⟨hm.1,hm.2.1,hm.2.2.1,by rw[List.length_map];exact hm.2.2.2.1,by
   rw[List.all_eq_true];intro x hx;obtain⟨y,hy,rfl⟩:=List.mem_map.1 hx;unfold zc7
   by_cases hh:y=[95]
   ·rw[if_pos hh];exact hw
   ·rw[if_neg hh];exact List.all_eq_true.1 hm.2.2.2.2.1 y hy,hm.2.2.2.2.2.1,hm.2.2.2.2.2.2⟩
  rw[if_pos hm] at h⊢;rw[if_pos hm'];have hfl:Fl w (zbJ p f.toNat args) (zbJ p f.toNat (args.map (zc7 w))):=by
   unfold zbJ;refine .part (by simp) λj x y hx hy=>?_
   rw[List.getElem?_map] at hx hy;rw[List.getElem?_map] at hy;cases hq:args[j]? with
   | none=>rw[hq] at hx;cases hx
   | some s=>
    rw[hq] at hx hy;cases hx;cases hy;unfold zc7
    by_cases hh:s=[95]
    ·rw[if_pos hh,hh];exact .hole
    ·rw[if_neg hh];exact .same s
  cases hr:zn p (k.toNat+1) k.toNat (zbJ p f.toNat args) with
  | mk r l1=>
   rw[hr] at h;cases r with
   | bad c=>
    exfalso
    obtain⟨_,_,_,_,_,_,wf,_⟩:=zb7 hm;have hc:=zdR hm.1 (k.toNat+1) k.toNat _ wf (by omega);rw[hr] at hc;have h':c=0:=h;have hc:c=901\/c=902:=hc;omega
   | ok q=>
    obtain⟨g,g1,g2,g3,g4⟩:=zfH _ _ _ _ q l1 hfl hr;rw[g1];show (zdb g,(0:Int))=(zdb q,0);unfold zdb;rw[g2,g3,g4.1]
 ·rw[if_neg hm] at h;cases h
end Am.F
