/- More fuel;holes filled: plain. -/
import Derived.Test.YtkbjmlcdmbajcaaDoorAmJj
set_option linter.unusedVariables false
namespace Am.F
open Go Am
theorem zeV{p:List Df}:∀(N l:Nat) (t:Thg) (d:Nat),l<N→(zp p N l t).1 ≠ .bad 901→zp p (N+d) (l+d) t=((zp p N l t).1,(zp p N l t).2+d)
 | 0,l,t,d,hl,_=>absurd hl (by omega)
 | N+1,l,.term s,d,hl,h=>by
  rw[show N+1+d=(N+d)+1 by omega];rfl
 | N+1,0,.part dd a env,d,hl,h=>absurd rfl h
 | N+1,l+1,.part dd a env,d,hl,h=>by
  have ih:=fun l' t'=>zeV (p:=p) N l' t' d
  have hl':l<N:=by omega
  rw[show N+1+d=(N+d)+1 by omega,show l+1+d=(l+d)+1 by omega]
  unfold zp at h⊢
  cases hb:(za5 p dd)[a]? with
  | none=>rfl
  | some e=>
   rw[hb] at h
   simp only at h⊢
   by_cases c0:e.kind=0
   ·rw[if_pos c0,if_pos c0]
   rw[if_neg c0] at h;rw[if_neg c0,if_neg c0]
   by_cases c1:e.kind=1
   ·rw[if_pos c1] at h;rw[if_pos c1,if_pos c1];exact ih _ _ hl' h
   rw[if_neg c1] at h;rw[if_neg c1,if_neg c1]
   by_cases c2:e.kind=2
   ·rw[if_pos c2] at h;rw[if_pos c2,if_pos c2];exact ih _ _ hl' h
   rw[if_neg c2] at h;rw[if_neg c2,if_neg c2]
   by_cases c3:e.kind=3
   ·rw[if_pos c3,if_pos c3]
   rw[if_neg c3] at h;rw[if_neg c3,if_neg c3]
   by_cases c4:e.kind=4
   ·rw[if_pos c4] at h;rw[if_pos c4,if_pos c4]
    have h1:=ih l (.part dd (e.kids.getD 0 0).toNat env) hl'
    have hle:=zaT p N l (.part dd (e.kids.getD 0 0).toNat env)
    generalize zp p N l (.part dd (e.kids.getD 0 0).toNat env)=r1 at h h1 hle
    obtain⟨r,l1⟩:=r1
    cases r with
    | bad c=>rw[h1 h]
    | ok f=>
     rw[h1 (by simp)]
     simp only at h⊢
     by_cases d1:f.kind=1
     ·rw[if_pos d1] at h;rw[if_pos d1,if_pos d1]
      have h2:=ih l1 (.part dd (e.kids.getD 1 0).toNat env) (Nat.lt_of_le_of_lt hle hl')
      generalize zp p N l1 (.part dd (e.kids.getD 1 0).toNat env)=r2 at h h2
      obtain⟨r,l2⟩:=r2
      cases r with
      | bad c=>rw[h2 h]
      | ok g=>rw[h2 (by simp)];simp only;split<;>rfl
     ·rw[if_neg d1,if_neg d1]
   rw[if_neg c4] at h;rw[if_neg c4,if_neg c4]
   by_cases c5:e.kind=5
   ·rw[if_pos c5] at h;rw[if_pos c5,if_pos c5]
    have h1:=ih l (.part dd (e.kids.getD 0 0).toNat env) hl'
    have hle:=zaT p N l (.part dd (e.kids.getD 0 0).toNat env)
    generalize zp p N l (.part dd (e.kids.getD 0 0).toNat env)=r1 at h h1 hle
    obtain⟨r,l1⟩:=r1
    cases r with
    | bad c=>rw[h1 h]
    | ok f=>
     rw[h1 (by simp)]
     simp only at h⊢
     by_cases d1:f.kind=3
     ·rw[if_pos d1,if_pos d1]
     rw[if_neg d1] at h;rw[if_neg d1,if_neg d1]
     by_cases d2:f.kind=2∧f.num=e.num∧(f.parts.length:Int)=e.bind
     ·rw[if_pos d2] at h;rw[if_pos d2,if_pos d2];exact ih _ _ (Nat.lt_of_le_of_lt hle hl') h
     ·rw[if_neg d2] at h;rw[if_neg d2,if_neg d2];exact ih _ _ (Nat.lt_of_le_of_lt hle hl') h
   rw[if_neg c5] at h;rw[if_neg c5,if_neg c5]
   by_cases c6:e.kind=6
   ·rw[if_pos c6] at h;rw[if_pos c6,if_pos c6];exact ih _ _ hl' h
   ·rw[if_neg c6,if_neg c6]
inductive Fl (w:List UInt8):Thg→Thg→Prop
 | hole:Fl w (.term [95]) (.term w)
 | same (s:List UInt8):Fl w (.term s) (.term s)
 | part {d a:Nat} {env env':List Thg} (hl:env.length=env'.length) (he:∀(j:Nat) (x y:Thg),env[j]?=some x→env'[j]?=some y→Fl w x y):Fl w (.part d a env) (.part d a env')
def Fls(w:List UInt8)(xs ys:List Thg):Prop:=xs.length=ys.length∧∀(j:Nat) (x y:Thg),xs[j]?=some x→ys[j]?=some y→Fl w x y
theorem Fls.app{w:List UInt8}{a b c d:List Thg}(h1:Fls w a b)(h2:Fls w c d):Fls w (a++c) (b++d):=by
 refine⟨by rw[List.length_append,List.length_append,h1.1,h2.1],fun j x y hx hy=>?_⟩
 rcases Nat.lt_or_ge j a.length with hj|hj
 ·rw[List.getElem?_append_left hj] at hx
  rw[List.getElem?_append_left (by rw[← h1.1];exact hj)] at hy
  exact h1.2 j x y hx hy
 ·rw[List.getElem?_append_right hj] at hx
  rw[List.getElem?_append_right (by rw[← h1.1];exact hj),← h1.1] at hy
  exact h2.2 _ x y hx hy
theorem Fls.terms(w:List UInt8)(xs:List (List UInt8)):Fls w (xs.map .term) (xs.map .term):=⟨rfl,fun j x y hx hy=>by
 rw[hx] at hy;cases hy
 rw[List.getElem?_map] at hx
 cases hq:xs[j]? with
 | none=>rw[hq] at hx;cases hx
 | some s=>rw[hq] at hx;cases hx;exact .same s⟩
theorem Fls.kids{w:List UInt8}{env env':List Thg}(h:Fls w env env')(d:Nat)(ks:List Int):Fls w (zap d env ks) (zap d env' ks):=by
 unfold zap
 refine⟨by rw[List.length_map,List.length_map],fun j x y hx hy=>?_⟩
 rw[List.getElem?_map] at hx hy
 cases hq:ks[j]? with
 | none=>rw[hq] at hx;cases hx
 | some k=>rw[hq] at hx hy;cases hx;cases hy;exact .part h.1 h.2
theorem Fls.one{w:List UInt8}{x y:Thg}(h:Fl w x y):Fls w [x] [y]:=⟨rfl,fun j a b ha hb=>by
 cases j with
 | zero=>cases ha;cases hb;exact h
 | succ j=>simp at ha⟩
end Am.F
