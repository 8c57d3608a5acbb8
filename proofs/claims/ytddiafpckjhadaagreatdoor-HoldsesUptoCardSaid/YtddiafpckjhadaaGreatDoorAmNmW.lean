/- More fuel;holes filled: plain. -/
import Derived.Test.YtddiafpckjhadaaGreatDoorAmJj
set_option linter.unusedVariables false
namespace Am.F
open Go Am
inductive Fl (w:List UInt8):Thg->Thg->Prop
 | hole:Fl w (.term [95]) (.term w)
 | same (s:List UInt8):Fl w (.term s) (.term s)
 | part {d a:Nat} {env env':List Thg} (hl:env.length=env'.length) (he:∀(j:Nat) (x y:Thg),env[j]?=some x->env'[j]?=some y->Fl w x y):Fl w (.part d a env) (.part d a env')
def Fls(w:List UInt8)(xs ys:List Thg):Prop:=xs.length=ys.length/\∀(j:Nat) (x y:Thg),xs[j]?=some x->ys[j]?=some y->Fl w x y
theorem Fls.app{w:List UInt8}{a b c d:List Thg}(h1:Fls w a b)(h2:Fls w c d):Fls w (a++c) (b++d):=by
 refine⟨by rw[List.length_append,List.length_append,h1.1,h2.1],λj x y hx hy=>?_⟩;rcases Nat.lt_or_ge j a.length with hj|hj
 ·rw[List.getElem?_append_left hj] at hx;rw[List.getElem?_append_left (by rw[<- h1.1];exact hj)] at hy;exact h1.2 j x y hx hy
 ·rw[List.getElem?_append_right hj] at hx;rw[List.getElem?_append_right (by rw[<- h1.1];exact hj),<- h1.1] at hy;exact h2.2 _ x y hx hy
theorem Fls.terms(w:List UInt8)(xs:List (List UInt8)):Fls w (xs.map .term) (xs.map .term):=⟨rfl,λj x y hx hy=>by
 rw[hx] at hy;cases hy;rw[List.getElem?_map] at hx;cases hq:xs[j]? with
 | none=>rw[hq] at hx;cases hx
 | some s=>rw[hq] at hx;cases hx;exact .same s⟩
theorem Fls.kids{w:List UInt8}{env env':List Thg}(h:Fls w env env')(d:Nat)(ks:List Int):Fls w (zu d env ks) (zu d env' ks):=by
 unfold zu;refine⟨by rw[List.length_map,List.length_map],λj x y hx hy=>?_⟩;rw[List.getElem?_map] at hx hy;cases hq:ks[j]? with
 | none=>rw[hq] at hx;cases hx
 | some k=>rw[hq] at hx hy;cases hx;cases hy;exact .part h.1 h.2
theorem Fls.one{w:List UInt8}{x y:Thg}(h:Fl w x y):Fls w [x] [y]:=⟨rfl,λj a b ha hb=>by
 cases j with
 | zero=>cases ha;cases hb;exact h
 | succ j=>simp at ha⟩
end Am.F
