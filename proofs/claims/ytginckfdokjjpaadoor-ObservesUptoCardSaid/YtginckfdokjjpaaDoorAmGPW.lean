/- What the functions come to. -/
import Derived.Test.YtginckfdokjjpaaDoorAmGPT
import Derived.Test.YtginckfdokjjpaaDoorAmJc
set_option maxRecDepth 100000
set_option linter.unusedVariables false
namespace Am.F
open Go Am
noncomputable section
variable {β:Type} (I:FI) (N:Nat) (call:zf β) (a:List AV) (h:H) (k:K β)
def f138_J1{β:Type}(k:K β)(x0 x1 x2 x3 x4:AV)(h:H):Option β :=
 k (.bool true) h
def f138_J4{β:Type}(l2:Cur β 5)(x0 x1 x2 x3 x4:AV)(h:H):Option β :=
 qAdd x3 (.int .i64 1)<|.mk λv5=>
 l2 x0 x1 x2 v5 x4 h
def f138_J3{β:Type}(call:zf β)(k:K β)(l2:Cur β 5)(x0 x1 x2 x3 x4:AV)(h:H):Option β :=
 zo 5 (.mk (
 f138_J4 l2))<|.mk λj4=>
 zaV 4 x0 x3<|.mk λv6=>
 zH 4 v6 h<|.mk λv7=>
 zaV 4 x1 x3<|.mk λv8=>
 zH 4 v8 h<|.mk λv9=>
 zg call (.fn 166 []) [v7,v9] h<|.mk λv10 h=>
 qNot v10<|.mk λv11=>
 qIf v11 (.mk (
 k (.bool false) h))<|.mk (
 j4 x0 x1 x2 x3 v11 h)
def f138_L2{β:Type}(call:zf β)(k:K β)(j1:Cur β 5)(l2:Cur β 5)(x0 x1 x2 x3 x4:AV)(h:H):Option β :=
 zo 5 (.mk (
 f138_J3 call k l2))<|.mk λj3=>
 qLenL x0<|.mk λv12=>
 qLss x3 v12<|.mk λv13=>
 qIf v13 (.mk (
 j3 x0 x1 .any x3 .any h))<|.mk (
 j1 x0 x1 .any x3 .any h)
def f138_J0{β:Type}(N:Nat)(call:zf β)(k:K β)(x0 x1 x2 x3 x4:AV)(h:H):Option β :=
 zo 5 (.mk (
 f138_J1 k))<|.mk λj1=>
 (zbF 5 N<|.mk (
 f138_L2 call k j1)) x0 x1 x2 (.int .i64 0) x4 h
def f138{β:Type}(N:Nat)(call:zf β)(a:List AV)(h:H)(k:K β):Option β :=
 zo 5 (.mk (
 f138_J0 N call k))<|.mk λj0=>
 qLenL (nth a 0)<|.mk λv14=>
 qLenL (nth a 1)<|.mk λv15=>
 qNeq v14 v15<|.mk λv16=>
 qIf v16 (.mk (
 k (.bool false) h))<|.mk (
 j0 (nth a 0) (nth a 1) (.bool false) (nth a 5) (nth a 26) h)
theorem y138:zJ I 138 T.s138 N call a h k=f138 N call a h k:=by kernel_rfl
def e138:Ent:=⟨138,T.s138,λ_ _=>f138,λ_=>y138⟩
structure GP (t:ETree):Prop where
 g138:t.get 138=some e138
section
variable {β:Type} {t:ETree} {I:FI} (n:Nat) (a:List AV) (h:H) (k:K β)
theorem GP.c138(T:GP t):za t I (n+1) (.fn 138 []) a h k=f138 n (za t I n) a h k:=by rw[cRule T.g138];rfl
end
end
end Am.F
