/- What the functions come to. -/
import Derived.Test.YtkbjmlcdmbajcaaGreatDoorAmGBLT
import Derived.Test.YtkbjmlcdmbajcaaGreatDoorAmJc
set_option maxRecDepth 100000
set_option linter.unusedVariables false
namespace Am.F
open Go Am
noncomputable section
variable {β:Type} (I:FI) (N:Nat) (call:zf β) (a:List AV) (h:H) (k:K β)
def f146_J0{β:Type}(call:zf β)(k:K β)(x0 x1 x2 x3:AV)(h:H):Option β :=
 qCall call (.fn 173 []) [x0,x1] h<|.mk λv1 h=>
 k (.tup [v1,(.int .i64 0)]) h
def f146{β:Type}(N:Nat)(call:zf β)(a:List AV)(h:H)(k:K β):Option β :=
 zj 4 (.mk (
 f146_J0 call k))<|.mk λj0=>
 qCall call (.fn 18 []) [(nth a 0)] h<|.mk λv2 h=>
 qNot v2<|.mk λv3=>
 qOr v3 h (.mk λh k=>
 qCall call (.fn 18 []) [(nth a 1)] h<|.mk λv4 h=>
 qNot v4<|.mk λv5=>
 k v5 h)<|.mk λv6 h=>
 qIf v6 (.mk (
 k (.tup [(.bool false),(.int .i64 300)]) h))<|.mk (
 j0 (nth a 0) (nth a 1) (.bool false) (.int .i64 0) h)
theorem y146:zx I 146 T.s146 N call a h k=f146 N call a h k:=by kernel_rfl
def f173_J12{β:Type}(k:K β)(x0 x1 x2 x3 x4 x5 x6 x7 x8 x9 x10 x11 x12 x13 x14 x15 x16 x17 x18 x19 x20:AV)(h:H):Option β :=
 k (.bool true) h
def f173_J15{β:Type}(l13:Cur β 21)(x0 x1 x2 x3 x4 x5 x6 x7 x8 x9 x10 x11 x12 x13 x14 x15 x16 x17 x18 x19 x20:AV)(h:H):Option β :=
 qAdd x9 (.int .i64 1)<|.mk λv16=>
 l13 x0 x1 x2 x3 x4 x5 x6 x7 x8 v16 x10 x11 x12 x13 x14 x15 x16 x17 x18 x19 x20 h
def f173_J14{β:Type}(call:zf β)(k:K β)(l13:Cur β 21)(x0 x1 x2 x3 x4 x5 x6 x7 x8 x9 x10 x11 x12 x13 x14 x15 x16 x17 x18 x19 x20:AV)(h:H):Option β :=
 zj 21 (.mk (
 f173_J15 l13))<|.mk λj15=>
 zs 1 x5 x9<|.mk λv17=>
 za v17 h<|.mk λv18=>
 zs 1 x8 x9<|.mk λv19=>
 za v19 h<|.mk λv20=>
 qCall call (.fn 173 []) [v18,v20] h<|.mk λv21 h=>
 qNot v21<|.mk λv22=>
 qIf v22 (.mk (
 k (.bool false) h))<|.mk (
 j15 x0 x1 x2 x3 x4 x5 x6 x7 x8 x9 x10 x11 x12 x13 x14 x15 x16 x17 x18 x19 v22 h)
def f173_L13{β:Type}(call:zf β)(k:K β)(j12:Cur β 21)(l13:Cur β 21)(x0 x1 x2 x3 x4 x5 x6 x7 x8 x9 x10 x11 x12 x13 x14 x15 x16 x17 x18 x19 x20:AV)(h:H):Option β :=
 zj 21 (.mk (
 f173_J14 call k l13))<|.mk λj14=>
 qLenL x5<|.mk λv23=>
 qLss x9 v23<|.mk λv24=>
 qIf v24 (.mk (
 j14 .any .any .any .any .any x5 .any .any x8 x9 .any .any .any .any .any .any .any .any .any .any .any h))<|.mk (
 j12 .any .any .any .any .any x5 .any .any x8 x9 .any .any .any .any .any .any .any .any .any .any .any h)
def f173_J11{β:Type}(N:Nat)(call:zf β)(k:K β)(x0 x1 x2 x3 x4 x5 x6 x7 x8 x9 x10 x11 x12 x13 x14 x15 x16 x17 x18 x19 x20:AV)(h:H):Option β :=
 zj 21 (.mk (
 f173_J12 k))<|.mk λj12=>
 (zae 21 N<|.mk (
 f173_L13 call k j12)) x0 x1 x2 x3 x4 x5 x6 x7 x8 (.int .i64 0) x10 x11 x12 x13 x14 x15 x16 x17 x18 x19 x20 h
def f173_J10{β:Type}(N:Nat)(call:zf β)(k:K β)(x0 x1 x2 x3 x4 x5 x6 x7 x8 x9 x10 x11 x12 x13 x14 x15 x16 x17 x18 x19 x20:AV)(h:H):Option β :=
 zj 21 (.mk (
 f173_J11 N call k))<|.mk λj11=>
 qNeq x3 x6<|.mk λv25=>
 qOr v25 h (.mk λh k=>
 qNeq x4 x7<|.mk λv26=>
 k v26 h)<|.mk λv27 h=>
 qOr v27 h (.mk λh k=>
 qLenL x5<|.mk λv28=>
 qLenL x8<|.mk λv29=>
 qNeq v28 v29<|.mk λv30=>
 k v30 h)<|.mk λv31 h=>
 qIf v31 (.mk (
 k (.bool false) h))<|.mk (
 j11 x0 x1 x2 x3 x4 x5 x6 x7 x8 x9 x10 x11 x12 x13 x14 x15 x16 x17 x18 x19 x20 h)
def f173{β:Type}(N:Nat)(call:zf β)(a:List AV)(h:H)(k:K β):Option β :=
 qCall call (.fn 12 []) [(nth a 0)] h<|.mk λv0 h=>
 qExt 0 v0<|.mk λv1=>
 qExt 1 v0<|.mk λv2=>
 qExt 2 v0<|.mk λv3=>
 qExt 3 v0<|.mk λv4=>
 qCall call (.fn 12 []) [(nth a 1)] h<|.mk λv5 h=>
 qExt 0 v5<|.mk λv6=>
 qExt 1 v5<|.mk λv7=>
 qExt 2 v5<|.mk λv8=>
 qExt 3 v5<|.mk λv9=>
 zj 21 (.mk (
 f173_J10 N call k))<|.mk λj10=>
 qEql v1 (.int .i64 0)<|.mk λv32=>
 qIf v32 (.mk (
 k (.bool true) h))<|.mk (
 j10 (nth a 0) (nth a 1) (.bool false) v1 v2 v3 v6 v7 v8 (nth a 13) v0 v1 v2 v3 v4 v5 v6 v7 v8 v9 (nth a 60) h)
theorem y173:zx I 173 T.s173 N call a h k=f173 N call a h k:=by kernel_rfl
def e146:Ent:=⟨146,T.s146,λ_ _=>f146,λ_=>y146⟩
def e173:Ent:=⟨173,T.s173,λ_ _=>f173,λ_=>y173⟩
structure GBL (t:ETree):Prop where
 g146:t.get 146=some e146
 g173:t.get 173=some e173
section
variable {β:Type} {t:ETree} {I:FI} (n:Nat) (a:List AV) (h:H) (k:K β)
theorem GBL.c146(T:GBL t):zc t I (n+1) (.fn 146 []) a h k=f146 n (zc t I n) a h k:=by rw[cRule T.g146];rfl
theorem GBL.c173(T:GBL t):zc t I (n+1) (.fn 173 []) a h k=f173 n (zc t I n) a h k:=by rw[cRule T.g173];rfl
end
end
end Am.F
