/- What the functions come to. -/
import Derived.Test.YtkbjmlcdmbajcaaGreatDoorAmGY10T
import Derived.Test.YtkbjmlcdmbajcaaGreatDoorAmJc
set_option maxRecDepth 100000
set_option linter.unusedVariables false
namespace Am.F
open Go Am
noncomputable section
variable {β:Type} (I:FI) (N:Nat) (call:zf β) (a:List AV) (h:H) (k:K β)
def f235_J11{β:Type}(call:zf β)(k:K β)(x0 x1 x2 x3 x4 x5 x6 x7 x8 x9 x10 x11 x12 x13 x14 x15 x16 x17 x18 x19 x20 x21:AV)(h:H):Option β :=
 zi 1 x3 h<|.mk λv12=>
 zh 0 x4<|.mk λv13=>
 za v13 h<|.mk λv14=>
 zh 2 x4<|.mk λv15=>
 za v15 h<|.mk λv16=>
 qCall call (.fn 145 []) [v12,v14,v16,x6] h<|.mk λv17 h=>
 qExt 0 v17<|.mk λv18=>
 qExt 1 v17<|.mk λv19=>
 zh 3 x4<|.mk λv20=>
 za v20 h<|.mk λv21=>
 qCall call (.fn 146 []) [v18,v21] h<|.mk λv22 h=>
 qExt 0 v22<|.mk λv23=>
 qExt 1 v22<|.mk λv24=>
 qEql v19 (.int .i64 0)<|.mk λv25=>
 qAnd v25 h (.mk λh k=>
 qEql v24 (.int .i64 0)<|.mk λv26=>
 k v26 h)<|.mk λv27 h=>
 qAnd v27 h (.mk λh k=>
 k v23 h)<|.mk λv28 h=>
 k v28 h
def f235_J2{β:Type}(call:zf β)(k:K β)(x0 x1 x2 x3 x4 x5 x6 x7 x8 x9 x10 x11 x12 x13 x14 x15 x16 x17 x18 x19 x20 x21:AV)(h:H):Option β :=
 zaI .u64 x2<|.mk λv3=>
 qBin .rem v3 (.int .u64 401)<|.mk λv4=>
 zaI .i64 v4<|.mk λv5=>
 zi 1 x3 h<|.mk λv6=>
 zi 4 x4 h<|.mk λv7=>
 qCall call (.fn 152 []) [v6,v7,v5] h<|.mk λv8 h=>
 qExt 0 v8<|.mk λv9=>
 qExt 1 v8<|.mk λv10=>
 zj 22 (.mk (
 f235_J11 call k))<|.mk λj11=>
 qCall call (.fn 16 []) [v10] h<|.mk λv29 h=>
 qNeq v29 (.int .i64 0)<|.mk λv30=>
 qOr v30 h (.mk λh k=>
 qNot v9<|.mk λv31=>
 k v31 h)<|.mk λv32 h=>
 qOr v32 h (.mk λh k=>
 zh 3 x4<|.mk λv33=>
 za v33 h<|.mk λv34=>
 zex v34 (.str [95])<|.mk λv35=>
 k v35 h)<|.mk λv36 h=>
 qIf v36 (.mk (
 qNot v9<|.mk λv37=>
 qOr v37 h (.mk λh k=>
 zh 3 x4<|.mk λv38=>
 za v38 h<|.mk λv39=>
 zex v39 (.str [95])<|.mk λv40=>
 k v40 h)<|.mk λv41 h=>
 k v41 h))<|.mk (
 j11 x0 x1 x2 x3 x4 x5 v5 v9 v10 x9 x10 x11 x12 v8 v9 v10 x16 x17 x18 x19 x20 x21 h)
def f235{β:Type}(N:Nat)(call:zf β)(a:List AV)(h:H)(k:K β):Option β :=
 qBox 0 (nth a 0) h<|.mk λv0 h=>
 qBox 0 (nth a 1) h<|.mk λv1 h=>
 zj 22 (.mk (
 f235_J2 call k))<|.mk λj2=>
 qCall call (.fn 150 []) [] h<|.mk λv42 h=>
 qNot v42<|.mk λv43=>
 qIf v43 (.mk (
 k (.bool false) h))<|.mk (
 j2 (nth a 0) (nth a 1) (nth a 2) v0 v1 (.bool false) (nth a 7) (nth a 8) (nth a 9) (nth a 10) (nth a 11) (nth a 12) (nth a 13) (nth a 20) (nth a 25) (nth a 26) (nth a 46) (nth a 54) (nth a 55) (nth a 56) (nth a 61) (nth a 62) h)
theorem y235:zx I 235 T.s235 N call a h k=f235 N call a h k:=by kernel_rfl
def e235:Ent:=⟨235,T.s235,λ_ _=>f235,λ_=>y235⟩
structure GY10 (t:ETree):Prop where
 g235:t.get 235=some e235
section
variable {β:Type} {t:ETree} {I:FI} (n:Nat) (a:List AV) (h:H) (k:K β)
theorem GY10.c235(T:GY10 t):zc t I (n+1) (.fn 235 []) a h k=f235 n (zc t I n) a h k:=by rw[cRule T.g235];rfl
end
end
end Am.F
