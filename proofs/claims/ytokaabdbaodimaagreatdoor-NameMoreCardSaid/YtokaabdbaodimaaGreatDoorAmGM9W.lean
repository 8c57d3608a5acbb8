/- What the functions come to. -/
import Derived.Test.YtokaabdbaodimaaGreatDoorAmGM9T
import Derived.Test.YtokaabdbaodimaaGreatDoorAmJc
set_option maxRecDepth 100000
set_option linter.unusedVariables false
namespace Am.F
open Go Am
noncomputable section
variable {β:Type} (I:FI) (N:Nat) (call:zf β) (a:List AV) (h:H) (k:K β)
def f240_J18{β:Type}(call:zf β)(k:K β)(x0 x1 x2 x3 x4 x5 x6 x7 x8 x9 x10 x11 x12 x13 x14 x15 x16 x17 x18 x19 x20 x21 x22 x23 x24:AV)(h:H):Option β :=
 zi 1 x5 h<|.mk fun v19=>
 qCall call (.fn 145 []) [v19,x1,x2,(.int .i64 400)] h<|.mk fun v20 h=>
 qExt 0 v20<|.mk fun v21=>
 qExt 1 v20<|.mk fun v22=>
 zcm x9 x11<|.mk fun v23=>
 qAnd v23 h (.mk fun h k=>
 qCall call (.fn 16 []) [x10] h<|.mk fun v24 h=>
 qCall call (.fn 16 []) [x12] h<|.mk fun v25 h=>
 qEql v24 v25<|.mk fun v26=>
 k v26 h)<|.mk fun v27 h=>
 qAnd v27 h (.mk fun h k=>
 qCall call (.fn 16 []) [x12] h<|.mk fun v28 h=>
 qEql v28 v22<|.mk fun v29=>
 k v29 h)<|.mk fun v30 h=>
 k v30 h
def f240_J1{β:Type}(call:zf β)(k:K β)(x0 x1 x2 x3 x4 x5 x6 x7 x8 x9 x10 x11 x12 x13 x14 x15 x16 x17 x18 x19 x20 x21 x22 x23 x24:AV)(h:H):Option β :=
 zao .u64 x3<|.mk fun v2=>
 qBin .rem v2 (.int .u64 401)<|.mk fun v3=>
 zao .i64 v3<|.mk fun v4=>
 zao .u64 x4<|.mk fun v5=>
 qBin .rem v5 (.int .u64 401)<|.mk fun v6=>
 zao .i64 v6<|.mk fun v7=>
 zi 1 x5 h<|.mk fun v8=>
 qMin v4 v7<|.mk fun v9=>
 qCall call (.fn 155 []) [v8,x1,x2,v9] h<|.mk fun v10 h=>
 qExt 0 v10<|.mk fun v11=>
 qExt 1 v10<|.mk fun v12=>
 zi 1 x5 h<|.mk fun v13=>
 qMax v4 v7<|.mk fun v14=>
 qCall call (.fn 155 []) [v13,x1,x2,v14] h<|.mk fun v15 h=>
 qExt 0 v15<|.mk fun v16=>
 qExt 1 v15<|.mk fun v17=>
 zk 25 (.mk (
 f240_J18 call k))<|.mk fun j18=>
 qCall call (.fn 16 []) [v12] h<|.mk fun v31 h=>
 qEql v31 (.int .i64 901)<|.mk fun v32=>
 qIf v32 (.mk (
 zcm v11 (.str [])<|.mk fun v33=>
 k v33 h))<|.mk (
 j18 x0 x1 x2 x3 x4 x5 x6 v4 v7 v11 v12 v16 v17 x13 v4 v7 v10 v11 v12 v15 v16 v17 x22 x23 x24 h)
def f240{β:Type}(N:Nat)(call:zf β)(a:List AV)(h:H)(k:K β):Option β :=
 qBox 0 (nth a 0) h<|.mk fun v0 h=>
 zk 25 (.mk (
 f240_J1 call k))<|.mk fun j1=>
 qCall call (.fn 153 []) [] h<|.mk fun v34 h=>
 qNot v34<|.mk fun v35=>
 qIf v35 (.mk (
 k (.bool false) h))<|.mk (
 j1 (nth a 0) (nth a 1) (nth a 2) (nth a 3) (nth a 4) v0 (.bool false) (nth a 11) (nth a 12) (nth a 13) (nth a 14) (nth a 15) (nth a 16) (nth a 18) (nth a 24) (nth a 28) (nth a 29) (nth a 37) (nth a 38) (nth a 39) (nth a 47) (nth a 48) (nth a 54) (nth a 59) (nth a 60) h)
theorem y240:zy I 240 T.s240 N call a h k=f240 N call a h k:=by kernel_rfl
def e240:Ent:=⟨240,T.s240,fun _ _=>f240,fun _=>y240⟩
structure GM9 (t:ETree):Prop where
 g240:t.get 240=some e240
section
variable {β:Type} {t:ETree} {I:FI} (n:Nat) (a:List AV) (h:H) (k:K β)
theorem GM9.c240(T:GM9 t):zc t I (n+1) (.fn 240 []) a h k=f240 n (zc t I n) a h k:=by rw[cRule T.g240];rfl
end
end
end Am.F
