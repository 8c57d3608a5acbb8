/- What the functions come to. -/
import Derived.Test.YtlidemdbimpkaaaDoorAmGL11T
import Derived.Test.YtlidemdbimpkaaaDoorAmJc
import Derived.Test.YtlidemdbimpkaaaDoorAmJi
set_option maxRecDepth 100000
set_option linter.unusedVariables false
namespace Am.F
open Go Am
noncomputable section
variable {β:Type} (I:FI) (N:Nat) (call:zh β) (a:List AV) (h:H) (k:K β)
def f125_J7{β:Type}(k:K β)(x0 x1 x2 x3 x4 x5 x6 x7 x8 x9 x10 x11:AV)(h:H):Option β :=
 qNot x6<|.mk λv8=>
 qOr v8 h (.mk λh k=>
 k x7 h)<|.mk λv9 h=>
 k v9 h
def f125_J12{β:Type}(l10:Cur β 12)(x0 x1 x2 x3 x4 x5 x6 x7 x8 x9 x10 x11:AV)(h:H):Option β :=
 qAdd x8 (.int .i64 1)<|.mk λv13=>
 l10 x0 x1 x2 x3 x4 x5 x6 x7 v13 x9 x10 x11 h
def f125_J11{β:Type}(l10:Cur β 12)(x0 x1 x2 x3 x4 x5 x6 x7 x8 x9 x10 x11:AV)(h:H):Option β :=
 zq 12 (.mk (
 f125_J12 l10))<|.mk λj12=>
 qOr x6 h (.mk λh k=>
 zM 4 x4 (.int .i64 0)<|.mk λv14=>
 zg 3 v14<|.mk λv15=>
 za v15 h<|.mk λv16=>
 qIdxS v16 x8<|.mk λv17=>
 qEql v17 (.int .u8 95)<|.mk λv18=>
 k v18 h)<|.mk λv19 h=>
 qOr x7 h (.mk λh k=>
 zM 4 x4 (.int .i64 0)<|.mk λv20=>
 zg 3 v20<|.mk λv21=>
 za v21 h<|.mk λv22=>
 qIdxS v22 x8<|.mk λv23=>
 qEql v23 (.int .u8 33)<|.mk λv24=>
 k v24 h)<|.mk λv25 h=>
 j12 x0 x1 x2 x3 x4 x5 v19 v25 x8 x9 x10 x11 h
def f125_L10{β:Type}(j7:Cur β 12)(l10:Cur β 12)(x0 x1 x2 x3 x4 x5 x6 x7 x8 x9 x10 x11:AV)(h:H):Option β :=
 zq 12 (.mk (
 f125_J11 l10))<|.mk λj11=>
 zM 4 x4 (.int .i64 0)<|.mk λv26=>
 zg 3 v26<|.mk λv27=>
 za v27 h<|.mk λv28=>
 qLenS v28<|.mk λv29=>
 qLss x8 v29<|.mk λv30=>
 qIf v30 (.mk (
 j11 .any .any .any .any x4 .any x6 x7 x8 .any .any .any h))<|.mk (
 j7 .any .any .any .any x4 .any x6 x7 x8 .any .any .any h)
def f125_J6{β:Type}(N:Nat)(k:K β)(x0 x1 x2 x3 x4 x5 x6 x7 x8 x9 x10 x11:AV)(h:H):Option β :=
 zq 12 (.mk (
 f125_J7 k))<|.mk λj7=>
 (zaE 12 N<|.mk (
 f125_L10 j7)) x0 x1 x2 x3 x4 x5 (.bool false) (.bool false) (.int .i64 0) x9 x10 x11 h
def f125_J1{β:Type}(N:Nat)(call:zh β)(k:K β)(x0 x1 x2 x3 x4 x5 x6 x7 x8 x9 x10 x11:AV)(h:H):Option β :=
 zF 1 x2 h<|.mk λv2=>
 qCall call (.fn 136 []) [v2,x1] h<|.mk λv3 h=>
 qExt 0 v3<|.mk λv4=>
 qExt 1 v3<|.mk λv5=>
 zq 12 (.mk (
 f125_J6 N k))<|.mk λj6=>
 qCall call (.fn 16 []) [v5] h<|.mk λv31 h=>
 qNeq v31 (.int .i64 0)<|.mk λv32=>
 qOr v32 h (.mk λh k=>
 qLenL v4<|.mk λv33=>
 qEql v33 (.int .i64 0)<|.mk λv34=>
 k v34 h)<|.mk λv35 h=>
 qIf v35 (.mk (
 qCall call (.fn 16 []) [v5] h<|.mk λv36 h=>
 qNeq v36 (.int .i64 0)<|.mk λv37=>
 k v37 h))<|.mk (
 j6 x0 x1 x2 x3 v4 v5 x6 x7 x8 v3 v4 v5 h)
def f125{β:Type}(N:Nat)(call:zh β)(a:List AV)(h:H)(k:K β):Option β :=
 qBox 0 (nth a 0) h<|.mk λv0 h=>
 zq 12 (.mk (
 f125_J1 N call k))<|.mk λj1=>
 qCall call (.fn 141 []) [] h<|.mk λv38 h=>
 qNot v38<|.mk λv39=>
 qIf v39 (.mk (
 k (.bool false) h))<|.mk (
 j1 (nth a 0) (nth a 1) v0 (.bool false) (nth a 5) (nth a 6) (nth a 7) (nth a 8) (nth a 9) (nth a 12) (nth a 16) (nth a 17) h)
theorem y125:zS I 125 T.s125 N call a h k=f125 N call a h k:=by kernel_rfl
def e125:Ent:=⟨125,T.s125,λ_ _=>f125,λ_=>y125⟩
structure GL11 (t:ETree):Prop where
 g125:t.get 125=some e125
section
variable {β:Type} {t:ETree} {I:FI} (n:Nat) (a:List AV) (h:H) (k:K β)
theorem GL11.c125(T:GL11 t):zd t I (n+1) (.fn 125 []) a h k=f125 n (zd t I n) a h k:=by rw[cRule T.g125];rfl
end
end
end Am.F
