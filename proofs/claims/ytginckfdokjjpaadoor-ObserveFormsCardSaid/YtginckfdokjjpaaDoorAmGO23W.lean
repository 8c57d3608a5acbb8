/- What the functions come to. -/
import Derived.Test.YtginckfdokjjpaaDoorAmGO23T
import Derived.Test.YtginckfdokjjpaaDoorAmJc
import Derived.Test.YtginckfdokjjpaaDoorAmJi
set_option maxRecDepth 100000
set_option linter.unusedVariables false
namespace Am.F
open Go Am
noncomputable section
variable {β:Type} (I:FI) (N:Nat) (call:zc β) (a:List AV) (h:H) (k:K β)
def f266_J4{β:Type}(k:K β)(x0 x1 x2 x3 x4 x5 x6 x7 x8 x9 x10 x11 x12 x13 x14:AV)(h:H):Option β :=
 qNil x4<|.mk λv5=>
 zbc 0 v5<|.mk λv6=>
 zJ v6 h<|.mk λv7=>
 k (.tup [v7,(.int .i64 0)]) h
def f266_J12{β:Type}(l9:Cur β 15)(x0 x1 x2 x3 x4 x5 x6 x7 x8 x9 x10 x11 x12 x13 x14:AV)(h:H):Option β :=
 qAdd x9 (.int .i64 1)<|.mk λv13=>
 l9 x0 x1 x2 x3 x4 x5 x6 x7 x8 v13 x10 x11 x12 x13 x14 h
def f266_J11{β:Type}(call:zc β)(l9:Cur β 15)(x0 x1 x2 x3 x4 x5 x6 x7 x8 x9 x10 x11 x12 x13 x14:AV)(h:H):Option β :=
 zaj 15 (.mk (
 f266_J12 l9))<|.mk λj12=>
 zdf 4 x7 x9<|.mk λv14=>
 zgG 4 v14 h<|.mk λv15=>
 qAlloc 0 [(.int .i64 0),(.int .i64 0),.nils,(.str [])] h<|.mk λv16 h=>
 zfr 4 v16 v15 h<|.mk λh=>
 zbc 0 v16<|.mk λv17=>
 zJ v17 h<|.mk λv18=>
 qEql v18 x1<|.mk λv19=>
 qIf v19 (.mk (
 zgG 4 v16 h<|.mk λv20=>
 zz call (.fn 258 []) [v20] h<|.mk λv21 h=>
 qExt 0 v21<|.mk λv22=>
 qExt 1 v21<|.mk λv23=>
 zz call (.fn 274 []) [x4,v22] h<|.mk λv24 h=>
 j12 x0 x1 x2 x3 x4 v16 v22 x7 x8 x9 x10 v15 v21 v22 v23 h))<|.mk (
 j12 x0 x1 x2 x3 x4 v16 x6 x7 x8 x9 x10 v15 x12 x13 x14 h)
def f266_L9{β:Type}(call:zc β)(j4:Cur β 15)(l9:Cur β 15)(x0 x1 x2 x3 x4 x5 x6 x7 x8 x9 x10 x11 x12 x13 x14:AV)(h:H):Option β :=
 qLss x9 x8<|.mk λv10=>
 zaj 15 (.mk (
 f266_J11 call l9))<|.mk λj11=>
 qIf v10 (.mk (
 j11 .any x1 .any .any x4 .any .any x7 x8 x9 v10 .any .any .any .any h))<|.mk (
 j4 .any x1 .any .any x4 .any .any x7 x8 x9 v10 .any .any .any .any h)
def f266_J0{β:Type}(N:Nat)(call:zc β)(k:K β)(x0 x1 x2 x3 x4 x5 x6 x7 x8 x9 x10 x11 x12 x13 x14:AV)(h:H):Option β :=
 qMkmap h<|.mk λv1 h=>
 zav [.nils,.nilm] [(1,1)] [v1]<|.mk λv2=>
 qBox 0 v2 h<|.mk λv3 h=>
 zaj 15 (.mk (
 f266_J4 k))<|.mk λj4=>
 qLenL x0<|.mk λv8=>
 (zgF 15 N<|.mk (
 f266_L9 call j4)) x0 x1 x2 x3 v3 x5 x6 x0 v8 (.int .i64 0) x10 x11 x12 x13 x14 h
def f266{β:Type}(N:Nat)(call:zc β)(a:List AV)(h:H)(k:K β):Option β :=
 zaj 15 (.mk (
 f266_J0 N call k))<|.mk λj0=>
 zz call (.fn 261 []) [(nth a 0)] h<|.mk λv25 h=>
 qNot v25<|.mk λv26=>
 qOr v26 h (.mk λh k=>
 qLss (nth a 1) (.int .i64 0)<|.mk λv27=>
 k v27 h)<|.mk λv28 h=>
 qOr v28 h (.mk λh k=>
 qGeq (nth a 1) (.int .i64 8)<|.mk λv29=>
 k v29 h)<|.mk λv30 h=>
 qIf v30 (.mk (
 k (.tup [.nils,(.int .i64 2300)]) h))<|.mk (
 j0 (nth a 0) (nth a 1) .nils (.int .i64 0) (nth a 6) (nth a 8) (nth a 9) (nth a 25) (nth a 26) (nth a 27) (nth a 28) (nth a 30) (nth a 35) (nth a 38) (nth a 39) h)
theorem y266:zad I 266 T.s266 N call a h k=f266 N call a h k:=by kernel_rfl
def f274{β:Type}(N:Nat)(call:zc β)(a:List AV)(h:H)(k:K β):Option β :=
 qNil (nth a 0)<|.mk λv0=>
 zbc 1 v0<|.mk λv1=>
 zJ v1 h<|.mk λv2=>
 qLookup false (.bool false) v2 (nth a 1) h<|.mk λv3=>
 qNot v3<|.mk λv4=>
 qIf v4 (.mk (
 qNil (nth a 0)<|.mk λv5=>
 zbc 1 v5<|.mk λv6=>
 zJ v6 h<|.mk λv7=>
 qMapSet v7 (nth a 1) (.bool true) h<|.mk λh=>
 qNil (nth a 0)<|.mk λv8=>
 zbc 0 v8<|.mk λv9=>
 zJ v9 h<|.mk λv10=>
 zaN 0 [(.str [])] 1 [(0,1)] [(nth a 1)] h<|.mk λv11 h=>
 qApp 0 1 16 v10 v11 h<|.mk λv12 h=>
 qNil (nth a 0)<|.mk λv13=>
 zbc 0 v13<|.mk λv14=>
 zfr 1 v14 v12 h<|.mk λh=>
 k (.tup []) h))<|.mk (
 k (.tup []) h)
theorem y274:zad I 274 T.s274 N call a h k=f274 N call a h k:=by kernel_rfl
def e266:Ent:=⟨266,T.s266,λ_ _=>f266,λ_=>y266⟩
def e274:Ent:=⟨274,T.s274,λ_ _=>f274,λ_=>y274⟩
section
variable {β:Type} {t:ETree} {I:FI} (n:Nat) (a:List AV) (h:H) (k:K β)
end
end
end Am.F
