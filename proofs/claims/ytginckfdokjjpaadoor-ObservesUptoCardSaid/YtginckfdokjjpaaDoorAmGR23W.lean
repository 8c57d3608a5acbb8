/- What the functions come to. -/
import Derived.Test.YtginckfdokjjpaaDoorAmGR23T
import Derived.Test.YtginckfdokjjpaaDoorAmJc
set_option maxRecDepth 100000
set_option linter.unusedVariables false
namespace Am.F
open Go Am
noncomputable section
variable {β:Type} (I:FI) (N:Nat) (call:zf β) (a:List AV) (h:H) (k:K β)
def f307_J1{β:Type}(k:K β)(x0 x1 x2 x3 x4 x5 x6 x7 x8 x9:AV)(h:H):Option β :=
 k (.tup [x4,(.int .i64 0)]) h
def f307_J4{β:Type}(l2:Cur β 10)(x0 x1 x2 x3 x4 x5 x6 x7 x8 x9:AV)(h:H):Option β :=
 qAdd x5 (.int .i64 1)<|.mk λv5=>
 l2 x0 x1 x2 x3 x4 v5 x6 x7 x8 x9 h
def f307_J3{β:Type}(call:zf β)(l2:Cur β 10)(x0 x1 x2 x3 x4 x5 x6 x7 x8 x9:AV)(h:H):Option β :=
 zo 10 (.mk (
 f307_J4 l2))<|.mk λj4=>
 zaV 4 x0 x5<|.mk λv6=>
 zH 4 v6 h<|.mk λv7=>
 zg call (.fn 295 []) [v7] h<|.mk λv8 h=>
 qExt 0 v8<|.mk λv9=>
 qExt 1 v8<|.mk λv10=>
 zaV 4 x0 x5<|.mk λv11=>
 zx 0 v11<|.mk λv12=>
 zh v12 h<|.mk λv13=>
 qEql v13 x1<|.mk λv14=>
 qAnd v14 h (.mk λh k=>
 zg call (.fn 309 []) [x4,v9] h<|.mk λv15 h=>
 qNot v15<|.mk λv16=>
 k v16 h)<|.mk λv17 h=>
 qIf v17 (.mk (
 zT 0 [(.str [])] 1 [(0,1)] [v9] h<|.mk λv18 h=>
 qApp 0 1 16 x4 v18 h<|.mk λv19 h=>
 j4 x0 x1 x2 x3 v19 x5 v9 v8 v9 v10 h))<|.mk (
 j4 x0 x1 x2 x3 x4 x5 v9 v8 v9 v10 h)
def f307_L2{β:Type}(call:zf β)(j1:Cur β 10)(l2:Cur β 10)(x0 x1 x2 x3 x4 x5 x6 x7 x8 x9:AV)(h:H):Option β :=
 zo 10 (.mk (
 f307_J3 call l2))<|.mk λj3=>
 qLenL x0<|.mk λv20=>
 qLss x5 v20<|.mk λv21=>
 qIf v21 (.mk (
 j3 x0 x1 .any .any x4 x5 .any .any .any .any h))<|.mk (
 j1 x0 x1 .any .any x4 x5 .any .any .any .any h)
def f307_J0{β:Type}(N:Nat)(call:zf β)(k:K β)(x0 x1 x2 x3 x4 x5 x6 x7 x8 x9:AV)(h:H):Option β :=
 zo 10 (.mk (
 f307_J1 k))<|.mk λj1=>
 (zbF 10 N<|.mk (
 f307_L2 call j1)) x0 x1 x2 x3 .nils (.int .i64 0) x6 x7 x8 x9 h
def f307{β:Type}(N:Nat)(call:zf β)(a:List AV)(h:H)(k:K β):Option β :=
 zo 10 (.mk (
 f307_J0 N call k))<|.mk λj0=>
 zg call (.fn 299 []) [(nth a 0)] h<|.mk λv22 h=>
 qNot v22<|.mk λv23=>
 qOr v23 h (.mk λh k=>
 zg call (.fn 297 []) [(nth a 1),(.int .i64 0),(.int .i64 7)] h<|.mk λv24 h=>
 qNot v24<|.mk λv25=>
 k v25 h)<|.mk λv26 h=>
 qIf v26 (.mk (
 k (.tup [.nils,(.int .i64 2300)]) h))<|.mk (
 j0 (nth a 0) (nth a 1) .nils (.int .i64 0) (nth a 6) (nth a 7) (nth a 8) (nth a 24) (nth a 30) (nth a 31) h)
theorem y307:zJ I 307 T.s307 N call a h k=f307 N call a h k:=by kernel_rfl
def f309_J0{β:Type}(k:K β)(x0 x1 x2 x3:AV)(h:H):Option β :=
 k (.bool false) h
def f309_J3{β:Type}(l1:Cur β 4)(x0 x1 x2 x3:AV)(h:H):Option β :=
 qAdd x3 (.int .i64 1)<|.mk λv4=>
 l1 x0 x1 x2 v4 h
def f309_J2{β:Type}(k:K β)(l1:Cur β 4)(x0 x1 x2 x3:AV)(h:H):Option β :=
 zo 4 (.mk (
 f309_J3 l1))<|.mk λj3=>
 zaV 1 x0 x3<|.mk λv5=>
 zh v5 h<|.mk λv6=>
 zeu v6 x1<|.mk λv7=>
 qIf v7 (.mk (
 k (.bool true) h))<|.mk (
 j3 x0 x1 x2 x3 h)
def f309_L1{β:Type}(k:K β)(j0:Cur β 4)(l1:Cur β 4)(x0 x1 x2 x3:AV)(h:H):Option β :=
 zo 4 (.mk (
 f309_J2 k l1))<|.mk λj2=>
 qLenL x0<|.mk λv8=>
 qLss x3 v8<|.mk λv9=>
 qIf v9 (.mk (
 j2 x0 x1 .any x3 h))<|.mk (
 j0 x0 x1 .any x3 h)
def f309{β:Type}(N:Nat)(call:zf β)(a:List AV)(h:H)(k:K β):Option β :=
 zo 4 (.mk (
 f309_J0 k))<|.mk λj0=>
 (zbF 4 N<|.mk (
 f309_L1 k j0)) (nth a 0) (nth a 1) (.bool false) (.int .i64 0) h
theorem y309:zJ I 309 T.s309 N call a h k=f309 N call a h k:=by kernel_rfl
def e307:Ent:=⟨307,T.s307,λ_ _=>f307,λ_=>y307⟩
def e309:Ent:=⟨309,T.s309,λ_ _=>f309,λ_=>y309⟩
structure GR23 (t:ETree):Prop where
 g307:t.get 307=some e307
 g309:t.get 309=some e309
section
variable {β:Type} {t:ETree} {I:FI} (n:Nat) (a:List AV) (h:H) (k:K β)
theorem GR23.c307(T:GR23 t):za t I (n+1) (.fn 307 []) a h k=f307 n (za t I n) a h k:=by rw[cRule T.g307];rfl
theorem GR23.c309(T:GR23 t):za t I (n+1) (.fn 309 []) a h k=f309 n (za t I n) a h k:=by rw[cRule T.g309];rfl
end
end
end Am.F
