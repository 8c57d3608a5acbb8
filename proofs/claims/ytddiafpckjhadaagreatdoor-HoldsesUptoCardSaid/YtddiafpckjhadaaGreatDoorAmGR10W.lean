/- What the functions come to. -/
import Derived.Test.YtddiafpckjhadaaGreatDoorAmGR10T
import Derived.Test.YtddiafpckjhadaaGreatDoorAmJc
import Derived.Test.YtddiafpckjhadaaGreatDoorAmJi
set_option maxRecDepth 100000
set_option linter.unusedVariables false
namespace Am.F
open Go Am
noncomputable section
variable {β:Type} (I:FI) (N:Nat) (call:zh β) (a:List AV) (h:H) (k:K β)
def f142_J16{β:Type}(k:K β)(x0 x1 x2 x3 x4 x5 x6 x7 x8:AV)(h:H):Option β :=
 k (.tup [x8,(.int .i64 0)]) h
def f142_J2{β:Type}(call:zh β)(k:K β)(x0 x1 x2 x3 x4 x5 x6 x7 x8:AV)(h:H):Option β :=
 zi 1 x3 h<|.mk λv3=>
 zo [.nils,(.int .i64 0),(.int .i64 0)] [(0,1),(1,1)] [v3,x2]<|.mk λv4=>
 qBox 0 v4 h<|.mk λv5 h=>
 zg 3 x4<|.mk λv6=>
 za v6 h<|.mk λv7=>
 zi 1 x3 h<|.mk λv8=>
 zg 0 x4<|.mk λv9=>
 za v9 h<|.mk λv10=>
 zg 2 x4<|.mk λv11=>
 za v11 h<|.mk λv12=>
 qCall call (.fn 170 []) [v8,v10,v12] h<|.mk λv13 h=>
 za v6 h<|.mk λv14=>
 zaH v14 v7<|.mk λ_=>
 qCall call (.fn 169 []) [v5,v7,v13] h<|.mk λv15 h=>
 zl 9 (.mk (
 f142_J16 k))<|.mk λj16=>
 qNil v5<|.mk λv17=>
 zg 2 v17<|.mk λv18=>
 za v18 h<|.mk λv19=>
 qNeq v19 (.int .i64 0)<|.mk λv20=>
 qIf v20 (.mk (
 k (.tup [(.bool false),(.int .i64 1001)]) h))<|.mk (
 j16 x0 x1 x2 x3 x4 x5 x6 v5 v15 h)
def f142{β:Type}(N:Nat)(call:zh β)(a:List AV)(h:H)(k:K β):Option β :=
 qBox 0 (nth a 0) h<|.mk λv0 h=>
 qBox 0 (nth a 1) h<|.mk λv1 h=>
 zl 9 (.mk (
 f142_J2 call k))<|.mk λj2=>
 zi 1 v0 h<|.mk λv21=>
 zg 0 v1<|.mk λv22=>
 za v22 h<|.mk λv23=>
 zg 2 v1<|.mk λv24=>
 za v24 h<|.mk λv25=>
 qCall call (.fn 168 []) [v21,v23,v25,(nth a 2)] h<|.mk λv26 h=>
 qNot v26<|.mk λv27=>
 qOr v27 h (.mk λh k=>
 zg 3 v1<|.mk λv28=>
 za v28 h<|.mk λv29=>
 qCall call (.fn 18 []) [v29] h<|.mk λv30 h=>
 qNot v30<|.mk λv31=>
 k v31 h)<|.mk λv32 h=>
 qIf v32 (.mk (
 k (.tup [(.bool false),(.int .i64 1000)]) h))<|.mk (
 j2 (nth a 0) (nth a 1) (nth a 2) v0 v1 (.bool false) (.int .i64 0) (nth a 8) (nth a 9) h)
theorem y142:zF I 142 T.s142 N call a h k=f142 N call a h k:=by kernel_rfl
def f169_J12{β:Type}(k:K β)(x0 x1 x2 x3 x4 x5 x6 x7 x8 x9 x10 x11 x12 x13 x14 x15 x16:AV)(h:H):Option β :=
 k (.bool true) h
def f169_J15{β:Type}(l13:Cur β 17)(x0 x1 x2 x3 x4 x5 x6 x7 x8 x9 x10 x11 x12 x13 x14 x15 x16:AV)(h:H):Option β :=
 qAdd x9 (.int .i64 1)<|.mk λv16=>
 l13 x0 x1 x2 x3 x4 x5 x6 x7 x8 v16 x10 x11 x12 x13 x14 x15 x16 h
def f169_J14{β:Type}(call:zh β)(k:K β)(l13:Cur β 17)(x0 x1 x2 x3 x4 x5 x6 x7 x8 x9 x10 x11 x12 x13 x14 x15 x16:AV)(h:H):Option β :=
 zl 17 (.mk (
 f169_J15 l13))<|.mk λj15=>
 zr 1 x7 x9<|.mk λv17=>
 za v17 h<|.mk λv18=>
 zg 2 x8<|.mk λv19=>
 za v19 h<|.mk λv20=>
 zr 5 v20 x9<|.mk λv21=>
 zi 5 v21 h<|.mk λv22=>
 qCall call (.fn 169 []) [x0,v18,v22] h<|.mk λv23 h=>
 qNot v23<|.mk λv24=>
 qIf v24 (.mk (
 k (.bool false) h))<|.mk (
 j15 x0 x1 x2 x3 x4 x5 x6 x7 x8 x9 x10 x11 x12 x13 x14 x15 v24 h)
def f169_L13{β:Type}(call:zh β)(k:K β)(j12:Cur β 17)(l13:Cur β 17)(x0 x1 x2 x3 x4 x5 x6 x7 x8 x9 x10 x11 x12 x13 x14 x15 x16:AV)(h:H):Option β :=
 zl 17 (.mk (
 f169_J14 call k l13))<|.mk λj14=>
 qLenL x7<|.mk λv25=>
 qLss x9 v25<|.mk λv26=>
 qIf v26 (.mk (
 j14 x0 .any .any .any .any .any .any x7 x8 x9 .any .any .any .any .any .any .any h))<|.mk (
 j12 x0 .any .any .any .any .any .any x7 x8 x9 .any .any .any .any .any .any .any h)
def f169_J11{β:Type}(N:Nat)(call:zh β)(k:K β)(x0 x1 x2 x3 x4 x5 x6 x7 x8 x9 x10 x11 x12 x13 x14 x15 x16:AV)(h:H):Option β :=
 zl 17 (.mk (
 f169_J12 k))<|.mk λj12=>
 (zae 17 N<|.mk (
 f169_L13 call k j12)) x0 x1 x2 x3 x4 x5 x6 x7 x8 (.int .i64 0) x10 x11 x12 x13 x14 x15 x16 h
def f169_J10{β:Type}(N:Nat)(call:zh β)(k:K β)(x0 x1 x2 x3 x4 x5 x6 x7 x8 x9 x10 x11 x12 x13 x14 x15 x16:AV)(h:H):Option β :=
 zl 17 (.mk (
 f169_J11 N call k))<|.mk λj11=>
 qNil x0<|.mk λv27=>
 zg 2 v27<|.mk λv28=>
 za v28 h<|.mk λv29=>
 qNeq v29 (.int .i64 0)<|.mk λv30=>
 qOr v30 h (.mk λh k=>
 zg 0 x8<|.mk λv31=>
 za v31 h<|.mk λv32=>
 qNeq v32 x5<|.mk λv33=>
 k v33 h)<|.mk λv34 h=>
 qOr v34 h (.mk λh k=>
 zg 1 x8<|.mk λv35=>
 za v35 h<|.mk λv36=>
 qNeq v36 x6<|.mk λv37=>
 k v37 h)<|.mk λv38 h=>
 qOr v38 h (.mk λh k=>
 zg 2 x8<|.mk λv39=>
 za v39 h<|.mk λv40=>
 qLenL v40<|.mk λv41=>
 qLenL x7<|.mk λv42=>
 qNeq v41 v42<|.mk λv43=>
 k v43 h)<|.mk λv44 h=>
 qIf v44 (.mk (
 k (.bool false) h))<|.mk (
 j11 x0 x1 x2 x3 x4 x5 x6 x7 x8 x9 x10 x11 x12 x13 x14 x15 x16 h)
def f169_J6{β:Type}(N:Nat)(call:zh β)(k:K β)(x0 x1 x2 x3 x4 x5 x6 x7 x8 x9 x10 x11 x12 x13 x14 x15 x16:AV)(h:H):Option β :=
 zi 5 x3 h<|.mk λv7=>
 qCall call (.fn 172 []) [x0,v7] h<|.mk λv8 h=>
 zK 0 [(.int .i64 0),(.int .i64 0),.nils] h<|.mk λv9 h=>
 zj 3 v9 v8 h<|.mk λh=>
 zl 17 (.mk (
 f169_J10 N call k))<|.mk λj10=>
 qNil x0<|.mk λv45=>
 zg 2 v45<|.mk λv46=>
 za v46 h<|.mk λv47=>
 qEql v47 (.int .i64 902)<|.mk λv48=>
 qIf v48 (.mk (
 qNil x0<|.mk λv49=>
 zg 2 v49<|.mk λv50=>
 zj 1 v50 (.int .i64 0) h<|.mk λh=>
 k (.bool false) h))<|.mk (
 j10 x0 x1 x2 x3 x4 x5 x6 x7 v9 x9 x10 x11 x12 x13 x14 v8 x16 h)
def f169{β:Type}(N:Nat)(call:zh β)(a:List AV)(h:H)(k:K β):Option β :=
 qBox 0 (nth a 2) h<|.mk λv0 h=>
 qCall call (.fn 12 []) [(nth a 1)] h<|.mk λv1 h=>
 qExt 0 v1<|.mk λv2=>
 qExt 1 v1<|.mk λv3=>
 qExt 2 v1<|.mk λv4=>
 qExt 3 v1<|.mk λv5=>
 zl 17 (.mk (
 f169_J6 N call k))<|.mk λj6=>
 qEql v2 (.int .i64 0)<|.mk λv51=>
 qIf v51 (.mk (
 k (.bool true) h))<|.mk (
 j6 (nth a 0) (nth a 1) (nth a 2) v0 (.bool false) v2 v3 v4 (nth a 11) (nth a 12) v1 v2 v3 v4 v5 (nth a 24) (nth a 75) h)
theorem y169:zF I 169 T.s169 N call a h k=f169 N call a h k:=by kernel_rfl
def e142:Ent:=⟨142,T.s142,λ_ _=>f142,λ_=>y142⟩
def e169:Ent:=⟨169,T.s169,λ_ _=>f169,λ_=>y169⟩
structure GR10 (t:ETree):Prop where
 g142:t.get 142=some e142
 g169:t.get 169=some e169
section
variable {β:Type} {t:ETree} {I:FI} (n:Nat) (a:List AV) (h:H) (k:K β)
theorem GR10.c142(T:GR10 t):zc t I (n+1) (.fn 142 []) a h k=f142 n (zc t I n) a h k:=by rw[cRule T.g142];rfl
theorem GR10.c169(T:GR10 t):zc t I (n+1) (.fn 169 []) a h k=f169 n (zc t I n) a h k:=by rw[cRule T.g169];rfl
end
end
end Am.F
