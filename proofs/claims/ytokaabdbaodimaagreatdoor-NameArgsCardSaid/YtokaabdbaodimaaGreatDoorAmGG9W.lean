/- What the functions come to. -/
import Derived.Test.YtokaabdbaodimaaGreatDoorAmGG9T
import Derived.Test.YtokaabdbaodimaaGreatDoorAmJc
set_option maxRecDepth 100000
set_option linter.unusedVariables false
namespace Am.F
open Go Am
noncomputable section
variable {β:Type} (I:FI) (N:Nat) (call:zf β) (a:List AV) (h:H) (k:K β)
def f243_J24{β:Type}(call:zf β)(k:K β)(x0 x1 x2 x3 x4 x5 x6 x7 x8 x9 x10 x11 x12 x13 x14 x15 x16 x17 x18 x19 x20 x21 x22 x23 x24 x25 x26 x27 x28:AV)(h:H):Option β :=
 qCall call (.fn 14 []) [x3,x4,x5] h<|.mk fun v25 h=>
 qExt 0 v25<|.mk fun v26=>
 qExt 1 v25<|.mk fun v27=>
 qEql v27 (.int .i64 0)<|.mk fun v28=>
 qAnd v28 h (.mk fun h k=>
 qCall call (.fn 16 []) [x11] h<|.mk fun v29 h=>
 qEql v29 (.int .i64 0)<|.mk fun v30=>
 k v30 h)<|.mk fun v31 h=>
 qAnd v31 h (.mk fun h k=>
 zcm x10 v26<|.mk fun v32=>
 k v32 h)<|.mk fun v33 h=>
 k v33 h
def f243_J36{β:Type}(l34:Cur β 29)(x0 x1 x2 x3 x4 x5 x6 x7 x8 x9 x10 x11 x12 x13 x14 x15 x16 x17 x18 x19 x20 x21 x22 x23 x24 x25 x26 x27 x28:AV)(h:H):Option β :=
 qAdd x12 (.int .i64 1)<|.mk fun v37=>
 l34 x0 x1 x2 x3 x4 x5 x6 x7 x8 x9 x10 x11 v37 x13 x14 x15 x16 x17 x18 x19 x20 x21 x22 x23 x24 x25 x26 x27 x28 h
def f243_J35{β:Type}(l34:Cur β 29)(x0 x1 x2 x3 x4 x5 x6 x7 x8 x9 x10 x11 x12 x13 x14 x15 x16 x17 x18 x19 x20 x21 x22 x23 x24 x25 x26 x27 x28:AV)(h:H):Option β :=
 zk 29 (.mk (
 f243_J36 l34))<|.mk fun j36=>
 zx 1 x5 x12<|.mk fun v38=>
 zl 1 v38 (.str [95]) h<|.mk fun h=>
 j36 x0 x1 x2 x3 x4 x5 x6 x7 x8 x9 x10 x11 x12 x13 x14 x15 x16 x17 x18 x19 x20 x21 x22 x23 x24 x25 x26 x27 x28 h
def f243_L34{β:Type}(j24:Cur β 29)(l34:Cur β 29)(x0 x1 x2 x3 x4 x5 x6 x7 x8 x9 x10 x11 x12 x13 x14 x15 x16 x17 x18 x19 x20 x21 x22 x23 x24 x25 x26 x27 x28:AV)(h:H):Option β :=
 zk 29 (.mk (
 f243_J35 l34))<|.mk fun j35=>
 qLenL x5<|.mk fun v39=>
 qLss x12 v39<|.mk fun v40=>
 qIf v40 (.mk (
 j35 .any .any .any x3 x4 x5 .any .any .any .any x10 x11 x12 .any .any .any .any .any .any .any .any .any .any .any .any .any .any .any .any h))<|.mk (
 j24 .any .any .any x3 x4 x5 .any .any .any .any x10 x11 x12 .any .any .any .any .any .any .any .any .any .any .any .any .any .any .any .any h)
def f243_J23{β:Type}(N:Nat)(call:zf β)(k:K β)(x0 x1 x2 x3 x4 x5 x6 x7 x8 x9 x10 x11 x12 x13 x14 x15 x16 x17 x18 x19 x20 x21 x22 x23 x24 x25 x26 x27 x28:AV)(h:H):Option β :=
 zk 29 (.mk (
 f243_J24 call k))<|.mk fun j24=>
 (zah 29 N<|.mk (
 f243_L34 j24)) x0 x1 x2 x3 x4 x5 x6 x7 x8 x9 x10 x11 (.int .i64 0) x13 x14 x15 x16 x17 x18 x19 x20 x21 x22 x23 x24 x25 x26 x27 x28 h
def f243_J6{β:Type}(N:Nat)(call:zf β)(k:K β)(x0 x1 x2 x3 x4 x5 x6 x7 x8 x9 x10 x11 x12 x13 x14 x15 x16 x17 x18 x19 x20 x21 x22 x23 x24 x25 x26 x27 x28:AV)(h:H):Option β :=
 qBin .and x1 (.int .i64 1)<|.mk fun v7=>
 zo [(.int .i64 0),(.int .i64 0),(.int .i64 0),.nils] [] []<|.mk fun v8=>
 zr 0 [(.int .i64 0),(.int .i64 0),(.int .i64 0),.nils] 1 [(0,4)] [v8] h<|.mk fun v9 h=>
 zo [(.int .i64 0),.nils] [(1,1)] [v9]<|.mk fun v10=>
 zo [(.int .i64 0),(.int .i64 0),(.int .i64 0),.nils] [(0,1),(1,1)] [(.int .i64 1),v7]<|.mk fun v11=>
 zr 0 [(.int .i64 0),(.int .i64 0),(.int .i64 0),.nils] 1 [(0,4)] [v11] h<|.mk fun v12 h=>
 zo [(.int .i64 0),.nils] [(0,1),(1,1)] [(.int .i64 2),v12]<|.mk fun v13=>
 zr 0 [(.int .i64 0),.nils,(.int .i64 0),.nils] 2 [(0,2),(2,2)] [v10,v13] h<|.mk fun v14 h=>
 zo [.nils] [(0,1)] [v14]<|.mk fun v15=>
 zP 0 [.nils] h<|.mk fun v16 h=>
 zl 1 v16 v15 h<|.mk fun h=>
 zr 0 [(.str []),(.str [])] 2 [(0,1),(1,1)] [(.str [33]),(.str [33])] h<|.mk fun v17 h=>
 zx 1 v17 v7<|.mk fun v18=>
 zl 1 v18 x0 h<|.mk fun h=>
 zi 1 v16 h<|.mk fun v19=>
 qCall call (.fn 155 []) [v19,(.int .i64 1),v17,(.int .i64 5)] h<|.mk fun v20 h=>
 qExt 0 v20<|.mk fun v21=>
 qExt 1 v20<|.mk fun v22=>
 zk 29 (.mk (
 f243_J23 N call k))<|.mk fun j23=>
 qEql x3 (.int .i64 0)<|.mk fun v41=>
 qIf v41 (.mk (
 zcm v21 (.str [])<|.mk fun v42=>
 qAnd v42 h (.mk fun h k=>
 qCall call (.fn 16 []) [v22] h<|.mk fun v43 h=>
 qEql v43 (.int .i64 902)<|.mk fun v44=>
 k v44 h)<|.mk fun v45 h=>
 k v45 h))<|.mk (
 j23 x0 x1 x2 x3 x4 x5 x6 v7 v16 v17 v21 v22 x12 x13 x14 x15 x16 x17 x18 x19 v15 v17 v7 v20 v21 v22 x26 x27 x28 h)
def f243_J0{β:Type}(N:Nat)(call:zf β)(k:K β)(x0 x1 x2 x3 x4 x5 x6 x7 x8 x9 x10 x11 x12 x13 x14 x15 x16 x17 x18 x19 x20 x21 x22 x23 x24 x25 x26 x27 x28:AV)(h:H):Option β :=
 qCall call (.fn 12 []) [x0] h<|.mk fun v1 h=>
 qExt 0 v1<|.mk fun v2=>
 qExt 1 v1<|.mk fun v3=>
 qExt 2 v1<|.mk fun v4=>
 qExt 3 v1<|.mk fun v5=>
 zk 29 (.mk (
 f243_J6 N call k))<|.mk fun j6=>
 qNeq v5 (.int .i64 0)<|.mk fun v46=>
 qIf v46 (.mk (
 k (.bool true) h))<|.mk (
 j6 x0 x1 x2 v2 v3 v4 v5 x7 x8 x9 x10 x11 x12 x13 x14 v1 v2 v3 v4 v5 x20 x21 x22 x23 x24 x25 x26 x27 x28 h)
def f243{β:Type}(N:Nat)(call:zf β)(a:List AV)(h:H)(k:K β):Option β :=
 zk 29 (.mk (
 f243_J0 N call k))<|.mk fun j0=>
 qCall call (.fn 153 []) [] h<|.mk fun v47 h=>
 qNot v47<|.mk fun v48=>
 qIf v48 (.mk (
 k (.bool false) h))<|.mk (
 j0 (nth a 0) (nth a 1) (.bool false) (nth a 5) (nth a 6) (nth a 7) (nth a 8) (nth a 9) (nth a 10) (nth a 11) (nth a 12) (nth a 13) (nth a 14) (nth a 15) (nth a 16) (nth a 19) (nth a 22) (nth a 23) (nth a 24) (nth a 25) (nth a 38) (nth a 40) (nth a 41) (nth a 44) (nth a 48) (nth a 49) (nth a 68) (nth a 73) (nth a 74) h)
theorem y243:zy I 243 T.s243 N call a h k=f243 N call a h k:=by kernel_rfl
def e243:Ent:=⟨243,T.s243,fun _ _=>f243,fun _=>y243⟩
structure GG9 (t:ETree):Prop where
 g243:t.get 243=some e243
section
variable {β:Type} {t:ETree} {I:FI} (n:Nat) (a:List AV) (h:H) (k:K β)
theorem GG9.c243(T:GG9 t):zc t I (n+1) (.fn 243 []) a h k=f243 n (zc t I n) a h k:=by rw[cRule T.g243];rfl
end
end
end Am.F
