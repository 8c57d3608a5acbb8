/- What the functions come to. -/
import Derived.Test.YtokaabdbaodimaaGreatDoorAmGF9T
import Derived.Test.YtokaabdbaodimaaGreatDoorAmJc
set_option maxRecDepth 100000
set_option linter.unusedVariables false
namespace Am.F
open Go Am
noncomputable section
variable {β:Type} (I:FI) (N:Nat) (call:zf β) (a:List AV) (h:H) (k:K β)
def f242_J10{β:Type}(call:zf β)(k:K β)(x0 x1 x2 x3 x4 x5 x6 x7 x8 x9 x10 x11 x12 x13 x14 x15 x16 x17 x18 x19 x20 x21 x22 x23 x24:AV)(h:H):Option β :=
 zi 1 x5 h<|.mk fun v11=>
 qCall call (.fn 155 []) [v11,x1,x10,x7] h<|.mk fun v12 h=>
 qExt 0 v12<|.mk fun v13=>
 qExt 1 v12<|.mk fun v14=>
 zi 1 x5 h<|.mk fun v15=>
 qCall call (.fn 145 []) [v15,x1,x10,x7] h<|.mk fun v16 h=>
 qExt 0 v16<|.mk fun v17=>
 qExt 1 v16<|.mk fun v18=>
 qCall call (.fn 16 []) [v14] h<|.mk fun v19 h=>
 qEql v19 (.int .i64 0)<|.mk fun v20=>
 qAnd v20 h (.mk fun h k=>
 qEql v18 (.int .i64 0)<|.mk fun v21=>
 k v21 h)<|.mk fun v22 h=>
 qAnd v22 h (.mk fun h k=>
 zcm x8 v13<|.mk fun v23=>
 k v23 h)<|.mk fun v24 h=>
 k v24 h
def f242_J27{β:Type}(l25:Cur β 25)(x0 x1 x2 x3 x4 x5 x6 x7 x8 x9 x10 x11 x12 x13 x14 x15 x16 x17 x18 x19 x20 x21 x22 x23 x24:AV)(h:H):Option β :=
 qAdd x11 (.int .i64 1)<|.mk fun v28=>
 l25 x0 x1 x2 x3 x4 x5 x6 x7 x8 x9 x10 v28 x12 x13 x14 x15 x16 x17 x18 x19 x20 x21 x22 x23 x24 h
def f242_J31{β:Type}(j27:Cur β 25)(x0 x1 x2 x3 x4 x5 x6 x7 x8 x9 x10 x11 x12 x13 x14 x15 x16 x17 x18 x19 x20 x21 x22 x23 x24:AV)(h:H):Option β :=
 zr 0 [(.str [])] 1 [(0,1)] [x12] h<|.mk fun v32 h=>
 qApp 0 1 16 x10 v32 h<|.mk fun v33 h=>
 j27 x0 x1 x2 x3 x4 x5 x6 x7 x8 x9 v33 x11 x12 x13 x14 x15 x16 x17 x18 x19 x20 x21 x22 x23 x24 h
def f242_J26{β:Type}(l25:Cur β 25)(x0 x1 x2 x3 x4 x5 x6 x7 x8 x9 x10 x11 x12 x13 x14 x15 x16 x17 x18 x19 x20 x21 x22 x23 x24:AV)(h:H):Option β :=
 zk 25 (.mk (
 f242_J27 l25))<|.mk fun j27=>
 zx 1 x2 x11<|.mk fun v29=>
 zb v29 h<|.mk fun v30=>
 zk 25 (.mk (
 f242_J31 j27))<|.mk fun j31=>
 zcm v30 (.str [95])<|.mk fun v34=>
 qIf v34 (.mk (
 j31 x0 x1 x2 x3 x4 x5 x6 x7 x8 x9 x10 x11 x4 x13 x14 x15 x16 x17 x18 x19 x20 x21 x22 x23 x24 h))<|.mk (
 j31 x0 x1 x2 x3 x4 x5 x6 x7 x8 x9 x10 x11 v30 x13 x14 x15 x16 x17 x18 x19 x20 x21 x22 x23 x24 h)
def f242_L25{β:Type}(j10:Cur β 25)(l25:Cur β 25)(x0 x1 x2 x3 x4 x5 x6 x7 x8 x9 x10 x11 x12 x13 x14 x15 x16 x17 x18 x19 x20 x21 x22 x23 x24:AV)(h:H):Option β :=
 zk 25 (.mk (
 f242_J26 l25))<|.mk fun j26=>
 qLenL x2<|.mk fun v35=>
 qLss x11 v35<|.mk fun v36=>
 qIf v36 (.mk (
 j26 .any x1 x2 .any x4 x5 .any x7 x8 .any x10 x11 .any .any .any .any .any .any .any .any .any .any .any .any .any h))<|.mk (
 j10 .any x1 x2 .any x4 x5 .any x7 x8 .any x10 x11 .any .any .any .any .any .any .any .any .any .any .any .any .any h)
def f242_J9{β:Type}(N:Nat)(call:zf β)(k:K β)(x0 x1 x2 x3 x4 x5 x6 x7 x8 x9 x10 x11 x12 x13 x14 x15 x16 x17 x18 x19 x20 x21 x22 x23 x24:AV)(h:H):Option β :=
 zk 25 (.mk (
 f242_J10 call k))<|.mk fun j10=>
 (zah 25 N<|.mk (
 f242_L25 j10)) x0 x1 x2 x3 x4 x5 x6 x7 x8 x9 .nils (.int .i64 0) x12 x13 x14 x15 x16 x17 x18 x19 x20 x21 x22 x23 x24 h
def f242_J1{β:Type}(N:Nat)(call:zf β)(k:K β)(x0 x1 x2 x3 x4 x5 x6 x7 x8 x9 x10 x11 x12 x13 x14 x15 x16 x17 x18 x19 x20 x21 x22 x23 x24:AV)(h:H):Option β :=
 zao .u64 x3<|.mk fun v2=>
 qBin .rem v2 (.int .u64 401)<|.mk fun v3=>
 zao .i64 v3<|.mk fun v4=>
 zi 1 x5 h<|.mk fun v5=>
 qCall call (.fn 155 []) [v5,x1,x2,v4] h<|.mk fun v6 h=>
 qExt 0 v6<|.mk fun v7=>
 qExt 1 v6<|.mk fun v8=>
 zk 25 (.mk (
 f242_J9 N call k))<|.mk fun j9=>
 qCall call (.fn 16 []) [v8] h<|.mk fun v37 h=>
 qNeq v37 (.int .i64 0)<|.mk fun v38=>
 qOr v38 h (.mk fun h k=>
 qCall call (.fn 18 []) [x4] h<|.mk fun v39 h=>
 qNot v39<|.mk fun v40=>
 k v40 h)<|.mk fun v41 h=>
 qIf v41 (.mk (
 qCall call (.fn 16 []) [v8] h<|.mk fun v42 h=>
 qEql v42 (.int .i64 0)<|.mk fun v43=>
 qOr v43 h (.mk fun h k=>
 zcm v7 (.str [])<|.mk fun v44=>
 k v44 h)<|.mk fun v45 h=>
 k v45 h))<|.mk (
 j9 x0 x1 x2 x3 x4 x5 x6 v4 v7 v8 x10 x11 x12 x13 x14 x15 v6 v7 v8 x19 x20 x21 x22 x23 x24 h)
def f242{β:Type}(N:Nat)(call:zf β)(a:List AV)(h:H)(k:K β):Option β :=
 qBox 0 (nth a 0) h<|.mk fun v0 h=>
 zk 25 (.mk (
 f242_J1 N call k))<|.mk fun j1=>
 qCall call (.fn 153 []) [] h<|.mk fun v46 h=>
 qNot v46<|.mk fun v47=>
 qIf v47 (.mk (
 k (.bool false) h))<|.mk (
 j1 (nth a 0) (nth a 1) (nth a 2) (nth a 3) (nth a 4) v0 (.bool false) (nth a 11) (nth a 12) (nth a 13) (nth a 14) (nth a 15) (nth a 16) (nth a 17) (nth a 18) (nth a 20) (nth a 27) (nth a 33) (nth a 34) (nth a 67) (nth a 73) (nth a 74) (nth a 75) (nth a 81) (nth a 82) h)
theorem y242:zy I 242 T.s242 N call a h k=f242 N call a h k:=by kernel_rfl
def e242:Ent:=⟨242,T.s242,fun _ _=>f242,fun _=>y242⟩
structure GF9 (t:ETree):Prop where
 g242:t.get 242=some e242
section
variable {β:Type} {t:ETree} {I:FI} (n:Nat) (a:List AV) (h:H) (k:K β)
theorem GF9.c242(T:GF9 t):zc t I (n+1) (.fn 242 []) a h k=f242 n (zc t I n) a h k:=by rw[cRule T.g242];rfl
end
end
end Am.F
