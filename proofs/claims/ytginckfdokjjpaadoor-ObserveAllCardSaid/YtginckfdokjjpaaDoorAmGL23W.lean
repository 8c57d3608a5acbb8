/- What the functions come to. -/
import Derived.Test.YtginckfdokjjpaaDoorAmGL23T
import Derived.Test.YtginckfdokjjpaaDoorAmJc
set_option maxRecDepth 100000
set_option linter.unusedVariables false
namespace Am.F
open Go Am
noncomputable section
variable {β:Type} (I:FI) (N:Nat) (call:zf β) (a:List AV) (h:H) (k:K β)
def f305_J6{β:Type}(call:zf β)(k:K β)(x0 x1 x2 x3 x4 x5 x6 x7 x8 x9 x10 x11 x12 x13 x14 x15 x16 x17:AV)(h:H):Option β :=
 zg call (.fn 16 []) [x5] h<|.mk λv7 h=>
 qEql v7 (.int .i64 0)<|.mk λv8=>
 qAnd v8 h (.mk λh k=>
 qLenL x4<|.mk λv9=>
 qEql x6 v9<|.mk λv10=>
 k v10 h)<|.mk λv11 h=>
 k v11 h
def f305_J14{β:Type}(l12:Cur β 18)(x0 x1 x2 x3 x4 x5 x6 x7 x8 x9 x10 x11 x12 x13 x14 x15 x16 x17:AV)(h:H):Option β :=
 qAdd x7 (.int .i64 1)<|.mk λv15=>
 l12 x0 x1 x2 x3 x4 x5 x6 v15 x8 x9 x10 x11 x12 x13 x14 x15 x16 x17 h
def f305_J24{β:Type}(k:K β)(j14:Cur β 18)(x0 x1 x2 x3 x4 x5 x6 x7 x8 x9 x10 x11 x12 x13 x14 x15 x16 x17:AV)(h:H):Option β :=
 qNot x10<|.mk λv25=>
 qIf v25 (.mk (
 k (.bool false) h))<|.mk (
 j14 x0 x1 x2 x3 x4 x5 x6 x7 x8 x9 x10 x11 x12 x13 x14 x15 x16 x17 h)
def f305_J28{β:Type}(l26:Cur β 18)(x0 x1 x2 x3 x4 x5 x6 x7 x8 x9 x10 x11 x12 x13 x14 x15 x16 x17:AV)(h:H):Option β :=
 qAdd x11 (.int .i64 1)<|.mk λv29=>
 l26 x0 x1 x2 x3 x4 x5 x6 x7 x8 x9 x10 v29 x12 x13 x14 x15 x16 x17 h
def f305_J27{β:Type}(l26:Cur β 18)(x0 x1 x2 x3 x4 x5 x6 x7 x8 x9 x10 x11 x12 x13 x14 x15 x16 x17:AV)(h:H):Option β :=
 zp 18 (.mk (
 f305_J28 l26))<|.mk λj28=>
 qOr x10 h (.mk λh k=>
 zbD 1 x4 x11<|.mk λv30=>
 zi v30 h<|.mk λv31=>
 zeo v31 x8<|.mk λv32=>
 k v32 h)<|.mk λv33 h=>
 j28 x0 x1 x2 x3 x4 x5 x6 x7 x8 x9 v33 x11 x12 x13 x14 x15 x16 x17 h
def f305_L26{β:Type}(j24:Cur β 18)(l26:Cur β 18)(x0 x1 x2 x3 x4 x5 x6 x7 x8 x9 x10 x11 x12 x13 x14 x15 x16 x17:AV)(h:H):Option β :=
 zp 18 (.mk (
 f305_J27 l26))<|.mk λj27=>
 qLss x11 x6<|.mk λv34=>
 qIf v34 (.mk (
 j27 x0 .any .any x3 x4 x5 x6 x7 x8 .any x10 x11 .any .any .any .any .any .any h))<|.mk (
 j24 x0 .any .any x3 x4 x5 x6 x7 x8 .any x10 x11 .any .any .any .any .any .any h)
def f305_J23{β:Type}(N:Nat)(k:K β)(j14:Cur β 18)(x0 x1 x2 x3 x4 x5 x6 x7 x8 x9 x10 x11 x12 x13 x14 x15 x16 x17:AV)(h:H):Option β :=
 zp 18 (.mk (
 f305_J24 k j14))<|.mk λj24=>
 (zcg 18 N<|.mk (
 f305_L26 j24)) x0 x1 x2 x3 x4 x5 x6 x7 x8 x9 (.bool false) (.int .i64 0) x12 x13 x14 x15 x16 x17 h
def f305_J22{β:Type}(N:Nat)(k:K β)(j14:Cur β 18)(x0 x1 x2 x3 x4 x5 x6 x7 x8 x9 x10 x11 x12 x13 x14 x15 x16 x17:AV)(h:H):Option β :=
 zp 18 (.mk (
 f305_J23 N k j14))<|.mk λj23=>
 qLenL x4<|.mk λv35=>
 qLss x6 v35<|.mk λv36=>
 qAnd v36 h (.mk λh k=>
 zbD 1 x4 x6<|.mk λv37=>
 zi v37 h<|.mk λv38=>
 zeo v38 x8<|.mk λv39=>
 k v39 h)<|.mk λv40 h=>
 qIf v40 (.mk (
 qAdd x6 (.int .i64 1)<|.mk λv41=>
 j14 x0 x1 x2 x3 x4 x5 v41 x7 x8 x9 x10 x11 x12 x13 x14 x15 x16 x17 h))<|.mk (
 j23 x0 x1 x2 x3 x4 x5 x6 x7 x8 x9 x10 x11 x12 x13 x14 x15 x16 x17 h)
def f305_J21{β:Type}(N:Nat)(k:K β)(j14:Cur β 18)(x0 x1 x2 x3 x4 x5 x6 x7 x8 x9 x10 x11 x12 x13 x14 x15 x16 x17:AV)(h:H):Option β :=
 zp 18 (.mk (
 f305_J22 N k j14))<|.mk λj22=>
 zbD 4 x0 x7<|.mk λv42=>
 zF 0 v42<|.mk λv43=>
 zi v43 h<|.mk λv44=>
 qNeq v44 x3<|.mk λv45=>
 qIf v45 (.mk (
 j14 x0 x1 x2 x3 x4 x5 x6 x7 x8 x9 x10 x11 x12 x13 x14 x15 x16 x17 h))<|.mk (
 j22 x0 x1 x2 x3 x4 x5 x6 x7 x8 x9 x10 x11 x12 x13 x14 x15 x16 x17 h)
def f305_J13{β:Type}(N:Nat)(call:zf β)(k:K β)(l12:Cur β 18)(x0 x1 x2 x3 x4 x5 x6 x7 x8 x9 x10 x11 x12 x13 x14 x15 x16 x17:AV)(h:H):Option β :=
 zp 18 (.mk (
 f305_J14 l12))<|.mk λj14=>
 zbD 4 x0 x7<|.mk λv16=>
 zM 4 v16 h<|.mk λv17=>
 zg call (.fn 295 []) [v17] h<|.mk λv18 h=>
 qExt 0 v18<|.mk λv19=>
 qExt 1 v18<|.mk λv20=>
 zp 18 (.mk (
 f305_J21 N k j14))<|.mk λj21=>
 qNeq v20 (.int .i64 0)<|.mk λv46=>
 qIf v46 (.mk (
 k (.bool false) h))<|.mk (
 j21 x0 x1 x2 x3 x4 x5 x6 x7 v19 v20 x10 x11 x12 x13 x14 v18 v19 v20 h)
def f305_L12{β:Type}(N:Nat)(call:zf β)(k:K β)(j6:Cur β 18)(l12:Cur β 18)(x0 x1 x2 x3 x4 x5 x6 x7 x8 x9 x10 x11 x12 x13 x14 x15 x16 x17:AV)(h:H):Option β :=
 zp 18 (.mk (
 f305_J13 N call k l12))<|.mk λj13=>
 qLenL x0<|.mk λv47=>
 qLss x7 v47<|.mk λv48=>
 qIf v48 (.mk (
 j13 x0 .any .any x3 x4 x5 x6 x7 .any .any .any .any .any .any .any .any .any .any h))<|.mk (
 j6 x0 .any .any x3 x4 x5 x6 x7 .any .any .any .any .any .any .any .any .any .any h)
def f305_J1{β:Type}(N:Nat)(call:zf β)(k:K β)(x0 x1 x2 x3 x4 x5 x6 x7 x8 x9 x10 x11 x12 x13 x14 x15 x16 x17:AV)(h:H):Option β :=
 qBin .and x1 (.int .i64 7)<|.mk λv2=>
 zg call (.fn 266 []) [x0,v2] h<|.mk λv3 h=>
 qExt 0 v3<|.mk λv4=>
 qExt 1 v3<|.mk λv5=>
 zp 18 (.mk (
 f305_J6 call k))<|.mk λj6=>
 (zcg 18 N<|.mk (
 f305_L12 N call k j6)) x0 x1 x2 v2 v4 v5 (.int .i64 0) (.int .i64 0) x8 x9 x10 x11 v3 v4 v5 x15 x16 x17 h
def f305_J0{β:Type}(N:Nat)(call:zf β)(k:K β)(x0 x1 x2 x3 x4 x5 x6 x7 x8 x9 x10 x11 x12 x13 x14 x15 x16 x17:AV)(h:H):Option β :=
 zp 18 (.mk (
 f305_J1 N call k))<|.mk λj1=>
 zg call (.fn 299 []) [x0] h<|.mk λv49 h=>
 qNot v49<|.mk λv50=>
 qIf v50 (.mk (
 k (.bool true) h))<|.mk (
 j1 x0 x1 x2 x3 x4 x5 x6 x7 x8 x9 x10 x11 x12 x13 x14 x15 x16 x17 h)
def f305{β:Type}(N:Nat)(call:zf β)(a:List AV)(h:H)(k:K β):Option β :=
 zp 18 (.mk (
 f305_J0 N call k))<|.mk λj0=>
 zg call (.fn 264 []) [] h<|.mk λv51 h=>
 qNot v51<|.mk λv52=>
 qIf v52 (.mk (
 k (.bool false) h))<|.mk (
 j0 (nth a 0) (nth a 1) (.bool false) (nth a 5) (nth a 6) (nth a 7) (nth a 8) (nth a 9) (nth a 10) (nth a 11) (nth a 12) (nth a 13) (nth a 21) (nth a 25) (nth a 26) (nth a 33) (nth a 39) (nth a 40) h)
theorem y305:zN I 305 T.s305 N call a h k=f305 N call a h k:=by kernel_rfl
def e305:Ent:=⟨305,T.s305,λ_ _=>f305,λ_=>y305⟩
structure GL23 (t:ETree):Prop where
 g305:t.get 305=some e305
section
variable {β:Type} {t:ETree} {I:FI} (n:Nat) (a:List AV) (h:H) (k:K β)
theorem GL23.c305(T:GL23 t):za t I (n+1) (.fn 305 []) a h k=f305 n (za t I n) a h k:=by rw[cRule T.g305];rfl
end
end
end Am.F
