/- What the functions come to. -/
import Derived.Test.YtanhngcjijbodaaDoorAmGS8T
import Derived.Test.YtanhngcjijbodaaDoorAmJc
import Derived.Test.YtanhngcjijbodaaDoorAmJi
set_option maxRecDepth 100000
set_option linter.unusedVariables false
namespace Am.F
open Go Am
noncomputable section
variable {β:Type} (I:FI) (N:Nat) (call:zc β) (a:List AV) (h:H) (k:K β)
def f254_J3{β:Type}(k:K β)(x0 x1 x2 x3 x4 x5 x6 x7 x8 x9 x10:AV)(h:H):Option β :=
 k (.tup [x4,(.int .i64 0)]) h
def f254_J2{β:Type}(k:K β)(x0 x1 x2 x3 x4 x5 x6 x7 x8 x9 x10:AV)(h:H):Option β :=
 zt 11 (.mk (
 f254_J3 k))<|.mk λj3=>
 qLenS x4<|.mk λv4=>
 qGtr v4 (.int .i64 2048)<|.mk λv5=>
 qIf v5 (.mk (
 k (.tup [(.str []),(.int .i64 800)]) h))<|.mk (
 j3 x0 x1 x2 x3 x4 x5 x6 x7 x8 x9 x10 h)
def f254_J12{β:Type}(l9:Cur β 11)(x0 x1 x2 x3 x4 x5 x6 x7 x8 x9 x10:AV)(h:H):Option β :=
 qAdd x8 (.int .i64 1)<|.mk λv13=>
 l9 x0 x1 x2 x3 x4 x5 x6 x7 v13 x9 x10 h
def f254_J11{β:Type}(call:zc β)(l9:Cur β 11)(x0 x1 x2 x3 x4 x5 x6 x7 x8 x9 x10:AV)(h:H):Option β :=
 zt 11 (.mk (
 f254_J12 l9))<|.mk λj12=>
 zN 2 x6 x8<|.mk λv14=>
 zax 2 v14 h<|.mk λv15=>
 zb6 0 [(.int .i64 0),.nils] h<|.mk λv16 h=>
 zaJ 2 v16 v15 h<|.mk λh=>
 ze 0 v16<|.mk λv17=>
 za v17 h<|.mk λv18=>
 ze 1 v16<|.mk λv19=>
 za v19 h<|.mk λv20=>
 ze 1 v16<|.mk λv21=>
 za v21 h<|.mk λv22=>
 qLenL v22<|.mk λv23=>
 qSub v23 (.int .i64 1)<|.mk λv24=>
 zp call (.fn 29 []) [v18] h<|.mk λv25 h=>
 za v21 h<|.mk λv26=>
 zfZ v26 v22<|.mk λ_=>
 za v19 h<|.mk λv27=>
 zfZ v27 v20<|.mk λ_=>
 qSAdd (.str [40,100,101,102,32]) v25<|.mk λv28=>
 qSAdd v28 (.str [32])<|.mk λv29=>
 zp call (.fn 268 []) [v20,v24] h<|.mk λv30 h=>
 qSAdd v29 v30<|.mk λv31=>
 qSAdd v31 (.str [41,10])<|.mk λv32=>
 qSAdd x4 v32<|.mk λv33=>
 j12 x0 x1 x2 x3 v33 v16 x6 x7 x8 x9 v15 h
def f254_L9{β:Type}(call:zc β)(j2:Cur β 11)(l9:Cur β 11)(x0 x1 x2 x3 x4 x5 x6 x7 x8 x9 x10:AV)(h:H):Option β :=
 qLss x8 x7<|.mk λv10=>
 zt 11 (.mk (
 f254_J11 call l9))<|.mk λj11=>
 qIf v10 (.mk (
 j11 .any .any .any .any x4 .any x6 x7 x8 v10 .any h))<|.mk (
 j2 .any .any .any .any x4 .any x6 x7 x8 v10 .any h)
def f254_J1{β:Type}(N:Nat)(call:zc β)(k:K β)(x0 x1 x2 x3 x4 x5 x6 x7 x8 x9 x10:AV)(h:H):Option β :=
 zt 11 (.mk (
 f254_J2 k))<|.mk λj2=>
 ze 0 x1<|.mk λv6=>
 za v6 h<|.mk λv7=>
 qLenL v7<|.mk λv8=>
 (zcy 11 N<|.mk (
 f254_L9 call j2)) x0 x1 x2 x3 (.str []) x5 v7 v8 (.int .i64 0) x9 x10 h
def f254{β:Type}(N:Nat)(call:zc β)(a:List AV)(h:H)(k:K β):Option β :=
 qBox 0 (nth a 0) h<|.mk λv0 h=>
 zt 11 (.mk (
 f254_J1 N call k))<|.mk λj1=>
 zax 1 v0 h<|.mk λv34=>
 zp call (.fn 157 []) [v34] h<|.mk λv35 h=>
 qNot v35<|.mk λv36=>
 qIf v36 (.mk (
 k (.tup [(.str []),(.int .i64 800)]) h))<|.mk (
 j1 (nth a 0) v0 (.str []) (.int .i64 0) (nth a 4) (nth a 6) (nth a 11) (nth a 12) (nth a 13) (nth a 14) (nth a 16) h)
theorem y254:z8 I 254 T.s254 N call a h k=f254 N call a h k:=by kernel_rfl
def f268_J6{β:Type}(call:zc β)(k:K β)(x0 x1 x2 x3 x4 x5 x6 x7 x8 x9 x10 x11 x12 x13 x14:AV)(h:H):Option β :=
 zp call (.fn 42 []) [x5,(.str [32])] h<|.mk λv7 h=>
 qSAdd (.str [40]) v7<|.mk λv8=>
 qSAdd v8 (.str [41])<|.mk λv9=>
 k v9 h
def f268_J17{β:Type}(l14:Cur β 15)(x0 x1 x2 x3 x4 x5 x6 x7 x8 x9 x10 x11 x12 x13 x14:AV)(h:H):Option β :=
 qAdd x11 (.int .i64 1)<|.mk λv18=>
 l14 x0 x1 x2 x3 x4 x5 x6 x7 x8 x9 x10 v18 x12 x13 x14 h
def f268_J21{β:Type}(call:zc β)(j17:Cur β 15)(x0 x1 x2 x3 x4 x5 x6 x7 x8 x9 x10 x11 x12 x13 x14:AV)(h:H):Option β :=
 zp call (.fn 268 []) [x0,x7] h<|.mk λv22 h=>
 zQ 0 [(.str [])] 1 [(0,1)] [v22] h<|.mk λv23 h=>
 qApp 0 1 16 x5 v23 h<|.mk λv24 h=>
 j17 x0 x1 x2 x3 x4 v24 x6 x7 x8 x9 x10 x11 x12 x13 x14 h
def f268_J16{β:Type}(call:zc β)(l14:Cur β 15)(x0 x1 x2 x3 x4 x5 x6 x7 x8 x9 x10 x11 x12 x13 x14:AV)(h:H):Option β :=
 zt 15 (.mk (
 f268_J17 l14))<|.mk λj17=>
 zN 1 x9 x11<|.mk λv19=>
 za v19 h<|.mk λv20=>
 zt 15 (.mk (
 f268_J21 call j17))<|.mk λj21=>
 qNil x3<|.mk λv25=>
 ze 0 v25<|.mk λv26=>
 za v26 h<|.mk λv27=>
 qEql v27 (.int .i64 5)<|.mk λv28=>
 qAnd v28 h (.mk λh k=>
 qEql x11 (.int .i64 1)<|.mk λv29=>
 k v29 h)<|.mk λv30 h=>
 qIf v30 (.mk (
 qSAdd (.str [64]) x4<|.mk λv31=>
 qNil x3<|.mk λv32=>
 ze 2 v32<|.mk λv33=>
 za v33 h<|.mk λv34=>
 zp call (.fn 29 []) [v34] h<|.mk λv35 h=>
 zQ 0 [(.str []),(.str [])] 2 [(0,1),(1,1)] [v31,v35] h<|.mk λv36 h=>
 qApp 0 1 16 x5 v36 h<|.mk λv37 h=>
 j21 x0 x1 x2 x3 x4 v37 x11 v20 x8 x9 x10 x11 x12 x11 v20 h))<|.mk (
 j21 x0 x1 x2 x3 x4 x5 x11 v20 x8 x9 x10 x11 x12 x11 v20 h)
def f268_L14{β:Type}(call:zc β)(j6:Cur β 15)(l14:Cur β 15)(x0 x1 x2 x3 x4 x5 x6 x7 x8 x9 x10 x11 x12 x13 x14:AV)(h:H):Option β :=
 qLss x11 x10<|.mk λv15=>
 zt 15 (.mk (
 f268_J16 call l14))<|.mk λj16=>
 qIf v15 (.mk (
 j16 x0 .any .any x3 x4 x5 .any .any .any x9 x10 x11 v15 .any .any h))<|.mk (
 j6 x0 .any .any x3 x4 x5 .any .any .any x9 x10 x11 v15 .any .any h)
def f268_J5{β:Type}(N:Nat)(call:zc β)(k:K β)(x0 x1 x2 x3 x4 x5 x6 x7 x8 x9 x10 x11 x12 x13 x14:AV)(h:H):Option β :=
 zt 15 (.mk (
 f268_J6 call k))<|.mk λj6=>
 qNil x3<|.mk λv10=>
 ze 3 v10<|.mk λv11=>
 za v11 h<|.mk λv12=>
 qLenL v12<|.mk λv13=>
 (zcy 15 N<|.mk (
 f268_L14 call j6)) x0 x1 x2 x3 x4 x5 x6 x7 x8 v12 v13 (.int .i64 0) x12 x13 x14 h
def f268_J49{β:Type}(j5:Cur β 15)(x0 x1 x2 x3 x4 x5 x6 x7 x8 x9 x10 x11 x12 x13 x14:AV)(h:H):Option β :=
 qSAdd (.str [64]) x4<|.mk λv50=>
 zQ 0 [(.str [])] 1 [(0,1)] [v50] h<|.mk λv51 h=>
 j5 x0 x1 x2 x3 x4 v51 x6 x7 x8 x9 x10 x11 x12 x13 x14 h
def f268{β:Type}(N:Nat)(call:zc β)(a:List AV)(h:H)(k:K β):Option β :=
 zN 4 (nth a 0) (nth a 1)<|.mk λv0=>
 qNil v0<|.mk λv1=>
 ze 1 v1<|.mk λv2=>
 za v2 h<|.mk λv3=>
 zp call (.fn 29 []) [v3] h<|.mk λv4 h=>
 zt 15 (.mk (
 f268_J5 N call k))<|.mk λj5=>
 qNil v0<|.mk λv38=>
 ze 0 v38<|.mk λv39=>
 za v39 h<|.mk λv40=>
 qEql v40 (.int .i64 0)<|.mk λv41=>
 qIf v41 (.mk (
 k v4 h))<|.mk (
 qEql v40 (.int .i64 1)<|.mk λv42=>
 qIf v42 (.mk (
 qSAdd (.str [36]) v4<|.mk λv43=>
 k v43 h))<|.mk (
 qEql v40 (.int .i64 7)<|.mk λv44=>
 qIf v44 (.mk (
 k (.str [101,114,114,111,114]) h))<|.mk (
 qEql v40 (.int .i64 2)<|.mk λv45=>
 qIf v45 (.mk (
 qSAdd (.str [102]) v4<|.mk λv46=>
 zQ 0 [(.str [])] 1 [(0,1)] [v46] h<|.mk λv47 h=>
 j5 (nth a 0) (nth a 1) (.str []) v0 v4 v47 (nth a 8) (nth a 9) v40 (nth a 68) (nth a 69) (nth a 70) (nth a 71) (nth a 72) (nth a 74) h))<|.mk (
 qEql v40 (.int .i64 3)<|.mk λv48=>
 qIf v48 (.mk (
 zt 15 (.mk (
 f268_J49 j5))<|.mk λj49=>
 qNil v0<|.mk λv52=>
 ze 3 v52<|.mk λv53=>
 za v53 h<|.mk λv54=>
 qLenL v54<|.mk λv55=>
 qEql v55 (.int .i64 0)<|.mk λv56=>
 qIf v56 (.mk (
 qSAdd (.str [64]) v4<|.mk λv57=>
 k v57 h))<|.mk (
 j49 (nth a 0) (nth a 1) (.str []) v0 v4 .nils (nth a 8) (nth a 9) v40 (nth a 68) (nth a 69) (nth a 70) (nth a 71) (nth a 72) (nth a 74) h)))<|.mk (
 qEql v40 (.int .i64 4)<|.mk λv58=>
 qIf v58 (.mk (
 qNil v0<|.mk λv59=>
 ze 1 v59<|.mk λv60=>
 za v60 h<|.mk λv61=>
 zp call (.fn 275 []) [] h<|.mk λv62 h=>
 za v60 h<|.mk λv63=>
 zfZ v63 v61<|.mk λ_=>
 zN 1 v62 v61<|.mk λv64=>
 za v64 h<|.mk λv65=>
 zQ 0 [(.str [])] 1 [(0,1)] [v65] h<|.mk λv66 h=>
 j5 (nth a 0) (nth a 1) (.str []) v0 v4 v66 (nth a 8) (nth a 9) v40 (nth a 68) (nth a 69) (nth a 70) (nth a 71) (nth a 72) (nth a 74) h))<|.mk (
 qEql v40 (.int .i64 6)<|.mk λv67=>
 qIf v67 (.mk (
 zQ 0 [(.str [])] 1 [(0,1)] [(.str [108,101,116])] h<|.mk λv68 h=>
 j5 (nth a 0) (nth a 1) (.str []) v0 v4 v68 (nth a 8) (nth a 9) v40 (nth a 68) (nth a 69) (nth a 70) (nth a 71) (nth a 72) (nth a 74) h))<|.mk (
 qEql v40 (.int .i64 5)<|.mk λv69=>
 qIf v69 (.mk (
 zQ 0 [(.str [])] 1 [(0,1)] [(.str [99,97,115,101])] h<|.mk λv70 h=>
 j5 (nth a 0) (nth a 1) (.str []) v0 v4 v70 (nth a 8) (nth a 9) v40 (nth a 68) (nth a 69) (nth a 70) (nth a 71) (nth a 72) (nth a 74) h))<|.mk (
 j5 (nth a 0) (nth a 1) (.str []) v0 v4 .nils (nth a 8) (nth a 9) v40 (nth a 68) (nth a 69) (nth a 70) (nth a 71) (nth a 72) (nth a 74) h))))))))
theorem y268:z8 I 268 T.s268 N call a h k=f268 N call a h k:=by kernel_rfl
def f275{β:Type}(N:Nat)(call:zc β)(a:List AV)(h:H)(k:K β):Option β :=
 zp call (.fn 277 []) [(.str [43,32,45,32,42,32,61,32,60]),(.str [32])] h<|.mk λv0 h=>
 k v0 h
theorem y275:z8 I 275 T.s275 N call a h k=f275 N call a h k:=by kernel_rfl
def e254:Ent:=⟨254,T.s254,λ_ _=>f254,λ_=>y254⟩
def e268:Ent:=⟨268,T.s268,λ_ _=>f268,λ_=>y268⟩
def e275:Ent:=⟨275,T.s275,λ_ _=>f275,λ_=>y275⟩
section
variable {β:Type} {t:ETree} {I:FI} (n:Nat) (a:List AV) (h:H) (k:K β)
end
end
end Am.F
