/- What the functions come to. -/
import Derived.Test.YtddiafpckjhadaaGreatDoorAmGPRT
import Derived.Test.YtddiafpckjhadaaGreatDoorAmJc
set_option maxRecDepth 100000
set_option linter.unusedVariables false
namespace Am.F
open Go Am
noncomputable section
variable {β:Type} (I:FI) (N:Nat) (call:zc β) (a:List AV) (h:H) (k:K β)
def f148_J9{β:Type}(k:K β)(x0 x1 x2 x3 x4 x5 x6 x7 x8 x9 x10 x11:AV)(h:H):Option β :=
 zm 1 x6 h<|.mk λv10=>
 zj 1 x1 v10 h<|.mk λh=>
 zm 1 x1 h<|.mk λv11=>
 k (.tup [v11,(.int .i64 0)]) h
def f148_J8{β:Type}(call:zc β)(k:K β)(x0 x1 x2 x3 x4 x5 x6 x7 x8 x9 x10 x11:AV)(h:H):Option β :=
 zh 12 (.mk (
 f148_J9 k))<|.mk λj9=>
 qNil x5<|.mk λv12=>
 zf 1 v12<|.mk λv13=>
 za v13 h<|.mk λv14=>
 qOr v14 h (.mk λh k=>
 zm 1 x6 h<|.mk λv15=>
 qCall call (.fn 149 []) [v15] h<|.mk λv16 h=>
 qNot v16<|.mk λv17=>
 k v17 h)<|.mk λv18 h=>
 qIf v18 (.mk (
 zn [.nils] [] []<|.mk λv19=>
 zj 1 x1 v19 h<|.mk λh=>
 zm 1 x1 h<|.mk λv20=>
 k (.tup [v20,(.int .i64 700)]) h))<|.mk (
 j9 x0 x1 x2 x3 x4 x5 x6 x7 x8 x9 x10 x11 h)
def f148_J33{β:Type}(l21:Cur β 12)(x0 x1 x2 x3 x4 x5 x6 x7 x8 x9 x10 x11:AV)(h:H):Option β :=
 zf 0 x6<|.mk λv34=>
 za v34 h<|.mk λv35=>
 qNil x5<|.mk λv36=>
 zf 2 v36<|.mk λv37=>
 za v37 h<|.mk λv38=>
 zn [(.int .i64 0),.nils] [(0,1),(1,1)] [x8,v38]<|.mk λv39=>
 zt 0 [(.int .i64 0),.nils] 1 [(0,2)] [v39] h<|.mk λv40 h=>
 za v34 h<|.mk λv41=>
 qChk v41 v35<|.mk (
 qApp 0 2 32 v35 v40 h<|.mk λv42 h=>
 zf 0 x6<|.mk λv43=>
 zj 1 v43 v42 h<|.mk λh=>
 l21 x0 x1 x2 x3 x4 x5 x6 x7 x8 x9 x10 x11 h)
def f148_J22{β:Type}(call:zc β)(l21:Cur β 12)(x0 x1 x2 x3 x4 x5 x6 x7 x8 x9 x10 x11:AV)(h:H):Option β :=
 qNil x5<|.mk λv23=>
 zf 2 v23<|.mk λv24=>
 zj 1 v24 .nils h<|.mk λh=>
 qCall call (.fn 176 []) [x5] h<|.mk λv25 h=>
 qSEql v25 (.str [40])<|.mk λv26=>
 qAnd v26 h (.mk λh k=>
 qCall call (.fn 176 []) [x5] h<|.mk λv27 h=>
 qSEql v27 (.str [100,101,102])<|.mk λv28=>
 k v28 h)<|.mk λv29 h=>
 qCall call (.fn 176 []) [x5] h<|.mk λv30 h=>
 qCall call (.fn 177 []) [x5,v30,(.int .i64 3)] h<|.mk λv31 h=>
 qCall call (.fn 178 []) [x5] h<|.mk λv32 h=>
 zh 12 (.mk (
 f148_J33 l21))<|.mk λj33=>
 qNot v29<|.mk λv44=>
 qOr v44 h (.mk λh k=>
 qCall call (.fn 176 []) [x5] h<|.mk λv45 h=>
 zge v45 (.str [41])<|.mk λv46=>
 k v46 h)<|.mk λv47 h=>
 qIf v47 (.mk (
 qNil x5<|.mk λv48=>
 zf 1 v48<|.mk λv49=>
 zj 1 v49 (.bool true) h<|.mk λh=>
 j33 x0 x1 x2 x3 x4 x5 x6 v29 v31 x9 x10 x11 h))<|.mk (
 j33 x0 x1 x2 x3 x4 x5 x6 v29 v31 x9 x10 x11 h)
def f148_L21{β:Type}(call:zc β)(j8:Cur β 12)(l21:Cur β 12)(x0 x1 x2 x3 x4 x5 x6 x7 x8 x9 x10 x11:AV)(h:H):Option β :=
 zh 12 (.mk (
 f148_J22 call l21))<|.mk λj22=>
 qNil x5<|.mk λv50=>
 zf 0 v50<|.mk λv51=>
 za v51 h<|.mk λv52=>
 qLenL v52<|.mk λv53=>
 qGtr v53 (.int .i64 0)<|.mk λv54=>
 qAnd v54 h (.mk λh k=>
 qNil x5<|.mk λv55=>
 zf 1 v55<|.mk λv56=>
 za v56 h<|.mk λv57=>
 qNot v57<|.mk λv58=>
 k v58 h)<|.mk λv59 h=>
 qAnd v59 h (.mk λh k=>
 zf 0 x6<|.mk λv60=>
 za v60 h<|.mk λv61=>
 qLenL v61<|.mk λv62=>
 qLeq v62 (.int .i64 8)<|.mk λv63=>
 k v63 h)<|.mk λv64 h=>
 qIf v64 (.mk (
 j22 .any x1 .any .any .any x5 x6 .any .any .any .any .any h))<|.mk (
 j8 .any x1 .any .any .any x5 x6 .any .any .any .any .any h)
def f148_J4{β:Type}(N:Nat)(call:zc β)(k:K β)(x0 x1 x2 x3 x4 x5 x6 x7 x8 x9 x10 x11:AV)(h:H):Option β :=
 zn [.nils,(.bool false),.nils] [(0,1)] [x3]<|.mk λv5=>
 qBox 0 v5 h<|.mk λv6 h=>
 zO 0 [.nils] h<|.mk λv7 h=>
 zh 12 (.mk (
 f148_J8 call k))<|.mk λj8=>
 (zY 12 N<|.mk (
 f148_L21 call j8)) x0 x1 x2 x3 x4 v6 v7 x7 x8 x9 x10 x11 h
def f148{β:Type}(N:Nat)(call:zc β)(a:List AV)(h:H)(k:K β):Option β :=
 zO 0 [.nils] h<|.mk λv0 h=>
 qCall call (.fn 175 []) [(nth a 0)] h<|.mk λv1 h=>
 qExt 0 v1<|.mk λv2=>
 qExt 1 v1<|.mk λv3=>
 zh 12 (.mk (
 f148_J4 N call k))<|.mk λj4=>
 qNeq v3 (.int .i64 0)<|.mk λv65=>
 qIf v65 (.mk (
 zn [.nils] [] []<|.mk λv66=>
 zj 1 v0 v66 h<|.mk λh=>
 zm 1 v0 h<|.mk λv67=>
 k (.tup [v67,(.int .i64 700)]) h))<|.mk (
 j4 (nth a 0) v0 (.int .i64 0) v2 v3 (nth a 6) (nth a 7) (nth a 8) (nth a 9) v1 v2 v3 h)
theorem y148:zq I 148 T.s148 N call a h k=f148 N call a h k:=by kernel_rfl
def f175_J2{β:Type}(k:K β)(x0 x1 x2 x3 x4 x5 x6 x7 x8:AV)(h:H):Option β :=
 k (.tup [x4,(.int .i64 0)]) h
def f175_J5{β:Type}(l3:Cur β 9)(x0 x1 x2 x3 x4 x5 x6 x7 x8:AV)(h:H):Option β :=
 qAdd x6 (.int .i64 1)<|.mk λv6=>
 l3 x0 x1 x2 x3 x4 x5 v6 x7 x8 h
def f175_J21{β:Type}(l20:Cur β 9)(x0 x1 x2 x3 x4 x5 x6 x7 x8:AV)(h:H):Option β :=
 qAdd x6 (.int .i64 1)<|.mk λv22=>
 l20 x0 x1 x2 x3 x4 x5 v22 x7 x8 h
def f175_L20{β:Type}(j5:Cur β 9)(l20:Cur β 9)(x0 x1 x2 x3 x4 x5 x6 x7 x8:AV)(h:H):Option β :=
 zh 9 (.mk (
 f175_J21 l20))<|.mk λj21=>
 qEql x7 (.int .u8 35)<|.mk λv23=>
 qAnd v23 h (.mk λh k=>
 qAdd x6 (.int .i64 1)<|.mk λv24=>
 qLenS x0<|.mk λv25=>
 qLss v24 v25<|.mk λv26=>
 k v26 h)<|.mk λv27 h=>
 qAnd v27 h (.mk λh k=>
 qAdd x6 (.int .i64 1)<|.mk λv28=>
 qIdxS x0 v28<|.mk λv29=>
 qNeq v29 (.int .u8 10)<|.mk λv30=>
 k v30 h)<|.mk λv31 h=>
 qIf v31 (.mk (
 j21 x0 .any .any .any x4 x5 x6 x7 .any h))<|.mk (
 j5 x0 .any .any .any x4 x5 x6 x7 .any h)
def f175_J19{β:Type}(N:Nat)(j5:Cur β 9)(x0 x1 x2 x3 x4 x5 x6 x7 x8:AV)(h:H):Option β :=
 (zY 9 N<|.mk (
 f175_L20 j5)) x0 x1 x2 x3 x4 x5 x6 x7 x8 h
def f175_J18{β:Type}(N:Nat)(j5:Cur β 9)(x0 x1 x2 x3 x4 x5 x6 x7 x8:AV)(h:H):Option β :=
 zh 9 (.mk (
 f175_J19 N j5))<|.mk λj19=>
 qEql x7 (.int .u8 40)<|.mk λv32=>
 qOr v32 h (.mk λh k=>
 qEql x7 (.int .u8 41)<|.mk λv33=>
 k v33 h)<|.mk λv34 h=>
 qIf v34 (.mk (
 qAdd x6 (.int .i64 1)<|.mk λv35=>
 qSlS true true x0 [x6,v35]<|.mk λv36=>
 zt 0 [(.str [])] 1 [(0,1)] [v36] h<|.mk λv37 h=>
 qApp 0 1 16 x4 v37 h<|.mk λv38 h=>
 j19 x0 x1 x2 x3 v38 x5 x6 x7 x8 h))<|.mk (
 j19 x0 x1 x2 x3 x4 x5 x6 x7 x8 h)
def f175_J17{β:Type}(N:Nat)(j5:Cur β 9)(x0 x1 x2 x3 x4 x5 x6 x7 x8:AV)(h:H):Option β :=
 zh 9 (.mk (
 f175_J18 N j5))<|.mk λj18=>
 zge x5 (.str [])<|.mk λv39=>
 qIf v39 (.mk (
 zt 0 [(.str [])] 1 [(0,1)] [x5] h<|.mk λv40 h=>
 qApp 0 1 16 x4 v40 h<|.mk λv41 h=>
 j18 x0 x1 x2 x3 v41 (.str []) x6 x7 x8 h))<|.mk (
 j18 x0 x1 x2 x3 x4 x5 x6 x7 x8 h)
def f175_J7{β:Type}(N:Nat)(j5:Cur β 9)(x0 x1 x2 x3 x4 x5 x6 x7 x8:AV)(h:H):Option β :=
 qNeq x7 (.int .u8 10)<|.mk λv8=>
 qAnd v8 h (.mk λh k=>
 qNeq x7 (.int .u8 32)<|.mk λv9=>
 k v9 h)<|.mk λv10 h=>
 qAnd v10 h (.mk λh k=>
 qNeq x7 (.int .u8 40)<|.mk λv11=>
 k v11 h)<|.mk λv12 h=>
 qAnd v12 h (.mk λh k=>
 qNeq x7 (.int .u8 41)<|.mk λv13=>
 k v13 h)<|.mk λv14 h=>
 qAnd v14 h (.mk λh k=>
 qNeq x7 (.int .u8 35)<|.mk λv15=>
 k v15 h)<|.mk λv16 h=>
 zh 9 (.mk (
 f175_J17 N j5))<|.mk λj17=>
 qIf v16 (.mk (
 qAdd x6 (.int .i64 1)<|.mk λv42=>
 qSlS true true x0 [x6,v42]<|.mk λv43=>
 qSAdd x5 v43<|.mk λv44=>
 j5 x0 x1 x2 x3 x4 v44 x6 x7 v16 h))<|.mk (
 j17 x0 x1 x2 x3 x4 x5 x6 x7 v16 h)
def f175_J4{β:Type}(N:Nat)(l3:Cur β 9)(x0 x1 x2 x3 x4 x5 x6 x7 x8:AV)(h:H):Option β :=
 zh 9 (.mk (
 f175_J5 l3))<|.mk λj5=>
 zh 9 (.mk (
 f175_J7 N j5))<|.mk λj7=>
 qLenS x0<|.mk λv45=>
 qLss x6 v45<|.mk λv46=>
 qIf v46 (.mk (
 qIdxS x0 x6<|.mk λv47=>
 j7 x0 x1 x2 x3 x4 x5 x6 v47 x8 h))<|.mk (
 j7 x0 x1 x2 x3 x4 x5 x6 (.int .u8 10) x8 h)
def f175_L3{β:Type}(N:Nat)(j2:Cur β 9)(l3:Cur β 9)(x0 x1 x2 x3 x4 x5 x6 x7 x8:AV)(h:H):Option β :=
 zh 9 (.mk (
 f175_J4 N l3))<|.mk λj4=>
 qLenS x0<|.mk λv48=>
 qLeq x6 v48<|.mk λv49=>
 qIf v49 (.mk (
 j4 x0 .any .any .any x4 x5 x6 .any .any h))<|.mk (
 j2 x0 .any .any .any x4 x5 x6 .any .any h)
def f175_J1{β:Type}(N:Nat)(k:K β)(x0 x1 x2 x3 x4 x5 x6 x7 x8:AV)(h:H):Option β :=
 zh 9 (.mk (
 f175_J2 k))<|.mk λj2=>
 (zY 9 N<|.mk (
 f175_L3 N j2)) x0 x1 x2 x3 .nils (.str []) (.int .i64 0) x7 x8 h
def f175_J52{β:Type}(l50:Cur β 9)(x0 x1 x2 x3 x4 x5 x6 x7 x8:AV)(h:H):Option β :=
 qAdd x3 (.int .i64 1)<|.mk λv53=>
 l50 x0 x1 x2 v53 x4 x5 x6 x7 x8 h
def f175_J51{β:Type}(k:K β)(l50:Cur β 9)(x0 x1 x2 x3 x4 x5 x6 x7 x8:AV)(h:H):Option β :=
 zh 9 (.mk (
 f175_J52 l50))<|.mk λj52=>
 qIdxS x0 x3<|.mk λv54=>
 qNeq v54 (.int .u8 10)<|.mk λv55=>
 qAnd v55 h (.mk λh k=>
 qIdxS x0 x3<|.mk λv56=>
 qLss v56 (.int .u8 32)<|.mk λv57=>
 qOr v57 h (.mk λh k=>
 qIdxS x0 x3<|.mk λv58=>
 qGtr v58 (.int .u8 126)<|.mk λv59=>
 k v59 h)<|.mk λv60 h=>
 k v60 h)<|.mk λv61 h=>
 qIf v61 (.mk (
 k (.tup [.nils,(.int .i64 400)]) h))<|.mk (
 j52 x0 x1 x2 x3 x4 x5 x6 x7 x8 h)
def f175_L50{β:Type}(k:K β)(j1:Cur β 9)(l50:Cur β 9)(x0 x1 x2 x3 x4 x5 x6 x7 x8:AV)(h:H):Option β :=
 zh 9 (.mk (
 f175_J51 k l50))<|.mk λj51=>
 qLenS x0<|.mk λv62=>
 qLss x3 v62<|.mk λv63=>
 qIf v63 (.mk (
 j51 x0 .any .any x3 .any .any .any .any .any h))<|.mk (
 j1 x0 .any .any x3 .any .any .any .any .any h)
def f175_J0{β:Type}(N:Nat)(k:K β)(x0 x1 x2 x3 x4 x5 x6 x7 x8:AV)(h:H):Option β :=
 zh 9 (.mk (
 f175_J1 N k))<|.mk λj1=>
 (zY 9 N<|.mk (
 f175_L50 k j1)) x0 x1 x2 (.int .i64 0) x4 x5 x6 x7 x8 h
def f175{β:Type}(N:Nat)(call:zc β)(a:List AV)(h:H)(k:K β):Option β :=
 zh 9 (.mk (
 f175_J0 N k))<|.mk λj0=>
 qLenS (nth a 0)<|.mk λv64=>
 qGtr v64 (.int .i64 2048)<|.mk λv65=>
 qIf v65 (.mk (
 k (.tup [.nils,(.int .i64 400)]) h))<|.mk (
 j0 (nth a 0) .nils (.int .i64 0) (nth a 4) (nth a 5) (nth a 6) (nth a 7) (nth a 8) (nth a 9) h)
theorem y175:zq I 175 T.s175 N call a h k=f175 N call a h k:=by kernel_rfl
def f176_J0{β:Type}(k:K β)(x0 x1 x2 x3:AV)(h:H):Option β :=
 qNil x0<|.mk λv1=>
 zf 0 v1<|.mk λv2=>
 za v2 h<|.mk λv3=>
 zz 1 v3 (.int .i64 0)<|.mk λv4=>
 za v4 h<|.mk λv5=>
 qNil x0<|.mk λv6=>
 zf 0 v6<|.mk λv7=>
 za v7 h<|.mk λv8=>
 qSlL 1 true false false v8 [(.int .i64 1)]<|.mk λv9=>
 qNil x0<|.mk λv10=>
 zf 0 v10<|.mk λv11=>
 zj 1 v11 v9 h<|.mk λh=>
 k v5 h
def f176{β:Type}(N:Nat)(call:zc β)(a:List AV)(h:H)(k:K β):Option β :=
 zh 4 (.mk (
 f176_J0 k))<|.mk λj0=>
 qNil (nth a 0)<|.mk λv12=>
 zf 0 v12<|.mk λv13=>
 za v13 h<|.mk λv14=>
 qLenL v14<|.mk λv15=>
 qEql v15 (.int .i64 0)<|.mk λv16=>
 qIf v16 (.mk (
 qNil (nth a 0)<|.mk λv17=>
 zf 1 v17<|.mk λv18=>
 zj 1 v18 (.bool true) h<|.mk λh=>
 k (.str []) h))<|.mk (
 j0 (nth a 0) (.str []) (nth a 3) (nth a 19) h)
theorem y176:zq I 176 T.s176 N call a h k=f176 N call a h k:=by kernel_rfl
def f177_J3{β:Type}(k:K β)(x0 x1 x2 x3 x4 x5 x6 x7 x8:AV)(h:H):Option β :=
 k x4 h
def f177{β:Type}(N:Nat)(call:zc β)(a:List AV)(h:H)(k:K β):Option β :=
 qCall call (.fn 39 []) [(nth a 1)] h<|.mk λv0 h=>
 qExt 0 v0<|.mk λv1=>
 qExt 1 v0<|.mk λv2=>
 zh 9 (.mk (
 f177_J3 k))<|.mk λj3=>
 qEql v2 (.int .i64 0)<|.mk λv4=>
 qOr v4 h (.mk λh k=>
 qLenS (nth a 1)<|.mk λv5=>
 qNeq v2 v5<|.mk λv6=>
 k v6 h)<|.mk λv7 h=>
 qOr v7 h (.mk λh k=>
 qGtr v1 (nth a 2)<|.mk λv8=>
 k v8 h)<|.mk λv9 h=>
 qIf v9 (.mk (
 qNil (nth a 0)<|.mk λv10=>
 zf 1 v10<|.mk λv11=>
 zj 1 v11 (.bool true) h<|.mk λh=>
 k (.int .i64 0) h))<|.mk (
 j3 (nth a 0) (nth a 1) (nth a 2) (.int .i64 0) v1 v2 v0 v1 v2 h)
theorem y177:zq I 177 T.s177 N call a h k=f177 N call a h k:=by kernel_rfl
def f178_J8{β:Type}(call:zc β)(k:K β)(x0 x1 x2 x3 x4 x5 x6 x7 x8 x9 x10:AV)(h:H):Option β :=
 zn [(.int .i64 0),(.int .i64 0),(.int .i64 0),.nils] [(1,1)] [x4]<|.mk λv9=>
 qCall call (.fn 200 []) [x0,v9] h<|.mk λv10 h=>
 k v10 h
def f178_J2{β:Type}(call:zc β)(k:K β)(x0 x1 x2 x3 x4 x5 x6 x7 x8 x9 x10:AV)(h:H):Option β :=
 qCall call (.fn 12 []) [x2] h<|.mk λv3 h=>
 qExt 0 v3<|.mk λv4=>
 qExt 1 v3<|.mk λv5=>
 qExt 2 v3<|.mk λv6=>
 qExt 3 v3<|.mk λv7=>
 zh 11 (.mk (
 f178_J8 call k))<|.mk λj8=>
 qNeq v7 (.int .i64 0)<|.mk λv11=>
 qOr v11 h (.mk λh k=>
 qNeq v4 (.int .i64 1)<|.mk λv12=>
 k v12 h)<|.mk λv13 h=>
 qIf v13 (.mk (
 qNil x0<|.mk λv14=>
 zf 1 v14<|.mk λv15=>
 zj 1 v15 (.bool true) h<|.mk λh=>
 k (.int .i64 0) h))<|.mk (
 j8 x0 x1 x2 v4 v5 v7 v3 v4 v5 v6 v7 h)
def f178_J1{β:Type}(call:zc β)(k:K β)(x0 x1 x2 x3 x4 x5 x6 x7 x8 x9 x10:AV)(h:H):Option β :=
 zh 11 (.mk (
 f178_J2 call k))<|.mk λj2=>
 qSEql x2 (.str [40])<|.mk λv16=>
 qIf v16 (.mk (
 qCall call (.fn 199 []) [x0] h<|.mk λv17 h=>
 k v17 h))<|.mk (
 qSEql x2 (.str [101,114,114,111,114])<|.mk λv18=>
 qIf v18 (.mk (
 zn [(.int .i64 0),(.int .i64 0),(.int .i64 0),.nils] [(0,1)] [(.int .i64 7)]<|.mk λv19=>
 qCall call (.fn 200 []) [x0,v19] h<|.mk λv20 h=>
 k v20 h))<|.mk (
 qIdxS x2 (.int .i64 0)<|.mk λv21=>
 qEql v21 (.int .u8 36)<|.mk λv22=>
 qIf v22 (.mk (
 qCall call (.fn 201 []) [x0,x2,(.int .u8 36),(.int .i64 8)] h<|.mk λv23 h=>
 zn [(.int .i64 0),(.int .i64 0),(.int .i64 0),.nils] [(0,1),(1,1)] [(.int .i64 1),v23]<|.mk λv24=>
 qCall call (.fn 200 []) [x0,v24] h<|.mk λv25 h=>
 k v25 h))<|.mk (
 qIdxS x2 (.int .i64 0)<|.mk λv26=>
 qEql v26 (.int .u8 64)<|.mk λv27=>
 qIf v27 (.mk (
 qCall call (.fn 201 []) [x0,x2,(.int .u8 64),(.int .i64 99)] h<|.mk λv28 h=>
 zn [(.int .i64 0),(.int .i64 0),(.int .i64 0),.nils] [(0,1),(1,1)] [(.int .i64 3),v28]<|.mk λv29=>
 qCall call (.fn 200 []) [x0,v29] h<|.mk λv30 h=>
 k v30 h))<|.mk (
 j2 x0 x1 x2 x3 x4 x5 x6 x7 x8 x9 x10 h))))
def f178{β:Type}(N:Nat)(call:zc β)(a:List AV)(h:H)(k:K β):Option β :=
 qCall call (.fn 176 []) [(nth a 0)] h<|.mk λv0 h=>
 zh 11 (.mk (
 f178_J1 call k))<|.mk λj1=>
 qNil (nth a 0)<|.mk λv31=>
 zf 1 v31<|.mk λv32=>
 za v32 h<|.mk λv33=>
 qOr v33 h (.mk λh k=>
 qSEql v0 (.str [])<|.mk λv34=>
 k v34 h)<|.mk λv35 h=>
 qOr v35 h (.mk λh k=>
 qNil (nth a 0)<|.mk λv36=>
 zf 2 v36<|.mk λv37=>
 za v37 h<|.mk λv38=>
 qLenL v38<|.mk λv39=>
 qGtr v39 (.int .i64 24)<|.mk λv40=>
 k v40 h)<|.mk λv41 h=>
 qIf v41 (.mk (
 qNil (nth a 0)<|.mk λv42=>
 zf 1 v42<|.mk λv43=>
 zj 1 v43 (.bool true) h<|.mk λh=>
 k (.int .i64 0) h))<|.mk (
 j1 (nth a 0) (.int .i64 0) v0 (nth a 4) (nth a 5) (nth a 7) (nth a 60) (nth a 63) (nth a 64) (nth a 65) (nth a 66) h)
theorem y178:zq I 178 T.s178 N call a h k=f178 N call a h k:=by kernel_rfl
def f199_J2{β:Type}(k:K β)(x0 x1 x2 x3 x4 x5 x6 x7 x8 x9 x10 x11 x12 x13:AV)(h:H):Option β :=
 qNil x0<|.mk λv3=>
 zf 1 v3<|.mk λv4=>
 zj 1 v4 (.bool true) h<|.mk λh=>
 k (.int .i64 0) h
def f199_J1{β:Type}(call:zc β)(k:K β)(x0 x1 x2 x3 x4 x5 x6 x7 x8 x9 x10 x11 x12 x13:AV)(h:H):Option β :=
 zh 14 (.mk (
 f199_J2 k))<|.mk λj2=>
 qCall call (.fn 224 []) [x2] h<|.mk λv5 h=>
 qGeq v5 (.int .i64 0)<|.mk λv6=>
 qIf v6 (.mk (
 qCall call (.fn 225 []) [x0,(.int .i64 2)] h<|.mk λv7 h=>
 qCall call (.fn 224 []) [x2] h<|.mk λv8 h=>
 zn [(.int .i64 0),(.int .i64 0),(.int .i64 0),.nils] [(0,1),(1,1),(3,1)] [(.int .i64 4),v8,v7]<|.mk λv9=>
 qCall call (.fn 200 []) [x0,v9] h<|.mk λv10 h=>
 k v10 h))<|.mk (
 qSEql x2 (.str [99,97,115,101])<|.mk λv11=>
 qIf v11 (.mk (
 qCall call (.fn 178 []) [x0] h<|.mk λv12 h=>
 qCall call (.fn 176 []) [x0] h<|.mk λv13 h=>
 qCall call (.fn 201 []) [x0,v13,(.int .u8 64),(.int .i64 99)] h<|.mk λv14 h=>
 qCall call (.fn 176 []) [x0] h<|.mk λv15 h=>
 qCall call (.fn 177 []) [x0,v15,(.int .i64 3)] h<|.mk λv16 h=>
 zt 0 [(.int .i64 0)] 1 [(0,1)] [v12] h<|.mk λv17 h=>
 qCall call (.fn 225 []) [x0,(.int .i64 2)] h<|.mk λv18 h=>
 qApp 0 1 8 v17 v18 h<|.mk λv19 h=>
 zn [(.int .i64 0),(.int .i64 0),(.int .i64 0),.nils] [(0,1),(1,1),(2,1),(3,1)] [(.int .i64 5),v14,v16,v19]<|.mk λv20=>
 qCall call (.fn 200 []) [x0,v20] h<|.mk λv21 h=>
 k v21 h))<|.mk (
 qSEql x2 (.str [108,101,116])<|.mk λv22=>
 qIf v22 (.mk (
 qCall call (.fn 225 []) [x0,(.int .i64 2)] h<|.mk λv23 h=>
 zn [(.int .i64 0),(.int .i64 0),(.int .i64 0),.nils] [(0,1),(3,1)] [(.int .i64 6),v23]<|.mk λv24=>
 qCall call (.fn 200 []) [x0,v24] h<|.mk λv25 h=>
 k v25 h))<|.mk (
 qIdxS x2 (.int .i64 0)<|.mk λv26=>
 qEql v26 (.int .u8 102)<|.mk λv27=>
 qIf v27 (.mk (
 qCall call (.fn 201 []) [x0,x2,(.int .u8 102),(.int .i64 7)] h<|.mk λv28 h=>
 qCall call (.fn 225 []) [x0,(.int .i64 3)] h<|.mk λv29 h=>
 zn [(.int .i64 0),(.int .i64 0),(.int .i64 0),.nils] [(0,1),(1,1),(3,1)] [(.int .i64 2),v28,v29]<|.mk λv30=>
 qCall call (.fn 200 []) [x0,v30] h<|.mk λv31 h=>
 k v31 h))<|.mk (
 qIdxS x2 (.int .i64 0)<|.mk λv32=>
 qEql v32 (.int .u8 64)<|.mk λv33=>
 qIf v33 (.mk (
 qCall call (.fn 201 []) [x0,x2,(.int .u8 64),(.int .i64 99)] h<|.mk λv34 h=>
 qCall call (.fn 225 []) [x0,(.int .i64 3)] h<|.mk λv35 h=>
 qNil x0<|.mk λv36=>
 zf 1 v36<|.mk λv37=>
 za v37 h<|.mk λv38=>
 qOr v38 h (.mk λh k=>
 qLenL v35<|.mk λv39=>
 qEql v39 (.int .i64 0)<|.mk λv40=>
 k v40 h)<|.mk λv41 h=>
 qNil x0<|.mk λv42=>
 zf 1 v42<|.mk λv43=>
 zj 1 v43 v41 h<|.mk λh=>
 zn [(.int .i64 0),(.int .i64 0),(.int .i64 0),.nils] [(0,1),(1,1),(3,1)] [(.int .i64 3),v34,v35]<|.mk λv44=>
 qCall call (.fn 200 []) [x0,v44] h<|.mk λv45 h=>
 k v45 h))<|.mk (
 j2 x0 x1 x2 x3 x4 x5 x6 x7 x8 x9 x10 x11 x12 x13 h)))))
def f199{β:Type}(N:Nat)(call:zc β)(a:List AV)(h:H)(k:K β):Option β :=
 qCall call (.fn 176 []) [(nth a 0)] h<|.mk λv0 h=>
 zh 14 (.mk (
 f199_J1 call k))<|.mk λj1=>
 qNil (nth a 0)<|.mk λv46=>
 zf 1 v46<|.mk λv47=>
 za v47 h<|.mk λv48=>
 qOr v48 h (.mk λh k=>
 qSEql v0 (.str [])<|.mk λv49=>
 k v49 h)<|.mk λv50 h=>
 qIf v50 (.mk (
 qNil (nth a 0)<|.mk λv51=>
 zf 1 v51<|.mk λv52=>
 zj 1 v52 (.bool true) h<|.mk λh=>
 k (.int .i64 0) h))<|.mk (
 j1 (nth a 0) (.int .i64 0) v0 (nth a 4) (nth a 5) (nth a 6) (nth a 7) (nth a 8) (nth a 9) (nth a 10) (nth a 11) (nth a 12) (nth a 13) (nth a 96) h)
theorem y199:zq I 199 T.s199 N call a h k=f199 N call a h k:=by kernel_rfl
def f200{β:Type}(N:Nat)(call:zc β)(a:List AV)(h:H)(k:K β):Option β :=
 qBox 0 (nth a 1) h<|.mk λv0 h=>
 qNil (nth a 0)<|.mk λv1=>
 zf 2 v1<|.mk λv2=>
 za v2 h<|.mk λv3=>
 zm 4 v0 h<|.mk λv4=>
 zt 0 [(.int .i64 0),(.int .i64 0),(.int .i64 0),.nils] 1 [(0,4)] [v4] h<|.mk λv5 h=>
 za v2 h<|.mk λv6=>
 qChk v6 v3<|.mk (
 qApp 0 4 48 v3 v5 h<|.mk λv7 h=>
 qNil (nth a 0)<|.mk λv8=>
 zf 2 v8<|.mk λv9=>
 zj 1 v9 v7 h<|.mk λh=>
 qNil (nth a 0)<|.mk λv10=>
 zf 2 v10<|.mk λv11=>
 za v11 h<|.mk λv12=>
 qLenL v12<|.mk λv13=>
 qSub v13 (.int .i64 1)<|.mk λv14=>
 k v14 h)
theorem y200:zq I 200 T.s200 N call a h k=f200 N call a h k:=by kernel_rfl
def f201_J0{β:Type}(call:zc β)(k:K β)(x0 x1 x2 x3 x4:AV)(h:H):Option β :=
 qSlS true false x1 [(.int .i64 1)]<|.mk λv1=>
 qCall call (.fn 177 []) [x0,v1,x3] h<|.mk λv2 h=>
 k v2 h
def f201{β:Type}(N:Nat)(call:zc β)(a:List AV)(h:H)(k:K β):Option β :=
 zh 5 (.mk (
 f201_J0 call k))<|.mk λj0=>
 qSEql (nth a 1) (.str [])<|.mk λv3=>
 qOr v3 h (.mk λh k=>
 qIdxS (nth a 1) (.int .i64 0)<|.mk λv4=>
 qNeq v4 (nth a 2)<|.mk λv5=>
 k v5 h)<|.mk λv6 h=>
 qIf v6 (.mk (
 qNil (nth a 0)<|.mk λv7=>
 zf 1 v7<|.mk λv8=>
 zj 1 v8 (.bool true) h<|.mk λh=>
 k (.int .i64 0) h))<|.mk (
 j0 (nth a 0) (nth a 1) (nth a 2) (nth a 3) (.int .i64 0) h)
theorem y201:zq I 201 T.s201 N call a h k=f201 N call a h k:=by kernel_rfl
def f224_J1{β:Type}(k:K β)(x0 x1 x2 x3:AV)(h:H):Option β :=
 k (.int .i64 (-1)) h
def f224_J4{β:Type}(l2:Cur β 4)(x0 x1 x2 x3:AV)(h:H):Option β :=
 qAdd x3 (.int .i64 1)<|.mk λv5=>
 l2 x0 x1 x2 v5 h
def f224_J3{β:Type}(k:K β)(l2:Cur β 4)(x0 x1 x2 x3:AV)(h:H):Option β :=
 zh 4 (.mk (
 f224_J4 l2))<|.mk λj4=>
 zz 1 x2 x3<|.mk λv6=>
 za v6 h<|.mk λv7=>
 qSEql v7 x0<|.mk λv8=>
 qIf v8 (.mk (
 k x3 h))<|.mk (
 j4 x0 x1 x2 x3 h)
def f224_L2{β:Type}(k:K β)(j1:Cur β 4)(l2:Cur β 4)(x0 x1 x2 x3:AV)(h:H):Option β :=
 zh 4 (.mk (
 f224_J3 k l2))<|.mk λj3=>
 qLenL x2<|.mk λv9=>
 qLss x3 v9<|.mk λv10=>
 qIf v10 (.mk (
 j3 x0 .any x2 x3 h))<|.mk (
 j1 x0 .any x2 x3 h)
def f224{β:Type}(N:Nat)(call:zc β)(a:List AV)(h:H)(k:K β):Option β :=
 zt 0 [(.str []),(.str []),(.str []),(.str []),(.str [])] 5 [(0,1),(1,1),(2,1),(3,1),(4,1)] [(.str [43]),(.str [45]),(.str [42]),(.str [61]),(.str [60])] h<|.mk λv0 h=>
 zh 4 (.mk (
 f224_J1 k))<|.mk λj1=>
 (zY 4 N<|.mk (
 f224_L2 k j1)) (nth a 0) (.int .i64 0) v0 (.int .i64 0) h
theorem y224:zq I 224 T.s224 N call a h k=f224 N call a h k:=by kernel_rfl
def f225_J1{β:Type}(k:K β)(x0 x1 x2 x3 x4:AV)(h:H):Option β :=
 k x3 h
def f225_J0{β:Type}(call:zc β)(k:K β)(x0 x1 x2 x3 x4:AV)(h:H):Option β :=
 zh 5 (.mk (
 f225_J1 k))<|.mk λj1=>
 qCall call (.fn 176 []) [x0] h<|.mk λv2 h=>
 zge v2 (.str [41])<|.mk λv3=>
 qIf v3 (.mk (
 qNil x0<|.mk λv4=>
 zf 1 v4<|.mk λv5=>
 zj 1 v5 (.bool true) h<|.mk λh=>
 j1 x0 x1 x2 x3 x4 h))<|.mk (
 j1 x0 x1 x2 x3 x4 h)
def f225_J8{β:Type}(call:zc β)(l6:Cur β 5)(x0 x1 x2 x3 x4:AV)(h:H):Option β :=
 qCall call (.fn 178 []) [x0] h<|.mk λv9 h=>
 zt 0 [(.int .i64 0)] 1 [(0,1)] [v9] h<|.mk λv10 h=>
 qApp 0 1 8 x3 v10 h<|.mk λv11 h=>
 l6 x0 x1 x2 v11 v9 h
def f225_J7{β:Type}(call:zc β)(k:K β)(l6:Cur β 5)(x0 x1 x2 x3 x4:AV)(h:H):Option β :=
 zh 5 (.mk (
 f225_J8 call l6))<|.mk λj8=>
 qLenL x3<|.mk λv12=>
 qEql v12 x1<|.mk λv13=>
 qIf v13 (.mk (
 qNil x0<|.mk λv14=>
 zf 1 v14<|.mk λv15=>
 zj 1 v15 (.bool true) h<|.mk λh=>
 k x3 h))<|.mk (
 j8 x0 x1 x2 x3 x4 h)
def f225_L6{β:Type}(call:zc β)(k:K β)(j0:Cur β 5)(l6:Cur β 5)(x0 x1 x2 x3 x4:AV)(h:H):Option β :=
 zh 5 (.mk (
 f225_J7 call k l6))<|.mk λj7=>
 qNil x0<|.mk λv16=>
 zf 1 v16<|.mk λv17=>
 za v17 h<|.mk λv18=>
 qNot v18<|.mk λv19=>
 qAnd v19 h (.mk λh k=>
 qNil x0<|.mk λv20=>
 zf 0 v20<|.mk λv21=>
 za v21 h<|.mk λv22=>
 qLenL v22<|.mk λv23=>
 qGtr v23 (.int .i64 0)<|.mk λv24=>
 k v24 h)<|.mk λv25 h=>
 qAnd v25 h (.mk λh k=>
 qNil x0<|.mk λv26=>
 zf 0 v26<|.mk λv27=>
 za v27 h<|.mk λv28=>
 zz 1 v28 (.int .i64 0)<|.mk λv29=>
 za v29 h<|.mk λv30=>
 zge v30 (.str [41])<|.mk λv31=>
 k v31 h)<|.mk λv32 h=>
 qIf v32 (.mk (
 j7 x0 x1 .any x3 .any h))<|.mk (
 j0 x0 x1 .any x3 .any h)
def f225{β:Type}(N:Nat)(call:zc β)(a:List AV)(h:H)(k:K β):Option β :=
 zh 5 (.mk (
 f225_J0 call k))<|.mk λj0=>
 (zY 5 N<|.mk (
 f225_L6 call k j0)) (nth a 0) (nth a 1) .nils .nils (nth a 6) h
theorem y225:zq I 225 T.s225 N call a h k=f225 N call a h k:=by kernel_rfl
def e148:Ent:=⟨148,T.s148,λ_ _=>f148,λ_=>y148⟩
def e175:Ent:=⟨175,T.s175,λ_ _=>f175,λ_=>y175⟩
def e176:Ent:=⟨176,T.s176,λ_ _=>f176,λ_=>y176⟩
def e177:Ent:=⟨177,T.s177,λ_ _=>f177,λ_=>y177⟩
def e178:Ent:=⟨178,T.s178,λ_ _=>f178,λ_=>y178⟩
def e199:Ent:=⟨199,T.s199,λ_ _=>f199,λ_=>y199⟩
def e200:Ent:=⟨200,T.s200,λ_ _=>f200,λ_=>y200⟩
def e201:Ent:=⟨201,T.s201,λ_ _=>f201,λ_=>y201⟩
def e224:Ent:=⟨224,T.s224,λ_ _=>f224,λ_=>y224⟩
def e225:Ent:=⟨225,T.s225,λ_ _=>f225,λ_=>y225⟩
structure GPR (t:ETree):Prop where
 g148:t.get 148=some e148
 g175:t.get 175=some e175
 g176:t.get 176=some e176
 g177:t.get 177=some e177
 g178:t.get 178=some e178
 g199:t.get 199=some e199
 g200:t.get 200=some e200
 g201:t.get 201=some e201
 g224:t.get 224=some e224
 g225:t.get 225=some e225
section
variable {β:Type} {t:ETree} {I:FI} (n:Nat) (a:List AV) (h:H) (k:K β)
end
end
end Am.F
