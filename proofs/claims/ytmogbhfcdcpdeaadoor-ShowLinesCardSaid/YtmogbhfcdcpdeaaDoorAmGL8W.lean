/- What the functions come to. -/
import Derived.Test.YtmogbhfcdcpdeaaDoorAmGL8T
import Derived.Test.YtmogbhfcdcpdeaaDoorAmJc
import Derived.Test.YtmogbhfcdcpdeaaDoorAmJi
set_option maxRecDepth 100000
set_option linter.unusedVariables false
namespace Am.F
open Go Am
noncomputable section
variable {β:Type} (I:FI) (N:Nat) (call:zd β) (a:List AV) (h:H) (k:K β)
def f303_J7{β:Type}(call:zd β)(k:K β)(x0 x1 x2 x3 x4 x5 x6 x7 x8 x9 x10 x11:AV)(h:H):Option β :=
 zh 0 x1<|.mk λv8=>
 za v8 h<|.mk λv9=>
 qLenL v9<|.mk λv10=>
 qEql x5 v10<|.mk λv11=>
 qAnd v11 h (.mk λh k=>
 qLenS x3<|.mk λv12=>
 qEql x6 v12<|.mk λv13=>
 k v13 h)<|.mk λv14 h=>
 qAnd v14 h (.mk λh k=>
 zaB 1 x1 h<|.mk λv15=>
 qCall call (.fn 149 []) [v15] h<|.mk λv16 h=>
 k v16 h)<|.mk λv17 h=>
 qAnd v17 h (.mk λh k=>
 qCall call (.fn 253 []) [] h<|.mk λv18 h=>
 qFld1 0 v18<|.mk λv19=>
 qLenL v19<|.mk λv20=>
 qEql v20 (.int .i64 2)<|.mk λv21=>
 k v21 h)<|.mk λv22 h=>
 qAnd v22 h (.mk λh k=>
 qCall call (.fn 255 []) [] h<|.mk λv23 h=>
 qSNeq v23 (.str [])<|.mk λv24=>
 k v24 h)<|.mk λv25 h=>
 k v25 h
def f303_J28{β:Type}(l26:Cur β 12)(x0 x1 x2 x3 x4 x5 x6 x7 x8 x9 x10 x11:AV)(h:H):Option β :=
 qAdd x7 (.int .i64 1)<|.mk λv29=>
 l26 x0 x1 x2 x3 x4 x5 x6 v29 x8 x9 x10 x11 h
def f303_J31{β:Type}(j28:Cur β 12)(x0 x1 x2 x3 x4 x5 x6 x7 x8 x9 x10 x11:AV)(h:H):Option β :=
 qAdd x5 (.int .i64 1)<|.mk λv32=>
 qAdd x7 (.int .i64 1)<|.mk λv33=>
 j28 x0 x1 x2 x3 x4 v32 v33 x7 x8 x9 x10 x11 h
def f303_J30{β:Type}(call:zd β)(k:K β)(j28:Cur β 12)(x0 x1 x2 x3 x4 x5 x6 x7 x8 x9 x10 x11:AV)(h:H):Option β :=
 zz 12 (.mk (
 f303_J31 j28))<|.mk λj31=>
 zh 0 x1<|.mk λv34=>
 za v34 h<|.mk λv35=>
 qLenL v35<|.mk λv36=>
 qGeq x5 v36<|.mk λv37=>
 qGrd v37 false h (.mk λh k=>
 k x7 h)<|.mk λv38 h=>
 qGrd v37 false h (.mk λh k=>
 k x6 h)<|.mk λv39 h=>
 qGrd v37 false h (.mk λh k=>
 qSub v38 v39<|.mk λv40=>
 k v40 h)<|.mk λv41 h=>
 qGrd v37 false h (.mk λh k=>
 qLss v41 (.int .i64 8)<|.mk λv42=>
 k v42 h)<|.mk λv43 h=>
 zdc v37 (.bool true) v43<|.mk λv44=>
 qGrd v44 false h (.mk λh k=>
 k x3 h)<|.mk λv45 h=>
 qGrd v44 false h (.mk λh k=>
 k x6 h)<|.mk λv46 h=>
 qGrd v44 false h (.mk λh k=>
 k x6 h)<|.mk λv47 h=>
 qGrd v44 false h (.mk λh k=>
 qAdd v47 (.int .i64 5)<|.mk λv48=>
 k v48 h)<|.mk λv49 h=>
 qGrd v44 false h (.mk λh k=>
 qSlS true true v45 [v46,v49]<|.mk λv50=>
 k v50 h)<|.mk λv51 h=>
 qGrd v44 false h (.mk λh k=>
 qSNeq v51 (.str [40,100,101,102,32])<|.mk λv52=>
 k v52 h)<|.mk λv53 h=>
 zdc v44 (.bool true) v53<|.mk λv54=>
 qGrd v54 false h (.mk λh k=>
 k x3 h)<|.mk λv55 h=>
 qGrd v54 false h (.mk λh k=>
 k x6 h)<|.mk λv56 h=>
 qGrd v54 false h (.mk λh k=>
 qAdd v56 (.int .i64 5)<|.mk λv57=>
 k v57 h)<|.mk λv58 h=>
 qGrd v54 false h (.mk λh k=>
 k x6 h)<|.mk λv59 h=>
 qGrd v54 false h (.mk λh k=>
 qAdd v59 (.int .i64 6)<|.mk λv60=>
 k v60 h)<|.mk λv61 h=>
 qGrd v54 false h (.mk λh k=>
 qSlS true true v55 [v58,v61]<|.mk λv62=>
 k v62 h)<|.mk λv63 h=>
 qGrd v54 false h (.mk λh k=>
 zh 0 x1<|.mk λv64=>
 k v64 h)<|.mk λv65 h=>
 qGrd v54 false h (.mk λh k=>
 za v65 h<|.mk λv66=>
 k v66 h)<|.mk λv67 h=>
 qGrd v54 false h (.mk λh k=>
 k x5 h)<|.mk λv68 h=>
 qGrd v54 false h (.mk λh k=>
 zS 2 v67 v68<|.mk λv69=>
 k v69 h)<|.mk λv70 h=>
 qGrd v54 false h (.mk λh k=>
 zh 0 v70<|.mk λv71=>
 k v71 h)<|.mk λv72 h=>
 qGrd v54 false h (.mk λh k=>
 za v72 h<|.mk λv73=>
 k v73 h)<|.mk λv74 h=>
 qGrd v54 false h (.mk λh k=>
 qCall call (.fn 22 []) [v74] h<|.mk λv75 h=>
 k v75 h)<|.mk λv76 h=>
 qGrd v54 false h (.mk λh k=>
 qSNeq v63 v76<|.mk λv77=>
 k v77 h)<|.mk λv78 h=>
 zdc v54 (.bool true) v78<|.mk λv79=>
 qGrd v79 false h (.mk λh k=>
 k x3 h)<|.mk λv80 h=>
 qGrd v79 false h (.mk λh k=>
 k x7 h)<|.mk λv81 h=>
 qGrd v79 false h (.mk λh k=>
 qSub v81 (.int .i64 1)<|.mk λv82=>
 k v82 h)<|.mk λv83 h=>
 qGrd v79 false h (.mk λh k=>
 qIdxS v80 v83<|.mk λv84=>
 k v84 h)<|.mk λv85 h=>
 qGrd v79 false h (.mk λh k=>
 qNeq v85 (.int .u8 41)<|.mk λv86=>
 k v86 h)<|.mk λv87 h=>
 zdc v79 (.bool true) v87<|.mk λv88=>
 qIf v88 (.mk (
 k (.bool false) h))<|.mk (
 j31 x0 x1 x2 x3 x4 x5 x6 x7 x8 x9 x10 v88 h)
def f303_J27{β:Type}(call:zd β)(k:K β)(l26:Cur β 12)(x0 x1 x2 x3 x4 x5 x6 x7 x8 x9 x10 x11:AV)(h:H):Option β :=
 zz 12 (.mk (
 f303_J28 l26))<|.mk λj28=>
 zz 12 (.mk (
 f303_J30 call k j28))<|.mk λj30=>
 qIdxS x3 x7<|.mk λv89=>
 qNeq v89 (.int .u8 10)<|.mk λv90=>
 qIf v90 (.mk (
 j28 x0 x1 x2 x3 x4 x5 x6 x7 x8 x9 x10 x11 h))<|.mk (
 j30 x0 x1 x2 x3 x4 x5 x6 x7 x8 x9 x10 x11 h)
def f303_L26{β:Type}(call:zd β)(k:K β)(j7:Cur β 12)(l26:Cur β 12)(x0 x1 x2 x3 x4 x5 x6 x7 x8 x9 x10 x11:AV)(h:H):Option β :=
 zz 12 (.mk (
 f303_J27 call k l26))<|.mk λj27=>
 qLenS x3<|.mk λv91=>
 qLss x7 v91<|.mk λv92=>
 qIf v92 (.mk (
 j27 .any x1 .any x3 .any x5 x6 x7 .any .any .any .any h))<|.mk (
 j7 .any x1 .any x3 .any x5 x6 x7 .any .any .any .any h)
def f303_J6{β:Type}(N:Nat)(call:zd β)(k:K β)(x0 x1 x2 x3 x4 x5 x6 x7 x8 x9 x10 x11:AV)(h:H):Option β :=
 zz 12 (.mk (
 f303_J7 call k))<|.mk λj7=>
 (zbu 12 N<|.mk (
 f303_L26 call k j7)) x0 x1 x2 x3 x4 (.int .i64 0) (.int .i64 0) (.int .i64 0) x8 x9 x10 x11 h
def f303_J1{β:Type}(N:Nat)(call:zd β)(k:K β)(x0 x1 x2 x3 x4 x5 x6 x7 x8 x9 x10 x11:AV)(h:H):Option β :=
 zaB 1 x1 h<|.mk λv2=>
 qCall call (.fn 254 []) [v2] h<|.mk λv3 h=>
 qExt 0 v3<|.mk λv4=>
 qExt 1 v3<|.mk λv5=>
 zz 12 (.mk (
 f303_J6 N call k))<|.mk λj6=>
 qCall call (.fn 16 []) [v5] h<|.mk λv93 h=>
 qNeq v93 (.int .i64 0)<|.mk λv94=>
 qIf v94 (.mk (
 qSEql v4 (.str [])<|.mk λv95=>
 k v95 h))<|.mk (
 j6 x0 x1 x2 v4 v5 x5 x6 x7 v3 v4 v5 x11 h)
def f303{β:Type}(N:Nat)(call:zd β)(a:List AV)(h:H)(k:K β):Option β :=
 qBox 0 (nth a 0) h<|.mk λv0 h=>
 zz 12 (.mk (
 f303_J1 N call k))<|.mk λj1=>
 qCall call (.fn 252 []) [] h<|.mk λv96 h=>
 qNot v96<|.mk λv97=>
 qIf v97 (.mk (
 k (.bool false) h))<|.mk (
 j1 (nth a 0) v0 (.bool false) (nth a 3) (nth a 4) (nth a 5) (nth a 6) (nth a 7) (nth a 10) (nth a 13) (nth a 14) (nth a 71) h)
theorem y303:zai I 303 T.s303 N call a h k=f303 N call a h k:=by kernel_rfl
def e303:Ent:=⟨303,T.s303,λ_ _=>f303,λ_=>y303⟩
structure GL8 (t:ETree):Prop where
 g303:t.get 303=some e303
section
variable {β:Type} {t:ETree} {I:FI} (n:Nat) (a:List AV) (h:H) (k:K β)
theorem GL8.c303(T:GL8 t):zc t I (n+1) (.fn 303 []) a h k=f303 n (zc t I n) a h k:=by rw[cRule T.g303];rfl
end
end
end Am.F
