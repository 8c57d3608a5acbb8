/- What the functions come to. -/
import Derived.Test.YtlidemdbimpkaaaDoorAmGL11T
import Derived.Test.YtlidemdbimpkaaaDoorAmJc
import Derived.Test.YtlidemdbimpkaaaDoorAmJi
set_option maxRecDepth 100000
set_option linter.unusedVariables false
namespace Am.F
open Go Am
noncomputable section
variable {β:Type} (I:FI) (N:Nat) (call:zh β) (a:List AV) (h:H) (k:K β)
def f123_J8{β:Type}(k:K β)(x0 x1 x2 x3 x4 x5 x6 x7 x8 x9 x10 x11 x12 x13:AV)(h:H):Option β :=
 k (.bool true) h
def f123_J11{β:Type}(l9:Cur β 14)(x0 x1 x2 x3 x4 x5 x6 x7 x8 x9 x10 x11 x12 x13:AV)(h:H):Option β :=
 qAdd x6 (.int .i64 1)<|.mk λv12=>
 l9 x0 x1 x2 x3 x4 x5 v12 x7 x8 x9 x10 x11 x12 x13 h
def f123_J19{β:Type}(l17:Cur β 14)(x0 x1 x2 x3 x4 x5 x6 x7 x8 x9 x10 x11 x12 x13:AV)(h:H):Option β :=
 qAdd x8 (.int .i64 1)<|.mk λv20=>
 l17 x0 x1 x2 x3 x4 x5 x6 x7 v20 x9 x10 x11 x12 x13 h
def f123_J18{β:Type}(call:zh β)(k:K β)(l17:Cur β 14)(x0 x1 x2 x3 x4 x5 x6 x7 x8 x9 x10 x11 x12 x13:AV)(h:H):Option β :=
 zp 14 (.mk (
 f123_J19 l17))<|.mk λj19=>
 zg 2 x7<|.mk λv21=>
 za v21 h<|.mk λv22=>
 zM 1 v22 x8<|.mk λv23=>
 za v23 h<|.mk λv24=>
 qCall call (.fn 18 []) [v24] h<|.mk λv25 h=>
 qNot v25<|.mk λv26=>
 qIf v26 (.mk (
 k (.bool false) h))<|.mk (
 j19 x0 x1 x2 x3 x4 x5 x6 x7 x8 x9 x10 x11 x12 x13 h)
def f123_L17{β:Type}(call:zh β)(k:K β)(j11:Cur β 14)(l17:Cur β 14)(x0 x1 x2 x3 x4 x5 x6 x7 x8 x9 x10 x11 x12 x13:AV)(h:H):Option β :=
 zp 14 (.mk (
 f123_J18 call k l17))<|.mk λj18=>
 zg 2 x7<|.mk λv27=>
 za v27 h<|.mk λv28=>
 qLenL v28<|.mk λv29=>
 qLss x8 v29<|.mk λv30=>
 qIf v30 (.mk (
 j18 .any .any x2 .any x4 .any x6 x7 x8 .any .any .any .any .any h))<|.mk (
 j11 .any .any x2 .any x4 .any x6 x7 x8 .any .any .any .any .any h)
def f123_J16{β:Type}(N:Nat)(call:zh β)(k:K β)(j11:Cur β 14)(x0 x1 x2 x3 x4 x5 x6 x7 x8 x9 x10 x11 x12 x13:AV)(h:H):Option β :=
 (zaz 14 N<|.mk (
 f123_L17 call k j11)) x0 x1 x2 x3 x4 x5 x6 x7 (.int .i64 0) x9 x10 x11 x12 x13 h
def f123_J10{β:Type}(N:Nat)(call:zh β)(k:K β)(l9:Cur β 14)(x0 x1 x2 x3 x4 x5 x6 x7 x8 x9 x10 x11 x12 x13:AV)(h:H):Option β :=
 zp 14 (.mk (
 f123_J11 l9))<|.mk λj11=>
 zM 4 x4 x6<|.mk λv13=>
 zt 4 v13 h<|.mk λv14=>
 zac 0 [(.int .i64 0),(.int .i64 0),.nils,(.str [])] h<|.mk λv15 h=>
 zn 4 v15 v14 h<|.mk λh=>
 zp 14 (.mk (
 f123_J16 N call k j11))<|.mk λj16=>
 zg 1 v15<|.mk λv31=>
 za v31 h<|.mk λv32=>
 qGeq v32 x6<|.mk λv33=>
 qGrd v33 false h (.mk λh k=>
 k x6 h)<|.mk λv34 h=>
 qGrd v33 false h (.mk λh k=>
 qEql v34 (.int .i64 0)<|.mk λv35=>
 k v35 h)<|.mk λv36 h=>
 qGrd v33 false h (.mk λh k=>
 k v36 h)<|.mk λv37 h=>
 qGrd v37 true h (.mk λh k=>
 zg 1 v15<|.mk λv38=>
 k v38 h)<|.mk λv39 h=>
 qGrd v37 true h (.mk λh k=>
 za v39 h<|.mk λv40=>
 k v40 h)<|.mk λv41 h=>
 qGrd v37 true h (.mk λh k=>
 qNeq v41 (.int .i64 (-1))<|.mk λv42=>
 k v42 h)<|.mk λv43 h=>
 qGrd v37 true h (.mk λh k=>
 k v43 h)<|.mk λv44 h=>
 qGrd v44 false h (.mk λh k=>
 zg 0 v15<|.mk λv45=>
 k v45 h)<|.mk λv46 h=>
 qGrd v44 false h (.mk λh k=>
 za v46 h<|.mk λv47=>
 k v47 h)<|.mk λv48 h=>
 qGrd v44 false h (.mk λh k=>
 qNeq v48 (.int .i64 0)<|.mk λv49=>
 k v49 h)<|.mk λv50 h=>
 qGrd v37 true h (.mk λh k=>
 zcQ v44 (.bool true) v50<|.mk λv51=>
 k v51 h)<|.mk λv52 h=>
 qGrd v33 false h (.mk λh k=>
 zcQ v37 v52 (.bool false)<|.mk λv53=>
 k v53 h)<|.mk λv54 h=>
 zcQ v33 (.bool true) v54<|.mk λv55=>
 qGrd v55 false h (.mk λh k=>
 k x6 h)<|.mk λv56 h=>
 qGrd v55 false h (.mk λh k=>
 qGtr v56 (.int .i64 0)<|.mk λv57=>
 k v57 h)<|.mk λv58 h=>
 qGrd v55 false h (.mk λh k=>
 k v58 h)<|.mk λv59 h=>
 qGrd v59 true h (.mk λh k=>
 zg 1 v15<|.mk λv60=>
 k v60 h)<|.mk λv61 h=>
 qGrd v59 true h (.mk λh k=>
 za v61 h<|.mk λv62=>
 k v62 h)<|.mk λv63 h=>
 qGrd v59 true h (.mk λh k=>
 qLss v63 (.int .i64 0)<|.mk λv64=>
 k v64 h)<|.mk λv65 h=>
 qGrd v55 false h (.mk λh k=>
 zcQ v59 v65 (.bool false)<|.mk λv66=>
 k v66 h)<|.mk λv67 h=>
 zcQ v55 (.bool true) v67<|.mk λv68=>
 qGrd v68 false h (.mk λh k=>
 zg 0 v15<|.mk λv69=>
 k v69 h)<|.mk λv70 h=>
 qGrd v68 false h (.mk λh k=>
 za v70 h<|.mk λv71=>
 k v71 h)<|.mk λv72 h=>
 qGrd v68 false h (.mk λh k=>
 qLss v72 (.int .i64 0)<|.mk λv73=>
 k v73 h)<|.mk λv74 h=>
 zcQ v68 (.bool true) v74<|.mk λv75=>
 qGrd v75 false h (.mk λh k=>
 zg 0 v15<|.mk λv76=>
 k v76 h)<|.mk λv77 h=>
 qGrd v75 false h (.mk λh k=>
 za v77 h<|.mk λv78=>
 k v78 h)<|.mk λv79 h=>
 qGrd v75 false h (.mk λh k=>
 zg 0 x2<|.mk λv80=>
 k v80 h)<|.mk λv81 h=>
 qGrd v75 false h (.mk λh k=>
 za v81 h<|.mk λv82=>
 k v82 h)<|.mk λv83 h=>
 qGrd v75 false h (.mk λh k=>
 qLenL v83<|.mk λv84=>
 k v84 h)<|.mk λv85 h=>
 qGrd v75 false h (.mk λh k=>
 qGeq v79 v85<|.mk λv86=>
 k v86 h)<|.mk λv87 h=>
 zcQ v75 (.bool true) v87<|.mk λv88=>
 qGrd v88 false h (.mk λh k=>
 zg 2 v15<|.mk λv89=>
 k v89 h)<|.mk λv90 h=>
 qGrd v88 false h (.mk λh k=>
 za v90 h<|.mk λv91=>
 k v91 h)<|.mk λv92 h=>
 qGrd v88 false h (.mk λh k=>
 qLenL v92<|.mk λv93=>
 k v93 h)<|.mk λv94 h=>
 qGrd v88 false h (.mk λh k=>
 zg 0 x2<|.mk λv95=>
 k v95 h)<|.mk λv96 h=>
 qGrd v88 false h (.mk λh k=>
 za v96 h<|.mk λv97=>
 k v97 h)<|.mk λv98 h=>
 qGrd v88 false h (.mk λh k=>
 zg 0 v15<|.mk λv99=>
 k v99 h)<|.mk λv100 h=>
 qGrd v88 false h (.mk λh k=>
 za v100 h<|.mk λv101=>
 k v101 h)<|.mk λv102 h=>
 qGrd v88 false h (.mk λh k=>
 zM 2 v98 v102<|.mk λv103=>
 k v103 h)<|.mk λv104 h=>
 qGrd v88 false h (.mk λh k=>
 zg 0 v104<|.mk λv105=>
 k v105 h)<|.mk λv106 h=>
 qGrd v88 false h (.mk λh k=>
 za v106 h<|.mk λv107=>
 k v107 h)<|.mk λv108 h=>
 qGrd v88 false h (.mk λh k=>
 qNeq v94 v108<|.mk λv109=>
 k v109 h)<|.mk λv110 h=>
 zcQ v88 (.bool true) v110<|.mk λv111=>
 qGrd v111 false h (.mk λh k=>
 zg 3 v15<|.mk λv112=>
 k v112 h)<|.mk λv113 h=>
 qGrd v111 false h (.mk λh k=>
 za v113 h<|.mk λv114=>
 k v114 h)<|.mk λv115 h=>
 qGrd v111 false h (.mk λh k=>
 qCall call (.fn 18 []) [v115] h<|.mk λv116 h=>
 k v116 h)<|.mk λv117 h=>
 qGrd v111 false h (.mk λh k=>
 qNot v117<|.mk λv118=>
 k v118 h)<|.mk λv119 h=>
 zcQ v111 (.bool true) v119<|.mk λv120=>
 qIf v120 (.mk (
 k (.bool false) h))<|.mk (
 j16 x0 x1 x2 x3 x4 x5 x6 v15 x8 x9 x10 x11 v14 v120 h)
def f123_L9{β:Type}(N:Nat)(call:zh β)(k:K β)(j8:Cur β 14)(l9:Cur β 14)(x0 x1 x2 x3 x4 x5 x6 x7 x8 x9 x10 x11 x12 x13:AV)(h:H):Option β :=
 zp 14 (.mk (
 f123_J10 N call k l9))<|.mk λj10=>
 qLenL x4<|.mk λv121=>
 qLss x6 v121<|.mk λv122=>
 qIf v122 (.mk (
 j10 .any .any x2 .any x4 .any x6 .any .any .any .any .any .any .any h))<|.mk (
 j8 .any .any x2 .any x4 .any x6 .any .any .any .any .any .any .any h)
def f123_J7{β:Type}(N:Nat)(call:zh β)(k:K β)(x0 x1 x2 x3 x4 x5 x6 x7 x8 x9 x10 x11 x12 x13:AV)(h:H):Option β :=
 zp 14 (.mk (
 f123_J8 k))<|.mk λj8=>
 (zaz 14 N<|.mk (
 f123_L9 N call k j8)) x0 x1 x2 x3 x4 x5 (.int .i64 0) x7 x8 x9 x10 x11 x12 x13 h
def f123_J6{β:Type}(N:Nat)(call:zh β)(k:K β)(x0 x1 x2 x3 x4 x5 x6 x7 x8 x9 x10 x11 x12 x13:AV)(h:H):Option β :=
 zp 14 (.mk (
 f123_J7 N call k))<|.mk λj7=>
 qLenL x4<|.mk λv123=>
 qEql v123 (.int .i64 0)<|.mk λv124=>
 qOr v124 h (.mk λh k=>
 qLenL x4<|.mk λv125=>
 qGtr v125 (.int .i64 401)<|.mk λv126=>
 k v126 h)<|.mk λv127 h=>
 qIf v127 (.mk (
 k (.bool false) h))<|.mk (
 j7 x0 x1 x2 x3 x4 x5 x6 x7 x8 x9 x10 x11 x12 x13 h)
def f123_J1{β:Type}(N:Nat)(call:zh β)(k:K β)(x0 x1 x2 x3 x4 x5 x6 x7 x8 x9 x10 x11 x12 x13:AV)(h:H):Option β :=
 zt 1 x2 h<|.mk λv2=>
 qCall call (.fn 136 []) [v2,x1] h<|.mk λv3 h=>
 qExt 0 v3<|.mk λv4=>
 qExt 1 v3<|.mk λv5=>
 zp 14 (.mk (
 f123_J6 N call k))<|.mk λj6=>
 qCall call (.fn 16 []) [v5] h<|.mk λv128 h=>
 qNeq v128 (.int .i64 0)<|.mk λv129=>
 qIf v129 (.mk (
 qLenL v4<|.mk λv130=>
 qEql v130 (.int .i64 0)<|.mk λv131=>
 k v131 h))<|.mk (
 j6 x0 x1 x2 x3 v4 v5 x6 x7 x8 v3 v4 v5 x12 x13 h)
def f123{β:Type}(N:Nat)(call:zh β)(a:List AV)(h:H)(k:K β):Option β :=
 qBox 0 (nth a 0) h<|.mk λv0 h=>
 zp 14 (.mk (
 f123_J1 N call k))<|.mk λj1=>
 qCall call (.fn 141 []) [] h<|.mk λv132 h=>
 qNot v132<|.mk λv133=>
 qIf v133 (.mk (
 k (.bool false) h))<|.mk (
 j1 (nth a 0) (nth a 1) v0 (.bool false) (nth a 5) (nth a 6) (nth a 7) (nth a 8) (nth a 9) (nth a 12) (nth a 16) (nth a 17) (nth a 41) (nth a 100) h)
theorem y123:zL I 123 T.s123 N call a h k=f123 N call a h k:=by kernel_rfl
def e123:Ent:=⟨123,T.s123,λ_ _=>f123,λ_=>y123⟩
structure GL11 (t:ETree):Prop where
 g123:t.get 123=some e123
section
variable {β:Type} {t:ETree} {I:FI} (n:Nat) (a:List AV) (h:H) (k:K β)
theorem GL11.c123(T:GL11 t):zd t I (n+1) (.fn 123 []) a h k=f123 n (zd t I n) a h k:=by rw[cRule T.g123];rfl
end
end
end Am.F
