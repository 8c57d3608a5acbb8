/- What the functions come to. -/
import Derived.Test.YtddiafpckjhadaaGreatDoorAmGPT
import Derived.Test.YtddiafpckjhadaaGreatDoorAmJc
set_option maxRecDepth 100000
set_option linter.unusedVariables false
namespace Am.F
open Go Am
noncomputable section
variable {β:Type} (I:FI) (N:Nat) (call:zh β) (a:List AV) (h:H) (k:K β)
def f135_J2{β:Type}(k:K β)(x0 x1 x2 x3 x4:AV)(h:H):Option β :=
 zo [.nils] [(0,1)] [x3]<|.mk λv3=>
 zj 1 x2 v3 h<|.mk λh=>
 zi 1 x2 h<|.mk λv4=>
 k v4 h
def f135_J7{β:Type}(l5:Cur β 5)(x0 x1 x2 x3 x4:AV)(h:H):Option β :=
 qAdd x4 (.int .i64 1)<|.mk λv8=>
 l5 x0 x1 x2 x3 v8 h
def f135_J6{β:Type}(call:zh β)(l5:Cur β 5)(x0 x1 x2 x3 x4:AV)(h:H):Option β :=
 zl 5 (.mk (
 f135_J7 l5))<|.mk λj7=>
 zg 0 x1<|.mk λv9=>
 za v9 h<|.mk λv10=>
 zr 2 v10 x4<|.mk λv11=>
 zi 2 v11 h<|.mk λv12=>
 qCall call (.fn 156 []) [v12] h<|.mk λv13 h=>
 zs 0 [(.int .i64 0),.nils] 1 [(0,2)] [v13] h<|.mk λv14 h=>
 qApp 0 2 32 x3 v14 h<|.mk λv15 h=>
 j7 x0 x1 x2 v15 x4 h
def f135_L5{β:Type}(call:zh β)(j2:Cur β 5)(l5:Cur β 5)(x0 x1 x2 x3 x4:AV)(h:H):Option β :=
 zl 5 (.mk (
 f135_J6 call l5))<|.mk λj6=>
 zg 0 x1<|.mk λv16=>
 za v16 h<|.mk λv17=>
 qLenL v17<|.mk λv18=>
 qLss x4 v18<|.mk λv19=>
 qIf v19 (.mk (
 j6 .any x1 x2 x3 x4 h))<|.mk (
 j2 .any x1 x2 x3 x4 h)
def f135{β:Type}(N:Nat)(call:zh β)(a:List AV)(h:H)(k:K β):Option β :=
 qBox 0 (nth a 0) h<|.mk λv0 h=>
 zK 0 [.nils] h<|.mk λv1 h=>
 zl 5 (.mk (
 f135_J2 k))<|.mk λj2=>
 (zae 5 N<|.mk (
 f135_L5 call j2)) (nth a 0) v0 v1 .nils (.int .i64 0) h
theorem y135:zF I 135 T.s135 N call a h k=f135 N call a h k:=by kernel_rfl
def f140_J3{β:Type}(k:K β)(x0 x1 x2 x3 x4 x5 x6:AV)(h:H):Option β :=
 k (.bool true) h
def f140_J6{β:Type}(l4:Cur β 7)(x0 x1 x2 x3 x4 x5 x6:AV)(h:H):Option β :=
 qAdd x5 (.int .i64 1)<|.mk λv7=>
 l4 x0 x1 x2 x3 x4 v7 x6 h
def f140_J5{β:Type}(call:zh β)(k:K β)(l4:Cur β 7)(x0 x1 x2 x3 x4 x5 x6:AV)(h:H):Option β :=
 zl 7 (.mk (
 f140_J6 l4))<|.mk λj6=>
 zg 0 x2<|.mk λv8=>
 za v8 h<|.mk λv9=>
 zr 2 v9 x5<|.mk λv10=>
 zi 2 v10 h<|.mk λv11=>
 zg 0 x3<|.mk λv12=>
 za v12 h<|.mk λv13=>
 zr 2 v13 x5<|.mk λv14=>
 zi 2 v14 h<|.mk λv15=>
 qCall call (.fn 167 []) [v11,v15] h<|.mk λv16 h=>
 qNot v16<|.mk λv17=>
 qIf v17 (.mk (
 k (.bool false) h))<|.mk (
 j6 x0 x1 x2 x3 x4 x5 v17 h)
def f140_L4{β:Type}(call:zh β)(k:K β)(j3:Cur β 7)(l4:Cur β 7)(x0 x1 x2 x3 x4 x5 x6:AV)(h:H):Option β :=
 zl 7 (.mk (
 f140_J5 call k l4))<|.mk λj5=>
 zg 0 x2<|.mk λv18=>
 za v18 h<|.mk λv19=>
 qLenL v19<|.mk λv20=>
 qLss x5 v20<|.mk λv21=>
 qIf v21 (.mk (
 j5 .any .any x2 x3 .any x5 .any h))<|.mk (
 j3 .any .any x2 x3 .any x5 .any h)
def f140_J2{β:Type}(N:Nat)(call:zh β)(k:K β)(x0 x1 x2 x3 x4 x5 x6:AV)(h:H):Option β :=
 zl 7 (.mk (
 f140_J3 k))<|.mk λj3=>
 (zae 7 N<|.mk (
 f140_L4 call k j3)) x0 x1 x2 x3 x4 (.int .i64 0) x6 h
def f140{β:Type}(N:Nat)(call:zh β)(a:List AV)(h:H)(k:K β):Option β :=
 qBox 0 (nth a 0) h<|.mk λv0 h=>
 qBox 0 (nth a 1) h<|.mk λv1 h=>
 zl 7 (.mk (
 f140_J2 N call k))<|.mk λj2=>
 zg 0 v0<|.mk λv22=>
 za v22 h<|.mk λv23=>
 qLenL v23<|.mk λv24=>
 zg 0 v1<|.mk λv25=>
 za v25 h<|.mk λv26=>
 qLenL v26<|.mk λv27=>
 qNeq v24 v27<|.mk λv28=>
 qIf v28 (.mk (
 k (.bool false) h))<|.mk (
 j2 (nth a 0) (nth a 1) v0 v1 (.bool false) (nth a 5) (nth a 31) h)
theorem y140:zF I 140 T.s140 N call a h k=f140 N call a h k:=by kernel_rfl
def f156_J2{β:Type}(k:K β)(x0 x1 x2 x3 x4 x5 x6:AV)(h:H):Option β :=
 zg 1 x1<|.mk λv3=>
 zj 1 v3 x3 h<|.mk λh=>
 zi 2 x1 h<|.mk λv4=>
 zj 2 x2 v4 h<|.mk λh=>
 zi 2 x2 h<|.mk λv5=>
 k v5 h
def f156_J8{β:Type}(l6:Cur β 7)(x0 x1 x2 x3 x4 x5 x6:AV)(h:H):Option β :=
 qAdd x4 (.int .i64 1)<|.mk λv9=>
 l6 x0 x1 x2 x3 v9 x5 x6 h
def f156_J7{β:Type}(l6:Cur β 7)(x0 x1 x2 x3 x4 x5 x6:AV)(h:H):Option β :=
 zl 7 (.mk (
 f156_J8 l6))<|.mk λj8=>
 zg 1 x1<|.mk λv10=>
 za v10 h<|.mk λv11=>
 zr 4 v11 x4<|.mk λv12=>
 zi 4 v12 h<|.mk λv13=>
 zK 0 [(.int .i64 0),(.int .i64 0),(.int .i64 0),.nils] h<|.mk λv14 h=>
 zj 4 v14 v13 h<|.mk λh=>
 zs 0 [] 0 [] [] h<|.mk λv15 h=>
 zg 3 v14<|.mk λv16=>
 za v16 h<|.mk λv17=>
 qApp 0 1 8 v15 v17 h<|.mk λv18 h=>
 zg 3 v14<|.mk λv19=>
 zj 1 v19 v18 h<|.mk λh=>
 zi 4 v14 h<|.mk λv20=>
 zs 0 [(.int .i64 0),(.int .i64 0),(.int .i64 0),.nils] 1 [(0,4)] [v20] h<|.mk λv21 h=>
 qApp 0 4 48 x3 v21 h<|.mk λv22 h=>
 j8 x0 x1 x2 v22 x4 v14 v13 h
def f156_L6{β:Type}(j2:Cur β 7)(l6:Cur β 7)(x0 x1 x2 x3 x4 x5 x6:AV)(h:H):Option β :=
 zl 7 (.mk (
 f156_J7 l6))<|.mk λj7=>
 zg 1 x1<|.mk λv23=>
 za v23 h<|.mk λv24=>
 qLenL v24<|.mk λv25=>
 qLss x4 v25<|.mk λv26=>
 qIf v26 (.mk (
 j7 .any x1 x2 x3 x4 .any .any h))<|.mk (
 j2 .any x1 x2 x3 x4 .any .any h)
def f156{β:Type}(N:Nat)(call:zh β)(a:List AV)(h:H)(k:K β):Option β :=
 qBox 0 (nth a 0) h<|.mk λv0 h=>
 zK 0 [(.int .i64 0),.nils] h<|.mk λv1 h=>
 zl 7 (.mk (
 f156_J2 k))<|.mk λj2=>
 (zae 7 N<|.mk (
 f156_L6 j2)) (nth a 0) v0 v1 .nils (.int .i64 0) (nth a 5) (nth a 17) h
theorem y156:zF I 156 T.s156 N call a h k=f156 N call a h k:=by kernel_rfl
def f167{β:Type}(N:Nat)(call:zh β)(a:List AV)(h:H)(k:K β):Option β :=
 qBox 0 (nth a 0) h<|.mk λv0 h=>
 qBox 0 (nth a 1) h<|.mk λv1 h=>
 zg 0 v0<|.mk λv2=>
 za v2 h<|.mk λv3=>
 zg 0 v1<|.mk λv4=>
 za v4 h<|.mk λv5=>
 qEql v3 v5<|.mk λv6=>
 qAnd v6 h (.mk λh k=>
 zg 1 v0<|.mk λv7=>
 za v7 h<|.mk λv8=>
 zg 1 v1<|.mk λv9=>
 za v9 h<|.mk λv10=>
 qCall call (.fn 194 []) [v8,v10] h<|.mk λv11 h=>
 k v11 h)<|.mk λv12 h=>
 k v12 h
theorem y167:zF I 167 T.s167 N call a h k=f167 N call a h k:=by kernel_rfl
def f194_J1{β:Type}(k:K β)(x0 x1 x2 x3 x4:AV)(h:H):Option β :=
 k (.bool true) h
def f194_J4{β:Type}(l2:Cur β 5)(x0 x1 x2 x3 x4:AV)(h:H):Option β :=
 qAdd x3 (.int .i64 1)<|.mk λv5=>
 l2 x0 x1 x2 v5 x4 h
def f194_J3{β:Type}(call:zh β)(k:K β)(l2:Cur β 5)(x0 x1 x2 x3 x4:AV)(h:H):Option β :=
 zl 5 (.mk (
 f194_J4 l2))<|.mk λj4=>
 zr 4 x0 x3<|.mk λv6=>
 zg 0 v6<|.mk λv7=>
 za v7 h<|.mk λv8=>
 zr 4 x1 x3<|.mk λv9=>
 zg 0 v9<|.mk λv10=>
 za v10 h<|.mk λv11=>
 qNeq v8 v11<|.mk λv12=>
 qGrd v12 false h (.mk λh k=>
 k x0 h)<|.mk λv13 h=>
 qGrd v12 false h (.mk λh k=>
 k x3 h)<|.mk λv14 h=>
 qGrd v12 false h (.mk λh k=>
 zr 4 v13 v14<|.mk λv15=>
 k v15 h)<|.mk λv16 h=>
 qGrd v12 false h (.mk λh k=>
 zg 1 v16<|.mk λv17=>
 k v17 h)<|.mk λv18 h=>
 qGrd v12 false h (.mk λh k=>
 za v18 h<|.mk λv19=>
 k v19 h)<|.mk λv20 h=>
 qGrd v12 false h (.mk λh k=>
 k x1 h)<|.mk λv21 h=>
 qGrd v12 false h (.mk λh k=>
 k x3 h)<|.mk λv22 h=>
 qGrd v12 false h (.mk λh k=>
 zr 4 v21 v22<|.mk λv23=>
 k v23 h)<|.mk λv24 h=>
 qGrd v12 false h (.mk λh k=>
 zg 1 v24<|.mk λv25=>
 k v25 h)<|.mk λv26 h=>
 qGrd v12 false h (.mk λh k=>
 za v26 h<|.mk λv27=>
 k v27 h)<|.mk λv28 h=>
 qGrd v12 false h (.mk λh k=>
 qNeq v20 v28<|.mk λv29=>
 k v29 h)<|.mk λv30 h=>
 zcz v12 (.bool true) v30<|.mk λv31=>
 qGrd v31 false h (.mk λh k=>
 k x0 h)<|.mk λv32 h=>
 qGrd v31 false h (.mk λh k=>
 k x3 h)<|.mk λv33 h=>
 qGrd v31 false h (.mk λh k=>
 zr 4 v32 v33<|.mk λv34=>
 k v34 h)<|.mk λv35 h=>
 qGrd v31 false h (.mk λh k=>
 zg 2 v35<|.mk λv36=>
 k v36 h)<|.mk λv37 h=>
 qGrd v31 false h (.mk λh k=>
 za v37 h<|.mk λv38=>
 k v38 h)<|.mk λv39 h=>
 qGrd v31 false h (.mk λh k=>
 k x1 h)<|.mk λv40 h=>
 qGrd v31 false h (.mk λh k=>
 k x3 h)<|.mk λv41 h=>
 qGrd v31 false h (.mk λh k=>
 zr 4 v40 v41<|.mk λv42=>
 k v42 h)<|.mk λv43 h=>
 qGrd v31 false h (.mk λh k=>
 zg 2 v43<|.mk λv44=>
 k v44 h)<|.mk λv45 h=>
 qGrd v31 false h (.mk λh k=>
 za v45 h<|.mk λv46=>
 k v46 h)<|.mk λv47 h=>
 qGrd v31 false h (.mk λh k=>
 qNeq v39 v47<|.mk λv48=>
 k v48 h)<|.mk λv49 h=>
 zcz v31 (.bool true) v49<|.mk λv50=>
 qGrd v50 false h (.mk λh k=>
 k x0 h)<|.mk λv51 h=>
 qGrd v50 false h (.mk λh k=>
 k x3 h)<|.mk λv52 h=>
 qGrd v50 false h (.mk λh k=>
 zr 4 v51 v52<|.mk λv53=>
 k v53 h)<|.mk λv54 h=>
 qGrd v50 false h (.mk λh k=>
 zg 3 v54<|.mk λv55=>
 k v55 h)<|.mk λv56 h=>
 qGrd v50 false h (.mk λh k=>
 za v56 h<|.mk λv57=>
 k v57 h)<|.mk λv58 h=>
 qGrd v50 false h (.mk λh k=>
 k x1 h)<|.mk λv59 h=>
 qGrd v50 false h (.mk λh k=>
 k x3 h)<|.mk λv60 h=>
 qGrd v50 false h (.mk λh k=>
 zr 4 v59 v60<|.mk λv61=>
 k v61 h)<|.mk λv62 h=>
 qGrd v50 false h (.mk λh k=>
 zg 3 v62<|.mk λv63=>
 k v63 h)<|.mk λv64 h=>
 qGrd v50 false h (.mk λh k=>
 za v64 h<|.mk λv65=>
 k v65 h)<|.mk λv66 h=>
 qGrd v50 false h (.mk λh k=>
 qCall call (.fn 223 []) [v58,v66] h<|.mk λv67 h=>
 k v67 h)<|.mk λv68 h=>
 qGrd v50 false h (.mk λh k=>
 qNot v68<|.mk λv69=>
 k v69 h)<|.mk λv70 h=>
 zcz v50 (.bool true) v70<|.mk λv71=>
 qIf v71 (.mk (
 k (.bool false) h))<|.mk (
 j4 x0 x1 x2 x3 v71 h)
def f194_L2{β:Type}(call:zh β)(k:K β)(j1:Cur β 5)(l2:Cur β 5)(x0 x1 x2 x3 x4:AV)(h:H):Option β :=
 zl 5 (.mk (
 f194_J3 call k l2))<|.mk λj3=>
 qLenL x0<|.mk λv72=>
 qLss x3 v72<|.mk λv73=>
 qIf v73 (.mk (
 j3 x0 x1 .any x3 .any h))<|.mk (
 j1 x0 x1 .any x3 .any h)
def f194_J0{β:Type}(N:Nat)(call:zh β)(k:K β)(x0 x1 x2 x3 x4:AV)(h:H):Option β :=
 zl 5 (.mk (
 f194_J1 k))<|.mk λj1=>
 (zae 5 N<|.mk (
 f194_L2 call k j1)) x0 x1 x2 (.int .i64 0) x4 h
def f194{β:Type}(N:Nat)(call:zh β)(a:List AV)(h:H)(k:K β):Option β :=
 zl 5 (.mk (
 f194_J0 N call k))<|.mk λj0=>
 qLenL (nth a 0)<|.mk λv74=>
 qLenL (nth a 1)<|.mk λv75=>
 qNeq v74 v75<|.mk λv76=>
 qIf v76 (.mk (
 k (.bool false) h))<|.mk (
 j0 (nth a 0) (nth a 1) (.bool false) (nth a 5) (nth a 67) h)
theorem y194:zF I 194 T.s194 N call a h k=f194 N call a h k:=by kernel_rfl
def f223_J1{β:Type}(k:K β)(x0 x1 x2 x3 x4:AV)(h:H):Option β :=
 k (.bool true) h
def f223_J4{β:Type}(l2:Cur β 5)(x0 x1 x2 x3 x4:AV)(h:H):Option β :=
 qAdd x3 (.int .i64 1)<|.mk λv5=>
 l2 x0 x1 x2 v5 x4 h
def f223_J3{β:Type}(k:K β)(l2:Cur β 5)(x0 x1 x2 x3 x4:AV)(h:H):Option β :=
 zl 5 (.mk (
 f223_J4 l2))<|.mk λj4=>
 zr 1 x0 x3<|.mk λv6=>
 za v6 h<|.mk λv7=>
 zr 1 x1 x3<|.mk λv8=>
 za v8 h<|.mk λv9=>
 qNeq v7 v9<|.mk λv10=>
 qIf v10 (.mk (
 k (.bool false) h))<|.mk (
 j4 x0 x1 x2 x3 v10 h)
def f223_L2{β:Type}(k:K β)(j1:Cur β 5)(l2:Cur β 5)(x0 x1 x2 x3 x4:AV)(h:H):Option β :=
 zl 5 (.mk (
 f223_J3 k l2))<|.mk λj3=>
 qLenL x0<|.mk λv11=>
 qLss x3 v11<|.mk λv12=>
 qIf v12 (.mk (
 j3 x0 x1 .any x3 .any h))<|.mk (
 j1 x0 x1 .any x3 .any h)
def f223_J0{β:Type}(N:Nat)(k:K β)(x0 x1 x2 x3 x4:AV)(h:H):Option β :=
 zl 5 (.mk (
 f223_J1 k))<|.mk λj1=>
 (zae 5 N<|.mk (
 f223_L2 k j1)) x0 x1 x2 (.int .i64 0) x4 h
def f223{β:Type}(N:Nat)(call:zh β)(a:List AV)(h:H)(k:K β):Option β :=
 zl 5 (.mk (
 f223_J0 N k))<|.mk λj0=>
 qLenL (nth a 0)<|.mk λv13=>
 qLenL (nth a 1)<|.mk λv14=>
 qNeq v13 v14<|.mk λv15=>
 qIf v15 (.mk (
 k (.bool false) h))<|.mk (
 j0 (nth a 0) (nth a 1) (.bool false) (nth a 5) (nth a 25) h)
theorem y223:zF I 223 T.s223 N call a h k=f223 N call a h k:=by kernel_rfl
def e135:Ent:=⟨135,T.s135,λ_ _=>f135,λ_=>y135⟩
def e140:Ent:=⟨140,T.s140,λ_ _=>f140,λ_=>y140⟩
def e156:Ent:=⟨156,T.s156,λ_ _=>f156,λ_=>y156⟩
def e167:Ent:=⟨167,T.s167,λ_ _=>f167,λ_=>y167⟩
def e194:Ent:=⟨194,T.s194,λ_ _=>f194,λ_=>y194⟩
def e223:Ent:=⟨223,T.s223,λ_ _=>f223,λ_=>y223⟩
structure GP (t:ETree):Prop where
 g135:t.get 135=some e135
 g140:t.get 140=some e140
 g156:t.get 156=some e156
 g167:t.get 167=some e167
 g194:t.get 194=some e194
 g223:t.get 223=some e223
section
variable {β:Type} {t:ETree} {I:FI} (n:Nat) (a:List AV) (h:H) (k:K β)
theorem GP.c135(T:GP t):zc t I (n+1) (.fn 135 []) a h k=f135 n (zc t I n) a h k:=by rw[cRule T.g135];rfl
theorem GP.c140(T:GP t):zc t I (n+1) (.fn 140 []) a h k=f140 n (zc t I n) a h k:=by rw[cRule T.g140];rfl
theorem GP.c156(T:GP t):zc t I (n+1) (.fn 156 []) a h k=f156 n (zc t I n) a h k:=by rw[cRule T.g156];rfl
theorem GP.c167(T:GP t):zc t I (n+1) (.fn 167 []) a h k=f167 n (zc t I n) a h k:=by rw[cRule T.g167];rfl
theorem GP.c194(T:GP t):zc t I (n+1) (.fn 194 []) a h k=f194 n (zc t I n) a h k:=by rw[cRule T.g194];rfl
theorem GP.c223(T:GP t):zc t I (n+1) (.fn 223 []) a h k=f223 n (zc t I n) a h k:=by rw[cRule T.g223];rfl
theorem GP.q194(T:GP t):qCall (zc t I (n+1)) (.fn 194 []) a h (.mk k)=f194 n (zc t I n) a h k:=GP.c194 n a h k T
theorem GP.q223(T:GP t):qCall (zc t I (n+1)) (.fn 223 []) a h (.mk k)=f223 n (zc t I n) a h k:=GP.c223 n a h k T
end
end
end Am.F
