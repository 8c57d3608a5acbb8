/- What the functions come to. -/
import Derived.Test.YtddiafpckjhadaaGreatDoorAmGX10T
import Derived.Test.YtddiafpckjhadaaGreatDoorAmJc
set_option maxRecDepth 100000
set_option linter.unusedVariables false
namespace Am.F
open Go Am
noncomputable section
variable {β:Type} (I:FI) (N:Nat) (call:zh β) (a:List AV) (h:H) (k:K β)
def f234{β:Type}(N:Nat)(call:zh β)(a:List AV)(h:H)(k:K β):Option β :=
 qBox 0 (nth a 0) h<|.mk λv0 h=>
 qBox 0 (nth a 1) h<|.mk λv1 h=>
 zi 1 v0 h<|.mk λv2=>
 zi 4 v1 h<|.mk λv3=>
 qCall call (.fn 135 []) [v2] h<|.mk λv4 h=>
 zi 4 v1 h<|.mk λv5=>
 qChk v5 v3<|.mk (
 zs 0 [(.int .i64 0),(.int .i64 0),.nils,(.str [])] 1 [(0,4)] [v3] h<|.mk λv6 h=>
 zi 1 v0 h<|.mk λv7=>
 qChk v7 v2<|.mk (
 qCall call (.fn 244 []) [v6] h<|.mk λv8 h=>
 zK 0 [.nils] h<|.mk λv9 h=>
 zi 4 v1 h<|.mk λv10=>
 qChk v10 v3<|.mk (
 zi 1 v0 h<|.mk λv11=>
 qChk v11 v2<|.mk (
 zj 1 v9 v4 h<|.mk λh=>
 zi 1 v9 h<|.mk λv12=>
 zr 4 v8 (.int .i64 0)<|.mk λv13=>
 zi 4 v13 h<|.mk λv14=>
 qCall call (.fn 152 []) [v12,v14,(nth a 2)] h<|.mk λv15 h=>
 qExt 0 v15<|.mk λv16=>
 qExt 1 v15<|.mk λv17=>
 zi 1 v0 h<|.mk λv18=>
 zi 4 v1 h<|.mk λv19=>
 qCall call (.fn 142 []) [v18,v19,(nth a 2)] h<|.mk λv20 h=>
 qExt 0 v20<|.mk λv21=>
 qExt 1 v20<|.mk λv22=>
 qEqB false v16 v21<|.mk λv23=>
 qGrd v23 true h (.mk λh k=>
 k v17 h)<|.mk λv24 h=>
 qGrd v23 true h (.mk λh k=>
 k v22 h)<|.mk λv25 h=>
 qGrd v23 true h (.mk λh k=>
 qCall call (.fn 16 []) [v24] h<|.mk λv26 h=>
 k v26 h)<|.mk λv27 h=>
 qGrd v23 true h (.mk λh k=>
 qEql v27 v25<|.mk λv28=>
 k v28 h)<|.mk λv29 h=>
 zcz v23 v29 (.bool false)<|.mk λv30=>
 qGrd v30 true h (.mk λh k=>
 zi 1 v9 h<|.mk λv31=>
 k v31 h)<|.mk λv32 h=>
 qGrd v30 true h (.mk λh k=>
 zi 1 v0 h<|.mk λv33=>
 k v33 h)<|.mk λv34 h=>
 qGrd v30 true h (.mk λh k=>
 qCall call (.fn 140 []) [v32,v34] h<|.mk λv35 h=>
 k v35 h)<|.mk λv36 h=>
 zcz v30 v36 (.bool false)<|.mk λv37=>
 qGrd v37 true h (.mk λh k=>
 k v8 h)<|.mk λv38 h=>
 qGrd v37 true h (.mk λh k=>
 zr 4 v38 (.int .i64 0)<|.mk λv39=>
 k v39 h)<|.mk λv40 h=>
 qGrd v37 true h (.mk λh k=>
 zi 4 v40 h<|.mk λv41=>
 k v41 h)<|.mk λv42 h=>
 qGrd v37 true h (.mk λh k=>
 zi 4 v1 h<|.mk λv43=>
 k v43 h)<|.mk λv44 h=>
 qGrd v37 true h (.mk λh k=>
 qCall call (.fn 166 []) [v42,v44] h<|.mk λv45 h=>
 k v45 h)<|.mk λv46 h=>
 zcz v37 v46 (.bool false)<|.mk λv47=>
 qGrd v47 true h (.mk λh k=>
 qCall call (.fn 150 []) [] h<|.mk λv48 h=>
 k v48 h)<|.mk λv49 h=>
 zcz v47 v49 (.bool false)<|.mk λv50=>
 k v50 h))))
theorem y234:zF I 234 T.s234 N call a h k=f234 N call a h k:=by kernel_rfl
def e234:Ent:=⟨234,T.s234,λ_ _=>f234,λ_=>y234⟩
structure GX10 (t:ETree):Prop where
 g234:t.get 234=some e234
section
variable {β:Type} {t:ETree} {I:FI} (n:Nat) (a:List AV) (h:H) (k:K β)
theorem GX10.c234(T:GX10 t):zc t I (n+1) (.fn 234 []) a h k=f234 n (zc t I n) a h k:=by rw[cRule T.g234];rfl
end
end
end Am.F
