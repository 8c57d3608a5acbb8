/- What the functions come to. -/
import Derived.Test.YtginckfdokjjpaaDoorAmGL23fT
import Derived.Test.YtginckfdokjjpaaDoorAmJc
set_option maxRecDepth 100000
set_option linter.unusedVariables false
namespace Am.F
open Go Am
noncomputable section
variable {β:Type} (I:FI) (N:Nat) (call:zc β) (a:List AV) (h:H) (k:K β)
def f251{β:Type}(N:Nat)(call:zc β)(a:List AV)(h:H)(k:K β):Option β :=
 ze0 11 (λx0 x1 x2 x3 x4 x5 x6 x7 x8 x9 x10 h=>
 pBin .and x1 (.int .i64 1023) λv1=>
 pAdd (.int .i64 1) v1 λv2=>
 call (.fn 265 []) [] h λv3 h=>
 pBin .and x1 (.int .i64 3) λv4=>
 zgb 4 v3 v4 λv5=>
 zgR 3 v5 λv6=>
 zbR 1 v6 (.str [63]) h λh=>
 call (.fn 266 []) [v3,(.int .i64 1)] h λv7 h=>
 pExt 0 v7 λv8=>
 pExt 1 v7 λv9=>
 pNeg v2 λv10=>
 pAdd (.int .i64 7) v2 λv11=>
 pBin .and x0 (.int .i64 1) λv12=>
 call (.fn 265 []) [] h λv13 h=>
 zb0 0 [(.int .i64 0),(.int .i64 0)] 2 [(0,1),(1,1)] [v10,v11] h λv14 h=>
 zgb 1 v14 v12 λv15=>
 zbS v15 h λv16=>
 call (.fn 266 []) [v13,v16] h λv17 h=>
 pExt 0 v17 λv18=>
 pExt 1 v17 λv19=>
 zgN v8 λv20=>
 pEql v20 (.int .i64 0) λv21=>
 fAnd v21 h (λh k=>
 call (.fn 16 []) [v9] h λv22 h=>
 pEql v22 (.int .i64 2300) λv23=>
 k v23 h) λv24 h=>
 fAnd v24 h (λh k=>
 call (.fn 16 []) [v19] h λv25 h=>
 pEql v25 (.int .i64 2300) λv26=>
 k v26 h) λv27 h=>
 k v27 h) λj0=>
 call (.fn 264 []) [] h λv28 h=>
 pNot v28 λv29=>
 fIf v29 (
 k (.bool false) h) (
 j0 (nth a 0) (nth a 1) (.bool false) (nth a 5) (nth a 6) (nth a 7) (nth a 8) (nth a 10) (nth a 22) (nth a 25) (nth a 26) h)
theorem y251:zad I 251 T.s251 N call a h k=f251 N call a h k:=by kernel_rfl
def e251:Ent:=⟨251,T.s251,λ_ _=>f251,λ_=>y251⟩
section
variable {β:Type} {t:ETree} {I:FI} (n:Nat) (a:List AV) (h:H) (k:K β)
end
end
end Am.F
