/- What the functions come to. -/
import Derived.Test.YtmogbhfcdcpdeaaDoorAmGF8T
import Derived.Test.YtmogbhfcdcpdeaaDoorAmJc
set_option maxRecDepth 100000
set_option linter.unusedVariables false
namespace Am.F
open Go Am
noncomputable section
variable {β:Type} (I:FI) (N:Nat) (call:zb β) (a:List AV) (h:H) (k:K β)
def f246{β:Type}(N:Nat)(call:zb β)(a:List AV)(h:H)(k:K β):Option β :=
 zdW 10 (λx0 x1 x2 x3 x4 x5 x6 x7 x8 x9 h=>
 call (.fn 253 []) [] h λv1 h=>
 zcW 0 [.nils] h λv2 h=>
 zaT 1 v2 v1 h λh=>
 zdW 10 (λx0 x1 x2 x3 x4 x5 x6 x7 x8 x9 h=>
 zb5 1 x2 h λv4=>
 call (.fn 254 []) [v4] h λv5 h=>
 pExt 0 v5 λv6=>
 pExt 1 v5 λv7=>
 zgb v6 (.str []) λv8=>
 fAnd v8 h (λh k=>
 call (.fn 16 []) [v7] h λv9 h=>
 pEql v9 (.int .i64 800) λv10=>
 k v10 h) λv11 h=>
 k v11 h) λj3=>
 pBin .and x0 (.int .i64 3) λv12=>
 pEql v12 (.int .i64 0) λv13=>
 fIf v13 (
 zca 0 v2 λv14=>
 za7 v14 h λv15=>
 pSlL 2 false true false v15 [(.int .i64 1)] λv16=>
 zca 0 v2 λv17=>
 zaT 1 v17 v16 h λh=>
 j3 x0 x1 v2 x3 x4 v1 v12 x7 x8 x9 h) (
 pEql v12 (.int .i64 1) λv18=>
 fIf v18 (
 zca 0 v2 λv19=>
 za7 v19 h λv20=>
 zeu 2 v20 (.int .i64 1) λv21=>
 zca 1 v21 λv22=>
 za7 v22 h λv23=>
 zeu 4 v23 (.int .i64 1) λv24=>
 zca 1 v24 λv25=>
 zaT 1 v25 (.int .i64 4) h λh=>
 j3 x0 x1 v2 x3 x4 v1 v12 x7 x8 x9 h) (
 pEql v12 (.int .i64 2) λv26=>
 fIf v26 (
 zca 0 v2 λv27=>
 zaT 1 v27 .nils h λh=>
 j3 x0 x1 v2 x3 x4 v1 v12 x7 x8 x9 h) (
 zca 0 v2 λv28=>
 za7 v28 h λv29=>
 zeu 2 v29 (.int .i64 0) λv30=>
 zca 0 v30 λv31=>
 zaT 1 v31 (.int .i64 1) h λh=>
 j3 x0 x1 v2 x3 x4 v1 v12 x7 x8 x9 h)))) λj0=>
 call (.fn 252 []) [] h λv32 h=>
 pNot v32 λv33=>
 fIf v33 (
 k (.bool false) h) (
 j0 (nth a 0) (.bool false) (nth a 3) (nth a 4) (nth a 5) (nth a 8) (nth a 10) (nth a 33) (nth a 36) (nth a 37) h)
theorem y246:zl I 246 T.s246 N call a h k=f246 N call a h k:=by kernel_rfl
def e246:Ent:=⟨246,T.s246,λ_ _=>f246,λ_=>y246⟩
section
variable {β:Type} {t:ETree} {I:FI} (n:Nat) (a:List AV) (h:H) (k:K β)
end
end
end Am.F
