/- What the functions come to. -/
import Derived.Test.YtanhngcjijbodaaDoorAmGW8T
import Derived.Test.YtanhngcjijbodaaDoorAmJc
set_option maxRecDepth 100000
set_option linter.unusedVariables false
namespace Am.F
open Go Am
noncomputable section
variable {β:Type} (I:FI) (N:Nat) (call:zc β) (a:List AV) (h:H) (k:K β)
def f247{β:Type}(N:Nat)(call:zc β)(a:List AV)(h:H)(k:K β):Option β :=
 zdp 11 (λx0 x1 x2 x3 x4 x5 x6 x7 x8 x9 x10 h=>
 call (.fn 253 []) [] h λv1 h=>
 zc5 0 [.nils] h λv2 h=>
 zbk 1 v2 v1 h λh=>
 zdp 11 (λx0 x1 x2 x3 x4 x5 x6 x7 x8 x9 x10 h=>
 zdp 11 (λx0 x1 x2 x3 x4 x5 x6 x7 x8 x9 x10 h=>
 zm 1 x2 h λv5=>
 call (.fn 254 []) [v5] h λv6 h=>
 pExt 0 v6 λv7=>
 pExt 1 v6 λv8=>
 zm 1 x2 h λv9=>
 call (.fn 149 []) [v9] h λv10 h=>
 fAnd v10 h (λh k=>
 call (.fn 16 []) [v8] h λv11 h=>
 pEql v11 (.int .i64 0) λv12=>
 k v12 h) λv13 h=>
 fAnd v13 h (λh k=>
 call (.fn 255 []) [] h λv14 h=>
 zgC v7 v14 λv15=>
 k v15 h) λv16 h=>
 k v16 h) λj4=>
 pBin .and x0 (.int .i64 2) λv17=>
 pEql v17 (.int .i64 2) λv18=>
 fIf v18 (
 zcf 0 x2 λv19=>
 zT v19 h λv20=>
 zbw 2 v20 (.int .i64 0) λv21=>
 zcf 1 v21 λv22=>
 zT v22 h λv23=>
 zcf 0 x2 λv24=>
 zT v24 h λv25=>
 zbw 4 v23 (.int .i64 3) λv26=>
 zm 4 v26 h λv27=>
 zbw 4 v23 (.int .i64 1) λv28=>
 zm 4 v28 h λv29=>
 zbw 4 v23 (.int .i64 0) λv30=>
 zm 4 v30 h λv31=>
 zar 0 [(.int .i64 0),(.int .i64 0)] 2 [(0,1),(1,1)] [(.int .i64 2),(.int .i64 1)] h λv32 h=>
 zm 4 v30 h λv33=>
 fChk v33 v31 (
 zm 4 v28 h λv34=>
 fChk v34 v29 (
 zm 4 v26 h λv35=>
 fChk v35 v27 (
 zT v24 h λv36=>
 fChk v36 v25 (
 zG [(.int .i64 0),(.int .i64 0),(.int .i64 0),.nils] [(0,1),(1,1),(3,1)] [(.int .i64 3),(.int .i64 7),v32] λv37=>
 zar 0 [(.int .i64 0),(.int .i64 0)] 2 [(0,1),(1,1)] [(.int .i64 3),(.int .i64 0)] h λv38 h=>
 zm 4 v30 h λv39=>
 fChk v39 v31 (
 zm 4 v28 h λv40=>
 fChk v40 v29 (
 zm 4 v26 h λv41=>
 fChk v41 v27 (
 zT v24 h λv42=>
 fChk v42 v25 (
 zG [(.int .i64 0),(.int .i64 0),(.int .i64 0),.nils] [(0,1),(1,1),(3,1)] [(.int .i64 2),(.int .i64 1),v38] λv43=>
 zar 0 [(.int .i64 0),(.int .i64 0),(.int .i64 0),.nils,(.int .i64 0),(.int .i64 0),(.int .i64 0),.nils,(.int .i64 0),(.int .i64 0),(.int .i64 0),.nils,(.int .i64 0),(.int .i64 0),(.int .i64 0),.nils,(.int .i64 0),(.int .i64 0),(.int .i64 0),.nils] 5 [(0,4),(4,4),(8,4),(12,4),(16,4)] [v27,v29,v31,v37,v43] h λv44 h=>
 zT v24 h λv45=>
 fChk v45 v25 (
 zbw 2 v25 (.int .i64 0) λv46=>
 zcf 1 v46 λv47=>
 zbk 1 v47 v44 h λh=>
 j4 x0 x1 x2 x3 v23 x5 x6 x7 x8 x9 x10 h)))))))))) (
 j4 x0 x1 x2 x3 x4 x5 x6 x7 x8 x9 x10 h)) λj3=>
 pBin .and x0 (.int .i64 1) λv48=>
 pEql v48 (.int .i64 1) λv49=>
 fIf v49 (
 zcf 0 v2 λv50=>
 zT v50 h λv51=>
 zbw 2 v51 (.int .i64 1) λv52=>
 zcf 1 v52 λv53=>
 zT v53 h λv54=>
 zcf 0 v2 λv55=>
 zT v55 h λv56=>
 zbw 4 v54 (.int .i64 0) λv57=>
 zm 4 v57 h λv58=>
 zbw 4 v54 (.int .i64 4) λv59=>
 zm 4 v59 h λv60=>
 zbw 4 v54 (.int .i64 5) λv61=>
 zm 4 v61 h λv62=>
 zbw 4 v54 (.int .i64 1) λv63=>
 zm 4 v63 h λv64=>
 zbw 4 v54 (.int .i64 2) λv65=>
 zm 4 v65 h λv66=>
 zar 0 [(.int .i64 0),(.int .i64 0)] 2 [(0,1),(1,1)] [(.int .i64 1),(.int .i64 2)] h λv67 h=>
 zm 4 v65 h λv68=>
 fChk v68 v66 (
 zm 4 v63 h λv69=>
 fChk v69 v64 (
 zm 4 v61 h λv70=>
 fChk v70 v62 (
 zm 4 v59 h λv71=>
 fChk v71 v60 (
 zm 4 v57 h λv72=>
 fChk v72 v58 (
 zT v55 h λv73=>
 fChk v73 v56 (
 zG [(.int .i64 0),(.int .i64 0),(.int .i64 0),.nils] [(0,1),(3,1)] [(.int .i64 4),v67] λv74=>
 zar 0 [(.int .i64 0),(.int .i64 0)] 2 [(0,1),(1,1)] [(.int .i64 4),(.int .i64 5)] h λv75 h=>
 zm 4 v65 h λv76=>
 fChk v76 v66 (
 zm 4 v63 h λv77=>
 fChk v77 v64 (
 zm 4 v61 h λv78=>
 fChk v78 v62 (
 zm 4 v59 h λv79=>
 fChk v79 v60 (
 zm 4 v57 h λv80=>
 fChk v80 v58 (
 zT v55 h λv81=>
 fChk v81 v56 (
 zG [(.int .i64 0),(.int .i64 0),(.int .i64 0),.nils] [(0,1),(3,1)] [(.int .i64 4),v75] λv82=>
 zar 0 [(.int .i64 0),(.int .i64 0),(.int .i64 0)] 3 [(0,1),(1,1),(2,1)] [(.int .i64 0),(.int .i64 6),(.int .i64 3)] h λv83 h=>
 zm 4 v65 h λv84=>
 fChk v84 v66 (
 zm 4 v63 h λv85=>
 fChk v85 v64 (
 zm 4 v61 h λv86=>
 fChk v86 v62 (
 zm 4 v59 h λv87=>
 fChk v87 v60 (
 zm 4 v57 h λv88=>
 fChk v88 v58 (
 zT v55 h λv89=>
 fChk v89 v56 (
 zG [(.int .i64 0),(.int .i64 0),(.int .i64 0),.nils] [(0,1),(1,1),(2,1),(3,1)] [(.int .i64 5),(.int .i64 7),(.int .i64 2),v83] λv90=>
 zar 0 [(.int .i64 0),(.int .i64 0),(.int .i64 0),.nils,(.int .i64 0),(.int .i64 0),(.int .i64 0),.nils,(.int .i64 0),(.int .i64 0),(.int .i64 0),.nils,(.int .i64 0),(.int .i64 0),(.int .i64 0),.nils,(.int .i64 0),(.int .i64 0),(.int .i64 0),.nils,(.int .i64 0),(.int .i64 0),(.int .i64 0),.nils,(.int .i64 0),(.int .i64 0),(.int .i64 0),.nils,(.int .i64 0),(.int .i64 0),(.int .i64 0),.nils] 8 [(0,4),(4,4),(8,4),(12,4),(16,4),(20,4),(24,4),(28,4)] [v58,v60,v62,v74,v64,v66,v82,v90] h λv91 h=>
 zT v55 h λv92=>
 fChk v92 v56 (
 zbw 2 v56 (.int .i64 1) λv93=>
 zcf 1 v93 λv94=>
 zbk 1 v94 v91 h λh=>
 j3 x0 x1 v2 v54 x4 x5 x6 v1 x8 x9 x10 h)))))))))))))))))))) (
 j3 x0 x1 v2 x3 x4 x5 x6 v1 x8 x9 x10 h)) λj0=>
 call (.fn 252 []) [] h λv95 h=>
 pNot v95 λv96=>
 fIf v96 (
 k (.bool false) h) (
 j0 (nth a 0) (.bool false) (nth a 3) (nth a 4) (nth a 5) (nth a 6) (nth a 7) (nth a 10) (nth a 71) (nth a 74) (nth a 75) h)
theorem y247:z8 I 247 T.s247 N call a h k=f247 N call a h k:=by kernel_rfl
def e247:Ent:=⟨247,T.s247,λ_ _=>f247,λ_=>y247⟩
section
variable {β:Type} {t:ETree} {I:FI} (n:Nat) (a:List AV) (h:H) (k:K β)
end
end
end Am.F
