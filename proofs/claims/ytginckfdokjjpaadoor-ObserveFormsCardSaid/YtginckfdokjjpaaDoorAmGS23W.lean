/- What the functions come to. -/
import Derived.Test.YtginckfdokjjpaaDoorAmGS23T
import Derived.Test.YtginckfdokjjpaaDoorAmJc
set_option maxRecDepth 100000
set_option linter.unusedVariables false
namespace Am.F
open Go Am
noncomputable section
variable {β:Type} (I:FI) (N:Nat) (call:zc β) (a:List AV) (h:H) (k:K β)
def f265{β:Type}(N:Nat)(call:zc β)(a:List AV)(h:H)(k:K β):Option β :=
 zav [(.int .i64 0),(.int .i64 0),.nils,(.str [])] [(1,1),(3,1)] [(.int .i64 (-1)),(.str [57])]<|.mk λv0=>
 zaN 0 [(.str []),(.str [])] 2 [(0,1),(1,1)] [(.str [64,55,40,95,32,52,41]),(.str [53])] h<|.mk λv1 h=>
 zav [(.int .i64 0),(.int .i64 0),.nils,(.str [])] [(0,1),(1,1),(2,1),(3,1)] [(.int .i64 1),(.int .i64 0),v1,(.str [57])]<|.mk λv2=>
 zav [(.int .i64 0),(.int .i64 0),.nils,(.str [])] [(0,1),(1,1),(3,1)] [(.int .i64 2),(.int .i64 0),(.str [33])]<|.mk λv3=>
 zaN 0 [(.str []),(.str [])] 2 [(0,1),(1,1)] [(.str [49]),(.str [95])] h<|.mk λv4 h=>
 zav [(.int .i64 0),(.int .i64 0),.nils,(.str [])] [(0,1),(1,1),(2,1),(3,1)] [(.int .i64 1),(.int .i64 1),v4,(.str [95])]<|.mk λv5=>
 zaN 0 [(.str []),(.str [])] 2 [(0,1),(1,1)] [(.str [49]),(.str [95])] h<|.mk λv6 h=>
 zav [(.int .i64 0),(.int .i64 0),.nils,(.str [])] [(0,1),(1,1),(2,1),(3,1)] [(.int .i64 1),(.int .i64 2),v6,(.str [95])]<|.mk λv7=>
 zaN 0 [(.int .i64 0),(.int .i64 0),.nils,(.str []),(.int .i64 0),(.int .i64 0),.nils,(.str []),(.int .i64 0),(.int .i64 0),.nils,(.str []),(.int .i64 0),(.int .i64 0),.nils,(.str []),(.int .i64 0),(.int .i64 0),.nils,(.str [])] 5 [(0,4),(4,4),(8,4),(12,4),(16,4)] [v0,v2,v3,v5,v7] h<|.mk λv8 h=>
 k v8 h
theorem y265:zad I 265 T.s265 N call a h k=f265 N call a h k:=by kernel_rfl
def e265:Ent:=⟨265,T.s265,λ_ _=>f265,λ_=>y265⟩
section
variable {β:Type} {t:ETree} {I:FI} (n:Nat) (a:List AV) (h:H) (k:K β)
end
end
end Am.F
