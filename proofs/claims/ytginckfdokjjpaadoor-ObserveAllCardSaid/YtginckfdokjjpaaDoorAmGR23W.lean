/- What the functions come to. -/
import Derived.Test.YtginckfdokjjpaaDoorAmGR23T
import Derived.Test.YtginckfdokjjpaaDoorAmJc
set_option maxRecDepth 100000
set_option linter.unusedVariables false
namespace Am.F
open Go Am
section
variable {β:Type} {t:ETree} {I:FI} (n:Nat) (a:List AV) (h:H) (k:K β)
end
end Am.F
