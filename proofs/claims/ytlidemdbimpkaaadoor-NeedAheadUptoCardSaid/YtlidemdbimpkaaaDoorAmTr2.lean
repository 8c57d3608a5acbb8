/- Walks: the reference's TrailMay,Fits. -/
import Derived.Test.YtlidemdbimpkaaaDoorAmJi
set_option linter.unusedSimpArgs false
set_option linter.unusedVariables false
namespace Am.F
open Go Am
section
variable {β:Type} {t:ETree}
end
end Am.F
