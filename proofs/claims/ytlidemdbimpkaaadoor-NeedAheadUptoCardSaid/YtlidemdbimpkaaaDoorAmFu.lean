/- Fuel out of any number. -/
import Derived.Test.YtlidemdbimpkaaaDoorAmJd
set_option linter.unusedSimpArgs false
set_option linter.unusedVariables false
namespace Am.F
open Go Am
section
variable {β:Type}
end
end Am.F
