/- A run by need with more fuel;plain. -/
import Derived.Test.YtlidemdbimpkaaaDoorAmJn
set_option linter.unusedVariables false
namespace Am.F
open Go Am
end Am.F
