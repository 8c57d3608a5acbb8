/- Walks: what reads the same is told to be the same. -/
import Derived.Test.YtginckfdokjjpaaDoorAmCp
set_option linter.unusedSimpArgs false
set_option linter.unusedVariables false
namespace Am.F
open Go Am
section
variable {β:Type} {t:ETree}
end
end Am.F
