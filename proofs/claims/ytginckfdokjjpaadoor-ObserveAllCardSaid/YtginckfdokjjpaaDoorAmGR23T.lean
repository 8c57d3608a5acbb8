/- Functions of the program,as the abstract machine has them. -/
import Derived.Test.YtginckfdokjjpaaDoorAmJc
namespace Am.T
open Go
end Am.T
