/- The numbers of the functions; what is asked of the memory. -/
import Derived.Test.YtnhappodbogoaaaDoorAmJd
namespace Am.L
open Go
def GG (P : Program) : Base → Prop := fun B => GTab P B ∧ GVar P "strconv.ErrSyntax" isIface B ∧ GVar P "strconv.ErrRange" isIface B
theorem gg_keeps {P : Program} : Keeps (GG P) := gtab_keeps.and (gvar_keeps.and gvar_keeps)
def keys : List Nat := [0, 0, 0, 134, 153, 154, 155, 16, 183, 181, 184, 185, 157, 26, 204, 205, 206, 207, 208, 209, 210, 29, 27, 211, 186, 187, 188, 17, 226, 227, 11, 0, 42, 228, 212, 213, 214, 215, 24, 28, 230, 231, 0, 0, 0, 0, 232, 233, 229, 33, 34, 35, 36, 37, 0, 0, 0, 0, 0, 0, 44, 45, 46, 47, 48, 0, 0, 0, 0, 0, 0, 0, 0, 0, 0, 0, 0, 0, 0, 0, 0, 0, 0, 0, 0, 0, 0, 0, 0, 0, 0, 0, 0, 0, 0, 0, 0, 0, 0, 0, 0, 0, 0, 0, 0, 0, 0, 0, 0, 0, 0, 0, 0, 0, 0, 0, 0, 0, 0, 0, 0, 0, 0, 0, 0]
def kf (f : Nat) : Nat := keys.getD f 0
def kt (_ : Nat) : Nat := 0
end Am.L
