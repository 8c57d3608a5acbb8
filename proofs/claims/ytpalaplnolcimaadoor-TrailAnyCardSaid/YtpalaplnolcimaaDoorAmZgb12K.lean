/- The numbers of the functions; what is asked of the memory. -/
import Derived.Test.YtpalaplnolcimaaDoorAmJd
namespace Am.L
open Go
def GG (P : Program) : Base → Prop := fun B => GTab P B ∧ GVar P "strconv.ErrSyntax" isIface B ∧ GVar P "strconv.ErrRange" isIface B
theorem gg_keeps {P : Program} : Keeps (GG P) := gtab_keeps.and (gvar_keeps.and gvar_keeps)
def keys : List Nat := [0, 0, 0, 0, 0, 0, 0, 0, 0, 250, 293, 294, 0, 0, 12, 0, 0, 0, 16, 17, 18, 0, 0, 0, 0, 0, 0, 0, 0, 0, 259, 260, 261, 262, 263, 41, 149, 0, 24, 25, 26, 0, 28, 29, 30, 0, 0, 269, 0, 0, 0, 270, 271, 157, 272, 273, 179, 33, 34, 35, 36, 37, 38, 39, 40, 0, 0, 0, 0, 0, 186, 187, 188, 276, 202, 203, 44, 45, 46, 47, 48, 0, 0, 0, 212, 213, 214, 215, 0, 0, 0, 0, 0, 0, 0, 0, 0, 0, 0, 0, 229, 0, 0, 0, 0, 0, 0, 0, 0, 0, 0, 0, 0, 0, 0, 0, 0, 0, 0, 0, 0, 0, 0, 0, 0, 0, 0, 0, 0, 0, 0, 0, 0, 0, 0, 0, 0, 0, 0, 0, 0, 0, 0, 0, 0, 0, 0, 0, 0, 0, 0, 0, 0]
def kf (f : Nat) : Nat := keys.getD f 0
def kt (_ : Nat) : Nat := 0
end Am.L
