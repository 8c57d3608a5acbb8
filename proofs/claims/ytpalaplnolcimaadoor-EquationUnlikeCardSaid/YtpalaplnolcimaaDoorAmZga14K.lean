/- The numbers of the functions; what is asked of the memory. -/
import Derived.Test.YtpalaplnolcimaaDoorAmJd
namespace Am.L
open Go
def GG (P : Program) : Base → Prop := fun B => GTab P B ∧ GVar P "strconv.ErrSyntax" isIface B ∧ GVar P "strconv.ErrRange" isIface B
theorem gg_keeps {P : Program} : Keeps (GG P) := gtab_keeps.and (gvar_keeps.and gvar_keeps)
def keys : List Nat := [0, 0, 0, 0, 0, 0, 0, 291, 292, 0, 0, 0, 0, 0, 12, 0, 0, 15, 16, 17, 18, 0, 0, 0, 22, 244, 258, 295, 166, 256, 0, 0, 0, 0, 0, 41, 0, 0, 24, 25, 26, 0, 28, 29, 30, 0, 0, 269, 42, 296, 257, 0, 0, 0, 0, 0, 0, 33, 34, 35, 36, 37, 38, 39, 40, 0, 0, 0, 0, 297, 0, 0, 0, 0, 0, 0, 44, 45, 46, 47, 48, 0, 0, 0, 0, 0, 0, 0, 0, 0, 0, 0, 0, 0, 0, 0, 0, 0, 0, 0, 0, 0, 0, 0, 0, 0, 0, 0, 0, 0, 0, 0, 0, 0, 0, 0, 0, 0, 0, 0, 0, 0, 0, 0, 0, 0, 0, 0, 0, 0, 0, 0, 0, 0, 0, 0, 0, 0, 0, 0, 0, 0, 0, 0, 0, 0, 0, 0, 0, 0, 0, 0, 0]
def kf (f : Nat) : Nat := keys.getD f 0
def kt (_ : Nat) : Nat := 0
end Am.L
