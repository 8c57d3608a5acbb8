/- The numbers of the functions; what is asked of the memory. -/
import Derived.Test.YtmddflmckmopiaaDoorAmJd
namespace Am.L
open Go
def GG (P : Program) : Base → Prop := fun B => GTab P B ∧ GVar P "strconv.ErrSyntax" isIface B ∧ GVar P "strconv.ErrRange" isIface B
theorem gg_keeps {P : Program} : Keeps (GG P) := gtab_keeps.and (gvar_keeps.and gvar_keeps)
def keys : List Nat := [0, 0, 0, 248, 249, 0, 0, 0, 0, 256, 257, 258, 16, 22, 0, 0, 17, 0, 0, 0, 0, 269, 29, 42, 0, 24, 26, 0, 28, 0, 0, 0, 0, 0, 0, 0, 33, 34, 35, 36, 37, 0, 0, 0, 0, 0, 0, 0, 44, 45, 46, 47, 48, 0, 0, 0, 0, 0, 0, 0, 0, 0, 0, 0, 0, 0, 0, 0, 0, 0, 0, 0, 0, 0, 0, 0, 0, 0, 0, 0, 0, 0, 0, 0, 0, 0, 0, 0, 0, 0, 0, 0, 0, 0, 0, 0, 0, 0, 0, 0, 0, 0, 0, 0, 0, 0, 0, 0, 0, 0, 0, 0, 0, 0, 0, 0, 0, 0, 0, 0, 0, 0, 0, 0, 0, 0, 0, 0, 0, 0, 0, 0, 0, 0]
def kf (f : Nat) : Nat := keys.getD f 0
def kt (_ : Nat) : Nat := 0
end Am.L
