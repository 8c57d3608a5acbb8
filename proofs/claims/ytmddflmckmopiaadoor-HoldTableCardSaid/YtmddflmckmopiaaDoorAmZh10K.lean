/- The numbers of the functions; what is asked of the memory. -/
import Derived.Test.YtmddflmckmopiaaDoorAmJd
namespace Am.L
open Go
def GG (P : Program) : Base → Prop := fun B => GTab P B ∧ GVar P "strconv.ErrSyntax" isIface B ∧ GVar P "strconv.ErrRange" isIface B
theorem gg_keeps {P : Program} : Keeps (GG P) := gtab_keeps.and (gvar_keeps.and gvar_keeps)
def keys : List Nat := [0, 0, 0, 0, 0, 0, 0, 130, 132, 0, 0, 0, 16, 0, 0, 11, 17, 0, 150, 151, 152, 0, 29, 0, 0, 24, 26, 0, 28, 180, 181, 182, 0, 0, 0, 0, 33, 34, 35, 36, 37, 157, 204, 205, 184, 0, 0, 0, 44, 45, 46, 47, 48, 186, 187, 188, 206, 207, 208, 209, 210, 0, 0, 0, 0, 0, 0, 0, 0, 0, 0, 0, 0, 212, 213, 214, 215, 226, 227, 0, 0, 0, 0, 0, 0, 0, 0, 0, 0, 0, 0, 0, 0, 229, 230, 231, 0, 0, 0, 0, 0, 0, 0, 0, 0, 0, 0, 0, 0, 0, 0, 0, 0, 0, 0, 0, 0, 0, 0, 0, 0, 0, 0, 0, 0, 0, 0, 0, 0, 0, 0, 0, 0, 0]
def kf (f : Nat) : Nat := keys.getD f 0
def kt (_ : Nat) : Nat := 0
end Am.L
