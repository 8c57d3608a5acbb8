/- The numbers of the functions; what is asked of the memory. -/
import Derived.Test.YtpalaplnolcimaaGreatDoorAmJd
namespace Am.L
open Go
def GG (P : Program) : Base → Prop := fun B => GTab P B ∧ GVar P "strconv.ErrSyntax" isIface B ∧ GVar P "strconv.ErrRange" isIface B
theorem gg_keeps {P : Program} : Keeps (GG P) := gtab_keeps.and (gvar_keeps.and gvar_keeps)
def keys : List Nat := [0, 0, 0, 298, 135, 244, 261, 299, 262, 300, 140, 138, 259, 156, 270, 301, 271, 157, 272, 149, 167, 166, 260, 263, 18, 16, 269, 296, 297, 186, 187, 188, 276, 30, 179, 194, 15, 273, 12, 26, 17, 212, 213, 214, 215, 202, 203, 223, 25, 24, 28, 229, 41, 38, 39, 40, 33, 34, 35, 36, 37, 44, 45, 29, 46, 47, 48, 0, 0, 0, 0, 0, 0, 0, 0, 0, 0, 0, 0, 0, 0, 0, 0, 0, 0, 0, 0, 0, 0, 0, 0, 0, 0, 0, 0, 0, 0, 0, 0, 0, 0, 0, 0, 0, 0, 0, 0, 0, 0, 0, 0, 0, 0, 0, 0, 0, 0, 0, 0, 0, 0, 0, 0, 0, 0, 0, 0, 0, 0, 0]
def kf (f : Nat) : Nat := keys.getD f 0
def kt (_ : Nat) : Nat := 0
end Am.L
