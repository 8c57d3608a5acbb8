/- The numbers of the functions; what is asked of the memory. -/
import Derived.Test.YtnhappodbogoaaaGreatDoorAmJd
namespace Am.L
open Go
def GG (P : Program) : Base → Prop := fun B => GTab P B ∧ GVar P "strconv.ErrSyntax" isIface B ∧ GVar P "strconv.ErrRange" isIface B
theorem gg_keeps {P : Program} : Keeps (GG P) := gtab_keeps.and (gvar_keeps.and gvar_keeps)
def keys : List Nat := [0, 0, 0, 0, 0, 0, 0, 241, 0, 0, 0, 0, 155, 0, 16, 0, 0, 153, 245, 154, 22, 0, 12, 0, 0, 0, 181, 184, 185, 0, 0, 0, 0, 0, 148, 183, 25, 30, 0, 0, 157, 26, 204, 205, 206, 207, 208, 209, 210, 29, 27, 211, 149, 0, 0, 0, 0, 0, 175, 176, 177, 178, 38, 39, 40, 41, 186, 187, 188, 17, 226, 227, 11, 0, 42, 228, 179, 0, 0, 199, 200, 201, 212, 213, 214, 215, 24, 28, 230, 231, 0, 0, 0, 0, 232, 233, 202, 203, 0, 224, 225, 229, 33, 34, 35, 36, 37, 0, 0, 0, 0, 0, 0, 44, 45, 46, 47, 48, 0, 0, 0, 0, 0, 0, 0, 0, 0, 0, 0, 0, 0, 0, 0, 0, 0, 0, 0, 0, 0, 0, 0, 0, 0, 0, 0, 0, 0, 0, 0, 0, 0, 0, 0, 0, 0, 0, 0, 0, 0, 0, 0, 0, 0, 0, 0, 0, 0, 0, 0, 0, 0, 0, 0, 0, 0, 0, 0, 0]
def kf (f : Nat) : Nat := keys.getD f 0
def kt (_ : Nat) : Nat := 0
end Am.L
