/- The numbers of the functions;what is asked of the memory. -/
import Derived.Test.YtokaabdbaodimaaGreatDoorAmJd
namespace Am.L
open Go
def GG(P:Program):Base→Prop:=fun B=>GTab P B∧GVar P "strconv.ErrSyntax" zd2 B∧GVar P "strconv.ErrRange" zd2 B
theorem gg_keeps{P:Program}:zcS (GG P):=zd4.and (zbx.and zbx)
def keys:List Nat:=[0,0,0,0,0,0,0,243,0,0,155,0,16,0,0,153,0,0,12,14,0,0,181,184,185,0,0,0,0,0,154,0,25,30,22,31,32,157,26,204,205,206,207,208,209,210,29,27,211,0,0,0,0,0,0,183,0,0,0,0,38,39,40,41,186,187,188,17,226,227,11,0,42,228,0,0,0,0,0,0,212,213,214,215,24,28,230,231,0,0,0,0,232,233,0,0,0,0,0,229,33,34,35,36,37,0,0,0,0,0,0,44,45,46,47,48,0,0,0,0,0,0,0,0,0,0,0,0,0,0,0,0,0,0,0,0,0,0,0,0,0,0,0,0,0,0,0,0,0,0,0,0,0,0,0,0,0,0,0,0,0,0,0,0,0,0,0,0,0,0,0,0,0,0,0,0]
def kf(f:Nat):Nat:=keys.getD f 0
def kt(_:Nat):Nat:=0
end Am.L
