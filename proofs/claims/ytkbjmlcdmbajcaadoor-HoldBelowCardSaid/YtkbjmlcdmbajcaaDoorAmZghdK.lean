/- The numbers of the functions;what is asked of the memory. -/
import Derived.Test.YtkbjmlcdmbajcaaDoorAmJd
namespace Am.L
open Go
def GG(P:Program):Base→Prop:=fun B=>GTab P B∧GVar P "strconv.ErrSyntax" zj1 B∧GVar P "strconv.ErrRange" zj1 B
theorem zfp{P:Program}:zcK (GG P):=ziK.and (zeT.and zeT)
def keys:List Nat:=[0,0,0,131,133,150,152,16,12,14,151,181,17,182,25,30,22,31,32,180,157,26,204,205,24,11,184,38,39,40,41,186,187,188,33,34,35,36,37,206,207,208,209,210,212,213,214,215,44,45,28,29,46,47,48,226,227,229,0,0,0,0,0,0,0,230,231,0,0,0,0,0,0,0,0,0,0,0,0,0,0,0,0,0,0,0,0,0,0,0,0,0,0,0,0,0,0,0,0,0,0,0,0,0,0,0,0,0,0,0,0,0,0,0,0,0,0,0,0,0,0,0,0]
def kf(f:Nat):Nat:=keys.getD f 0
def kt(_:Nat):Nat:=0
end Am.L
