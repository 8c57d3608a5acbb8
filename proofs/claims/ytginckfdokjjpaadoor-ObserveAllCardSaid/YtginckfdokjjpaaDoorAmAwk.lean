/- A closed call that answers true,made an operation. -/
import Derived.Test.YtginckfdokjjpaaDoorAmJd
namespace Am
open Go Go.RowKit
theorem awk_intr{P:Program}{kf kt:Nat->Nat}{G:Base->Prop}(hGm:zca G){t:F.ETree}{I:F.FI}(hL:Link P kf kt G λk=>(t.T k).map SFn.fl)(hok:∀k f,t.T k=some f->f.ok=true)(hI:F.IOk t.T I)
  {f:FuncId} (n:Nat) (hrun:F.za t I n (.fn (kf f) []) [] F.H.emp (λv _=>some v)=some (.bool true)):zbn P kf kt G f F.awkG:=by
 refine zgK hGm hL hok hI ?_;intro args S v S' h;cases args with
 | cons a r=>cases h
 | nil=>
  cases h;refine⟨rfl,rfl,λfm us hv=>?_,λext fm u hu=>?_,n,hrun⟩
  ·simp only[VRs] at hv ⊢;exact hv
  ·simp only[VR] at hu ⊢;exact hu
end Am
