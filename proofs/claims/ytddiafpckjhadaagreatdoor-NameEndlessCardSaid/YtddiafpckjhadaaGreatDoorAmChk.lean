/- Checks of a memory that is given: programs in it. -/
import Derived.Test.YtddiafpckjhadaaGreatDoorAmJh
namespace Am.F
open Go Am
def isI:AV->Int->Bool
 | .int .i64 n,k=>decide (n=k)
 | _,_=>false
theorem zfs{a:AV}{k:Int}(h:isI a k=true):a = .int .i64 k:=by
 unfold isI at h;split at h
 ·rw[of_decide_eq_true h]
 ·cases h
def allI:List AV->List Int->Bool
 | [],[]=>true
 | a::as,k::ks=>isI a k&&allI as ks
 | _,_=>false
theorem zjB:∀{us:List AV} {ks:List Int},allI us ks=true->us=ints ks
 | [],[],_=>rfl
 | [],_::_,h=>by cases h
 | _::_,[],h=>by cases h
 | a::as,k::ks,h=>by
  simp only[allI,Bool.and_eq_true] at h;rw[zfs h.1,zjB h.2];rfl
def rowsB{α:Type}(es:Nat)(C:List AV->α->Bool):List AV->List α->Bool
 | _,[]=>true
 | us,x::xs=>Nat.ble es us.length&&C (us.take es) x&&rowsB es C (us.drop es) xs
theorem zgR{α:Type}{es:Nat}{C:List AV->α->Bool}:∀{xs:List α} {us:List AV},rowsB es C us xs=true->xs.length*es<=us.length/\∀(j:Nat) (x:α),xs[j]?=some x->C ((us.drop (j*es)).take es) x=true
 | [],us,_=>⟨by simp,λj x h=>by simp at h⟩
 | x::xs,us,h=>by
  simp only[rowsB,Bool.and_eq_true] at h;obtain⟨⟨h1,h2⟩,h3⟩:=h;have h1:=Nat.ble_eq.mp h1;obtain⟨h4,h5⟩:=zgR h3;rw[List.length_drop] at h4;refine⟨by rw[List.length_cons,Nat.add_mul];omega,λj y hy=>?_⟩;cases j with
  | zero=>cases hy;rw[Nat.zero_mul,List.drop_zero];exact h2
  | succ j=>
   have:=h5 j y (by simpa using hy)
   rw[List.drop_drop] at this;rw[show (j+1)*es=es+j*es by rw[Nat.add_mul];omega];exact this
noncomputable def latB{α:Type}(es:Nat)(C:List AV->α->Bool)(h:H)(v:AV)(xs:List α):Bool:=match v with
 | .nils=>xs.isEmpty
 | .sl b o len _ _=>Nat.beq len xs.length&&Nat.ble (b+1) h.n&&match (h.get b).cells with
  | some us=>Nat.ble o us.length&&rowsB es C (us.drop o) xs
  | none=>false
 | _=>false
theorem zi1{α:Type}{es:Nat}{C:List AV->α->Bool}{D:H->List AV->α->Prop}{h:H}(hC:∀cs x,C cs x=true->D h cs x){v:AV}{xs:List α}(hb:latB es C h v xs=true):LAt es D h v xs:=by
 unfold latB at hb;split at hb
 ·exact .inl ⟨rfl,List.isEmpty_iff.1 hb⟩
 ·rename_i b o len m g;simp only[Bool.and_eq_true] at hb;obtain⟨⟨h1,h2⟩,h3⟩:=hb;obtain rfl:=Nat.eq_of_beq_eq_true h1;have h2:=Nat.ble_eq.mp h2;split at h3
  ·rename_i us hu;simp only[Bool.and_eq_true] at h3;have h5:=Nat.ble_eq.mp h3.1;obtain⟨h6,h7⟩:=zgR h3.2;rw[List.length_drop] at h6;exact .inr ⟨b,o,m,g,us,rfl,by omega,hu,by omega,λj x hx=>by have:=h7 j x hx;rw[List.drop_drop] at this;exact hC _ _ this⟩
  ·cases h3
 ·cases hb
noncomputable def slI(h:H)(v:AV)(ks:List Int):Bool:=match v with
 | .nils=>ks.isEmpty
 | .sl b o len _ _=>Nat.beq len ks.length&&Nat.ble (b+1) h.n&&match (h.get b).cells with
  | some us=>Nat.ble (o+len) us.length&&allI ((us.drop o).take len) ks
  | none=>false
 | _=>false
theorem slI_ok{h:H}{v:AV}{ks:List Int}(hb:slI h v ks=true):SlAt h v (ints ks):=by
 unfold slI at hb;split at hb
 ·exact .inl ⟨rfl,by rw[List.isEmpty_iff.1 hb];rfl⟩
 ·rename_i b o len m g;simp only[Bool.and_eq_true] at hb;obtain⟨⟨h1,h2⟩,h3⟩:=hb;obtain rfl:=Nat.eq_of_beq_eq_true h1;have h2:=Nat.ble_eq.mp h2;split at h3
  ·rename_i us hu;simp only[Bool.and_eq_true] at h3;have h5:=Nat.ble_eq.mp h3.1;exact .inr ⟨b,o,m,g,us,by rw[zaP],by omega,hu,by rw[zaP];exact zjB h3.2,by rw[zaP];exact h5⟩
  ·cases h3
 ·cases hb
noncomputable def exB(h:H)(cs:List AV)(e:Ex):Bool:=match cs with
 | [a,b,c,w]=>isI a e.kind&&isI b e.num&&isI c e.bind&&slI h w e.kids
 | _=>false
theorem exB_ok{h:H}{cs:List AV}{e:Ex}(hb:exB h cs e=true):ExC h cs e:=by
 unfold exB at hb;split at hb
 ·simp only[Bool.and_eq_true] at hb;obtain⟨⟨⟨h1,h2⟩,h3⟩,h4⟩:=hb;exact⟨_,by rw[zfs h1,zfs h2,zfs h3];rfl,slI_ok h4⟩
 ·cases hb
noncomputable def dfB(h:H)(cs:List AV)(d:Df):Bool:=match cs with
 | [a,w]=>isI a d.params&&latB 4 (exB h) h w d.body
 | _=>false
theorem dfB_ok{h:H}{cs:List AV}{d:Df}(hb:dfB h cs d=true):DfC h cs d:=by
 unfold dfB at hb;split at hb
 ·simp only[Bool.and_eq_true] at hb;exact⟨_,by rw[zfs hb.1],zi1 (λcs x=>exB_ok) hb.2⟩
 ·cases hb
noncomputable def pgB(h:H)(v:AV)(p:List Df):Bool:=match v with
 | .agg [w]=>latB 2 (dfB h) h w p
 | _=>false
theorem zc9{h:H}{v:AV}{p:List Df}(hb:pgB h v p=true):∃pv,v = .agg [pv]/\LAt 2 DfC h pv p:=by
 unfold pgB at hb;split at hb
 ·exact⟨_,rfl,zi1 (λcs x=>dfB_ok) hb⟩
 ·cases hb
end Am.F
