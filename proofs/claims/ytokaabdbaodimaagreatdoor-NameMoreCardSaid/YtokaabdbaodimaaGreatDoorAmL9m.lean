/- Walks: NameMore. -/
import Derived.Test.YtokaabdbaodimaaGreatDoorAmJj
import Derived.Test.YtokaabdbaodimaaGreatDoorAmJk
import Derived.Test.YtokaabdbaodimaaGreatDoorAmNmW
import Derived.Test.YtokaabdbaodimaaGreatDoorAmGM9W
import Derived.Test.YtokaabdbaodimaaGreatDoorAmFu
set_option linter.unusedSimpArgs false
set_option linter.unusedVariables false
namespace Am.F
open Go Am
section
variable {β:Type} {t:ETree}
theorem GM9.w240(TM:GM9 t)(TN:GNM t)(TR:GR9 t)(TC:GC t)(T:GA t)(L:GI t)(hA:t.get 153=some (eAw 153))(n:Nat){h:H}{pv:AV}{p:List Df}(hp:LAt 2 DfC h pv p)(hl:p.length≤9223372036854775807)(hl2:∀d ∈ p,d.body.length≤9223372036854775807){av:AV}{args:List (List UInt8)}(ha:SlAt h av (strs args))(hal:∀x ∈ args,x.length≤9223372036854775807)(hn:args.length+3100≤n)(f a b:Int) :
  Sp (β:=β) (zc t stdI n (.fn 240 []) [.agg [pv],.int .i64 f,av,.int .i64 a,.int .i64 b] h) fun u h'=>u = .bool true:=by
 intro k R hk
 obtain⟨m,rfl⟩:∃m,n=m+2:=⟨n-2,by omega⟩
 have haw:=fun (hh:H) (kk:K β)=>awk_q (β:=β) (k:=153) rfl hA m hh kk
 have hbx:∀(hh:H) (kk:K β),qBox 0 (.agg [pv]) hh (.mk kk)=kk (.ptr hh.n 0) (hh.push (.own 0 [pv])):=fun hh kk=>zp 0 _ hh kk
 obtain⟨h0,hh0⟩:∃h0,h0=h.push (.own 0 [pv]):=⟨_,rfl⟩
 have e0:Ext h h0:=by rw[hh0];exact (Ext.refl h).push _
 have hb0:h.push (.own 0 [pv])=h0:=hh0.symm
 have n0:h.n<h0.n:=by rw[hh0,H.n_push];omega
 have g0:(h0.get h.n) = .own 0 [pv]:=by rw[hh0];exact ze rfl
 have cell:∀{h'},Ext h0 h'→(h'.get h.n).cells=some [pv]:=fun e=>by rw[e.get _ n0,g0];rfl
 have fa:=zeS a;have fb:=zeS b
 have cf:∀(x:Int) (kk:VK β),0≤zbR x∧zbR x≤400→zao .i64 (.int .u64 ((IntKind.u64.wrap x).tmod 401)) (.mk kk)=kk (.int .i64 (zbR x)):=fun x kk hx=>zdF (by show _≤zbR x;omega) (by show zbR x<_;omega) kk
 have cfa:=fun kk:VK β=>cf a kk fa
 have cfb:=fun kk:VK β=>cf b kk fb
 have WH:=fun (hh:H) (e:Ext h hh) (k:Int)=>TN.w155 (β:=β) TC T L (m+1) (hp.ext DfC.stays e) hl hl2 (ha.ext e) (by omega) f k
 have WR:=fun (hh:H) (e:Ext h hh) (k:Int)=>TR.w145 (β:=β) TC T (m+1) (hp.ext DfC.stays e) hl hl2 (ha.ext e) hal (by omega) f k
 have c0:=cell (Ext.refl h0)
 generalize hx:zbR a=x at fa cfa
 generalize hy:zbR b=y at fb cfb
 have more:=zfE (p:=p) (f:=f) (args:=args) (a:=min x y) (b:=max x y) (by omega) (by omega) (by omega)
 have more4:=zfE (p:=p) (f:=f) (args:=args) (a:=min x y) (b:=400) (by omega) (by omega) (by omega)
 generalize hr1:zaz p f args (min x y)=r1 at more more4
 generalize hr2:zaz p f args (max x y)=r2 at more
 generalize hr3:zaz p f args 400=r3 at more4
 have hne:r1.2≠0→r1.1=[]:=fun hh=>by rw[← hr1] at hh ⊢;exact ziu hh
 have W1:=WH h0 e0 (min x y)
 rw[hr1] at W1
 rw[TM.c240];unfold f240
 simp (disch:=first|omega|simp only[zD]<;>omega|assumption) only[↓zR,↓zRM,zR,zRM,Nat.reduceAdd,Nat.reduceMul,Int.reduceToNat,↓f240_J1,↓hbx,hb0,haw,u64c,rem401,cfa,cfb,c0]
 refine W1 _ _ ?_
 intro u h1 ⟨e1,eu⟩
 subst eu
 have c1:=cell e1
 simp (disch:=first|omega|simp only[zD]<;>omega|assumption) only[↓zR,↓zRM,zR,zRM,Nat.reduceAdd,Nat.reduceMul,Int.reduceToNat,c1]
 have W2:=WH h1 (e0.trans e1) (max x y)
 rw[hr2] at W2
 refine W2 _ _ ?_
 intro u h2 ⟨e2,eu⟩
 subst eu
 have c2:=cell (e1.trans e2)
 by_cases h901:r1.2=901
 ·have hs:=hne (by rw[h901];decide)
  simp (disch:=first|omega|simp only[zD]<;>omega|assumption) only[↓zR,↓zRM,zR,zRM,Nat.reduceAdd,Nat.reduceMul,Int.reduceToNat,T.w16,eq_true h901,hs]
  exact hk _ _ (by simp)
 ·have hr12:=more h901
  have hr13:=more4 h901
  subst hr12
  subst hr13
  simp (disch:=first|omega|simp only[zD]<;>omega|assumption) only[↓zR,↓zRM,zR,zRM,Nat.reduceAdd,Nat.reduceMul,Int.reduceToNat,↓f240_J18,T.w16,eq_false h901,c2]
  have W3:=WR h2 ((e0.trans e1).trans e2) 400
  rw[hr3] at W3
  refine W3 _ _ ?_
  intro u h3 ⟨e3,eu⟩
  subst eu
  simp (disch:=first|omega|simp only[zD]<;>omega|assumption) only[↓zR,↓zRM,zR,zRM,Nat.reduceAdd,Nat.reduceMul,Int.reduceToNat,T.w16,eq_self]
  exact hk _ _ (by simp)
end
end Am.F
