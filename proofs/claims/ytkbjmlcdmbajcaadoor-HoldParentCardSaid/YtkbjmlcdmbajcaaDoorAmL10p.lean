/- Walks: HoldParent. -/
import Derived.Test.YtkbjmlcdmbajcaaDoorAmHoM
import Derived.Test.YtkbjmlcdmbajcaaDoorAmGP10W
set_option linter.unusedSimpArgs false
set_option linter.unusedVariables false
namespace Am.F
open Go Am
section
variable {β:Type} {t:ETree}
theorem GP10.w133(TL:GP10 t)(TS:GS10 t)(TN:GNM t)(TC:GC t)(T:GA t)(L:GI t)(hA:t.get 150=some (eAw 150))(n:Nat){h:H}{pv:AV}{p:List Df}(hp:LAt 2 DfC h pv p)(hl:p.length≤9223372036854775807)(hl2:∀d ∈ p,d.body.length≤9223372036854775807){f pa:Int}{av:AV}{res:List UInt8}{args:List (List UInt8)}(ha:SlAt h av (strs args))(hn:args.length+4400≤n)(fuel pa2:Int) :
  Sp (β:=β) (zb t stdI n (.fn 133 []) [.agg [pv],.agg [.int .i64 f,.int .i64 pa,av,.str res],.int .i64 fuel,.int .i64 pa2] h) fun u h'=>u = .bool true:=by
 intro k R hk
 obtain⟨m,rfl⟩:∃m,n=m+2:=⟨n-2,by omega⟩
 have haw:=fun (hh:H) (kk:K β)=>awk_q (β:=β) (k:=150) rfl hA m hh kk
 have hbx:∀(hh:H) (kk:K β),qBox 0 (.agg [pv]) hh (.mk kk)=kk (.ptr hh.n 0) (hh.push (.own 0 [pv])):=fun hh kk=>zH 0 _ hh kk
 have hbn:∀(hh:H) (kk:K β),qBox 0 (.agg [.int .i64 f,.int .i64 pa,av,.str res]) hh (.mk kk)=kk (.ptr hh.n 0) (hh.push (.own 0 [.int .i64 f,.int .i64 pa,av,.str res])):=fun hh kk=>zH 0 _ hh kk
 have asc:=ha.sc
 obtain⟨hF,ehF⟩:∃hF,hF=((((h.push (.own 0 [pv])).push (.own 0 [.int .i64 f,.int .i64 pa,av,.str res])).push (.own 0 [.int .i64 0,.int .i64 0,.nils,.str []])).set (h.n+1+1) (.own 0 [.int .i64 f,.int .i64 pa,av,.str res])).set (h.n+1+1) (.own 0 [.int .i64 f,.int .i64 pa2,av,.str res]):=⟨_,rfl⟩
 have tF:((((h.push (.own 0 [pv])).push (.own 0 [.int .i64 f,.int .i64 pa,av,.str res])).push (.own 0 [.int .i64 0,.int .i64 0,.nils,.str []])).set (h.n+1+1) (.own 0 [.int .i64 f,.int .i64 pa,av,.str res])).set (h.n+1+1) (.own 0 [.int .i64 f,.int .i64 pa2,av,.str res])=hF:=ehF.symm
 have nF:hF.n=h.n+3:=by rw[ehF];simp only[H.n_set,H.n_push]
 have eF:Ext h hF:=by rw[ehF];exact (((((Ext.refl h).push _).push _).push _).set (by omega) _).set (by omega) _
 have g0:(hF.get h.n).cells=some [pv]:=by rw[ehF,zh (by omega),zh (by omega),zd (by simp only[H.n_push];omega),zd (by simp only[H.n_push];omega),zf rfl];rfl
 have g1:(hF.get (h.n+1)).cells=some [.int .i64 f,.int .i64 pa,av,.str res]:=by rw[ehF,zh (by omega),zh (by omega),zd (by simp only[H.n_push];omega),zf (by simp only[H.n_push])];rfl
 have g2:(hF.get (h.n+2)).cells=some [.int .i64 f,.int .i64 pa2,av,.str res]:=by rw[ehF,zm rfl];rfl
 have W:=fun (hh:H) (e:Ext h hh) (x:Int)=>TS.w152 (β:=β) TN TC T L (m+1) (hp.ext DfC.stays e) hl hl2 (f:=f) (pa:=x) (res:=res) (ha.ext e) (by omega) fuel
 have pz:∀a b c d:AV,zZ [.int .i64 0,.int .i64 0,.nils,.str []] 0 [a,b,c,d]=[a,b,c,d]:=fun a b c d=>rfl
 have eqb:∀(x:Bool) (kk:VK β),qEqB false (.bool x) (.bool x) (.mk kk)=kk (.bool true):=fun x kk=>by
  show kk (.bool ((x==x) != false))=_
  cases x<;>rfl
 rw[TL.c133];unfold f133
 simp (disch:=first|omega|simp only[disM]<;>omega|assumption) only[↓run,↓runM,run,runM,Nat.reduceAdd,Nat.reduceMul,Int.reduceToNat,↓f133_J2,↓hbx,↓hbn,haw,pz,tF,g0,g1]
 refine W hF eF pa _ _ ?_
 intro u h1 ⟨e1,eu⟩
 subst eu
 have n1:=e1.n
 have c0:(h1.get h.n).cells=some [pv]:=by rw[e1.get _ (by omega)];exact g0
 have c2:(h1.get (h.n+2)).cells=some [.int .i64 f,.int .i64 pa2,av,.str res]:=by rw[e1.get _ (by omega)];exact g2
 simp (disch:=first|omega|simp only[disM]<;>omega|assumption) only[↓run,↓runM,run,runM,Nat.reduceAdd,Nat.reduceMul,Int.reduceToNat,c0,c2]
 refine W h1 (eF.trans e1) pa2 _ _ ?_
 intro u h2 ⟨e2,eu⟩
 subst eu
 simp (disch:=first|omega|simp only[disM]<;>omega|assumption) only[↓run,↓runM,run,runM,Nat.reduceAdd,Nat.reduceMul,Int.reduceToNat,eqb,T.w16,eq_self]
 exact hk _ _ (by simp)
end
end Am.F
