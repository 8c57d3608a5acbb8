/- Walks: Heads. -/
import Derived.Test.YtddiafpckjhadaaGreatDoorAmJj
import Derived.Test.YtddiafpckjhadaaGreatDoorAmJk
import Derived.Test.YtddiafpckjhadaaGreatDoorAmNmW
import Derived.Test.YtddiafpckjhadaaGreatDoorAmSm
import Derived.Test.YtddiafpckjhadaaGreatDoorAmGH9W
open Nat (reduceAdd reduceMul)
open Int (reduceToNat)
set_option linter.unusedSimpArgs false
set_option linter.unusedVariables false
namespace Am.F
open Go Am
section
variable {β:Type} {t:ETree}
theorem GH9.w237(TH:GH9 t)(TP:GP t)(TN:GNM t)(TR:GR9 t)(TC:GC t)(T:GA t)(L:GI t)(hA:t.get 153=some (eAw 153))(n M:Nat){h:H}{pv:AV}{p:List Df}(hpv:LAt 2 DfC h pv p)(hMs:M<=1048576)(hl1:p.length<=1048576)(hl2:∀d ∈ p,DfFit M d){av:AV}{args:List (List UInt8)}(ha:SlAt h av (strs args))(hal:∀x ∈ args,x.length<=9223372036854775807)(ha1:args.length<=1048576)(hn:args.length+p.length+2*M+3200<=n)(f fuel:Int) :
  Sp (β:=β) (zc t stdI n (.fn 237 []) [.agg [pv],.int .i64 f,av,.int .i64 fuel] h) λu h'=>u = .bool true:=by
 intro k R hk;obtain⟨m,rfl⟩:∃m,n=m+3:=⟨n-3,by omega⟩
 have hroom:room=68719476736:=rfl;have haw:=λ(hh:H) (kk:K β)=>awk_q (β:=β) (k:=153) rfl hA (m+1) hh kk
 have hb:∀(v:AV) (hh:H) (kk:K β),qBox 0 (.agg [v]) hh (.mk kk)=kk (.ptr hh.n 0) (hh.push (.own 0 [v])):=λv hh kk=>zn 0 _ hh kk
 obtain⟨h0,hh0⟩:∃h0,h0=h.push (.own 0 [pv]):=⟨_,rfl⟩
 have e0:Ext h h0:=by rw[hh0];exact (Ext.refl h).push _
 have hb0:h.push (.own 0 [pv])=h0:=hh0.symm;have n0:h.n<h0.n:=by rw[hh0,H.n_push];omega
 have g0:(h0.get h.n) = .own 0 [pv]:=by rw[hh0];exact zd rfl
 have cell:∀{h'},Ext h0 h'->(h'.get h.n).cells=some [pv]:=λe=>by rw[e.get _ n0,g0];rfl
 have hl2':∀d ∈ p,d.body.length<=9223372036854775807:=λd hd=>by have:=(hl2 d hd).1;omega
 have c0:=cell (Ext.refl h0);rw[TH.c237];unfold f237;simp (disch:=first|omega|simp only[zD]<;>omega|assumption) only[↓zR,↓zRM,zR,zRM,reduceAdd,reduceMul,reduceToNat,↓hb,hb0,c0];refine TP.w135 (m+2) M ⟨pv,rfl,hpv.ext DfC.stays e0⟩ (by omega) (λd hd=>⟨by have:=(hl2 d hd).1;omega,(hl2 d hd).1,λe he=>by have:=(hl2 d hd).2 e he;omega⟩) (by omega) _ _ ?_;intro u h1 ⟨e1,pv',e2,hpv'⟩;subst e2;refine T.w10 m (ha.ext (e0.trans e1)) (by omega) _ _ ?_;intro yv h2 ⟨e3,hyv⟩;have e4:Ext h2 ((h2.push (.own 0 [.nils])).set h2.n (.own 0 [pv'])):=by exact ((Ext.refl h2).push _).set (Nat.le_refl _) _
 have n3:h2.n<((h2.push (.own 0 [.nils])).set h2.n (.own 0 [pv'])).n:=by rw[H.n_set,H.n_push];omega
 have g3:((h2.push (.own 0 [.nils])).set h2.n (.own 0 [pv'])).get h2.n = .own 0 [pv']:=by exact zl rfl
 have cell':∀{h'},Ext ((h2.push (.own 0 [.nils])).set h2.n (.own 0 [pv'])) h'->(h'.get h2.n).cells=some [pv']:=λe=>by rw[e.get _ n3,g3];rfl
 have psc:=hpv'.sc;have e03:Ext h0 ((h2.push (.own 0 [.nils])).set h2.n (.own 0 [pv'])):=e1.trans (e3.trans e4);have ey:Ext h2 ((h2.push (.own 0 [.nils])).set h2.n (.own 0 [pv'])):=e4;simp (disch:=first|omega|simp only[zD]<;>omega|assumption) only[↓zR,↓zRM,zR,zRM,reduceAdd,reduceMul,reduceToNat];have hsy:SlAt h2 yv (strs args):=hyv.sl;refine TN.w155 TC T L (m+2) (hpv'.ext DfC.stays (e3.trans e4)) (by omega) hl2' (hsy.ext e4) (by omega) f fuel _ _ ?_;intro u h4 ⟨e5,e6⟩;subst e6;have c1:=cell (e03.trans e5);simp (disch:=first|omega|simp only[zD]<;>omega|assumption) only[↓zR,↓zRM,zR,zRM,reduceAdd,reduceMul,reduceToNat,c1];refine TR.w145 TC T (m+2) (hpv.ext DfC.stays (e0.trans (e03.trans e5))) (by omega) hl2' (ha.ext (e0.trans (e03.trans e5))) hal (by omega) f fuel _ _ ?_;intro u h5 ⟨e7,e8⟩;subst e8;have e57:=e5.trans e7;have c2:=cell (e03.trans e57);have c3:=cell' e57;simp (disch:=first|omega|simp only[zD]<;>omega|assumption) only[↓zR,↓zRM,zR,zRM,reduceAdd,reduceMul,reduceToNat,T.w16,eq_self,c2,c3];refine TP.w140 (m+2) ⟨pv',rfl,hpv'.ext DfC.stays (e3.trans (e4.trans e57))⟩ ⟨pv,rfl,hpv.ext DfC.stays (e0.trans (e03.trans e57))⟩ M hl2 (by omega) (by omega) (by omega) _ _ ?_;intro u h6 ⟨e9,e10⟩;subst e10;have e59:=e57.trans e9;have hk20:=λkk:K β=>T.w20 (β:=β) (m+2) (hyv.keep (e4.trans e59).n λi p q=>(e4.trans e59).get i q) (ha.ext (e0.trans (e03.trans e59))) (by omega) (by omega) rfl kk
 simp (disch:=first|omega|simp only[zD]<;>omega|assumption) only[↓zR,↓zRM,zR,zRM,reduceAdd,reduceMul,reduceToNat,hk20,haw];exact hk _ _ rfl
end
end Am.F
