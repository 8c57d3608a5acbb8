/- Walks: HoldHead. -/
import Derived.Test.YtkbjmlcdmbajcaaGreatDoorAmHoM
import Derived.Test.YtkbjmlcdmbajcaaGreatDoorAmBl
import Derived.Test.YtkbjmlcdmbajcaaGreatDoorAmJk
import Derived.Test.YtkbjmlcdmbajcaaGreatDoorAmFu
import Derived.Test.YtkbjmlcdmbajcaaGreatDoorAmGY10W
open Nat (reduceAdd reduceMul)
open Int (reduceToNat)
set_option linter.unusedSimpArgs false
set_option linter.unusedVariables false
namespace Am.F
open Go Am
section
variable {β:Type} {t:ETree}
theorem GY10.w235(TL:GY10 t)(TS:GS10 t)(TB:GBL t)(TN:GNM t)(TR:GR9 t)(TC:GC t)(T:GA t)(L:GI t)(hA:t.get 150=some (eAw 150))(n:Nat){h:H}{pv:AV}{p:List Df}(hp:LAt 2 DfC h pv p)(hl:p.length<=9223372036854775807)(hl2:∀d ∈ p,d.body.length<=9223372036854775807){f pa:Int}{av:AV}{res:List UInt8}(hrl:res.length<=9223372036854775807){args:List (List UInt8)}(ha:SlAt h av (strs args))(hal:∀x ∈ args,x.length<=9223372036854775807)(hn:args.length+4400<=n)(fuel:Int) :
  Sp (β:=β) (zc t stdI n (.fn 235 []) [.agg [pv],.agg [.int .i64 f,.int .i64 pa,av,.str res],.int .i64 fuel] h) λu h'=>u = .bool true:=by
 intro k R hk;obtain⟨m,rfl⟩:∃m,n=m+2:=⟨n-2,by omega⟩
 have haw:=λ(hh:H) (kk:K β)=>awk_q (β:=β) (k:=150) rfl hA m hh kk
 have hbx:∀(hh:H) (kk:K β),qBox 0 (.agg [pv]) hh (.mk kk)=kk (.ptr hh.n 0) (hh.push (.own 0 [pv])):=λhh kk=>zo 0 _ hh kk
 have hbn:∀(hh:H) (kk:K β),qBox 0 (.agg [.int .i64 f,.int .i64 pa,av,.str res]) hh (.mk kk)=kk (.ptr hh.n 0) (hh.push (.own 0 [.int .i64 f,.int .i64 pa,av,.str res])):=λhh kk=>zo 0 _ hh kk
 obtain⟨hA0,ehA⟩:∃hA0,hA0=(h.push (.own 0 [pv])).push (.own 0 [.int .i64 f,.int .i64 pa,av,.str res]):=⟨_,rfl⟩
 have tA:(h.push (.own 0 [pv])).push (.own 0 [.int .i64 f,.int .i64 pa,av,.str res])=hA0:=ehA.symm;have nA:hA0.n=h.n+2:=by rw[ehA];simp only[H.n_push]
 have eA:Ext h hA0:=by rw[ehA];exact ((Ext.refl h).push _).push _
 have g0:(hA0.get h.n).cells=some [pv]:=by rw[ehA,zb (by rw[H.n_push];omega),zd rfl];rfl
 have g1:(hA0.get (h.n+1)).cells=some [.int .i64 f,.int .i64 pa,av,.str res]:=by rw[ehA,zd (by rw[H.n_push])];rfl
 have cell0:∀{h'},Ext hA0 h'->(h'.get h.n).cells=some [pv]:=λe=>by rw[e.get _ (by omega)];exact g0
 have cell1:∀{h'},Ext hA0 h'->(h'.get (h.n+1)).cells=some [.int .i64 f,.int .i64 pa,av,.str res]:=λe=>by rw[e.get _ (by omega)];exact g1
 have fa:=zkv fuel;have cfa:∀kk:VK β,zaI .i64 (.int .u64 ((IntKind.u64.wrap fuel).tmod 401)) (.mk kk)=kk (.int .i64 (zeL fuel)):=λkk=>zgy (by show _<=zeL fuel;omega) (by show zeL fuel<_;omega) kk
 generalize hx:zeL fuel=x at fa cfa;have W1:=TS.w152 (β:=β) TN TC T L (m+1) (hp.ext DfC.stays eA) hl hl2 (f:=f) (pa:=pa) (res:=res) (ha.ext eA) (by omega) x;have hcode:(zaS p f args res x).1=true->(zaS p f args res x).2=0:=zjj;cases hi:(zaS p f args res x).1 with
 | false=>
  generalize (zaS p f args res x).2=e2 at W1;rw[hi] at W1;rw[TL.c235];unfold f235;simp (disch:=first|omega|simp only[zD]<;>omega|assumption) only[↓zR,↓zRM,zR,zRM,reduceAdd,reduceMul,reduceToNat,↓f235_J2,↓hbx,↓hbn,tA,haw,u64c,zjL,cfa,g0,g1];refine W1 _ _ ?_;intro u h1 ⟨e1,eu⟩;subst eu
  by_cases hz:e2=0
  ·simp (disch:=first|omega|simp only[zD]<;>omega|assumption) only[↓zR,↓zRM,zR,zRM,reduceAdd,reduceMul,reduceToNat,T.w16,eq_true hz];exact hk _ _ rfl
  ·simp (disch:=first|omega|simp only[zD]<;>omega|assumption) only[↓zR,↓zRM,zR,zRM,reduceAdd,reduceMul,reduceToNat,T.w16,eq_false hz];exact hk _ _ rfl
 | true=>
  have hz:=hcode hi;have h1eq:zaS p f args res x=(true,0):=Prod.ext hi hz;rw[h1eq] at W1
  by_cases hres:res=[95]
  ·rw[TL.c235];unfold f235;simp (disch:=first|omega|simp only[zD]<;>omega|assumption) only[↓zR,↓zRM,zR,zRM,reduceAdd,reduceMul,reduceToNat,↓f235_J2,↓hbx,↓hbn,tA,haw,u64c,zjL,cfa,g0,g1];refine W1 _ _ ?_;intro u h1 ⟨e1,eu⟩;subst eu;have c1:=cell1 e1;simp (disch:=first|omega|simp only[zD]<;>omega|assumption) only[↓zR,↓zRM,zR,zRM,reduceAdd,reduceMul,reduceToNat,T.w16,c1,eq_true hres];exact hk _ _ rfl
  ·obtain⟨q1,q2,q3,q4⟩:=zji h1eq hres;have hpos:=mayP_pos q3;have hlow:=q4 ((zc8 p f args x).1.length-1);rw[show (zc8 p f args x).1.length-1+2=(zc8 p f args x).1.length+1 by omega] at hlow;have hhl:(zc8 p f args x).1.length<=9223372036854775807:=by obtain⟨u,hu⟩:=(zZ _).1 q3;have:=(zaP hu).1;omega
   rw[TL.c235];unfold f235;simp (disch:=first|omega|simp only[zD]<;>omega|assumption) only[↓zR,↓zRM,zR,zRM,reduceAdd,reduceMul,reduceToNat,↓f235_J2,↓hbx,↓hbn,tA,haw,u64c,zjL,cfa,g0,g1];refine W1 _ _ ?_;intro u h1 ⟨e1,eu⟩;subst eu;have c0:=cell0 e1;have c1:=cell1 e1;simp (disch:=first|omega|simp only[zD]<;>omega|assumption) only[↓zR,↓zRM,zR,zRM,reduceAdd,reduceMul,reduceToNat,↓f235_J11,T.w16,c0,c1,eq_false hres];refine TR.w145 TC T (m+1) (hp.ext DfC.stays (eA.trans e1)) hl hl2 (ha.ext (eA.trans e1)) hal (by omega) f x _ _ ?_;intro u h2 ⟨e2,eu⟩;subst eu;have c2:=cell1 (e1.trans e2);have W3:=TB.w146 (β:=β) T (m+1) (zc8 p f args x).1 res hhl hrl (by omega) h2;rw[if_pos ⟨q3,q2⟩,hlow] at W3;simp (disch:=first|omega|simp only[zD]<;>omega|assumption) only[↓zR,↓zRM,zR,zRM,reduceAdd,reduceMul,reduceToNat,c2];refine W3 _ _ ?_;intro u h3 ⟨e3,eu⟩;subst eu;simp (disch:=first|omega|simp only[zD]<;>omega|assumption) only[↓zR,↓zRM,zR,zRM,reduceAdd,reduceMul,reduceToNat,q1];exact hk _ _ rfl
end
end Am.F
