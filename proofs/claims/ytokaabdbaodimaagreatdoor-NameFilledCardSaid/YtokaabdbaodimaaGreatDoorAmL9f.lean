/- Walks: NameFilled. -/
import Derived.Test.YtokaabdbaodimaaGreatDoorAmJj
import Derived.Test.YtokaabdbaodimaaGreatDoorAmJk
import Derived.Test.YtokaabdbaodimaaGreatDoorAmNmW
import Derived.Test.YtokaabdbaodimaaGreatDoorAmFu
import Derived.Test.YtokaabdbaodimaaGreatDoorAmGF9W
set_option linter.unusedSimpArgs false
set_option linter.unusedVariables false
namespace Am.F
open Go Am
section
variable {β:Type} {t:ETree}
theorem GF9.w242(TF:GF9 t)(TN:GNM t)(TR:GR9 t)(TC:GC t)(T:GA t)(L:GI t)(hA:t.get 153=some (eAw 153))(n:Nat){h:H}{pv:AV}{p:List Df}(hp:LAt 2 DfC h pv p)(hl:p.length≤9223372036854775807)(hl2:∀d ∈ p,d.body.length≤9223372036854775807){av:AV}{args:List (List UInt8)}(ha:SlAt h av (strs args))(hal:∀x ∈ args,x.length≤9223372036854775807)(hn:args.length+3100≤n)(f a:Int)(w:List UInt8)(hw:w.length≤9223372036854775807) :
  Sp (β:=β) (zc t stdI n (.fn 242 []) [.agg [pv],.int .i64 f,av,.int .i64 a,.str w] h) fun u h'=>u = .bool true:=by
 intro k R hk
 obtain⟨m,rfl⟩:∃m,n=m+2:=⟨n-2,by omega⟩
 have hroom:room=68719476736:=rfl
 have haw:=fun (hh:H) (kk:K β)=>awk_q (β:=β) (k:=153) rfl hA m hh kk
 have hbx:∀(hh:H) (kk:K β),qBox 0 (.agg [pv]) hh (.mk kk)=kk (.ptr hh.n 0) (hh.push (.own 0 [pv])):=fun hh kk=>zp 0 _ hh kk
 obtain⟨h0,hh0⟩:∃h0,h0=h.push (.own 0 [pv]):=⟨_,rfl⟩
 have e0:Ext h h0:=by rw[hh0];exact (Ext.refl h).push _
 have hb0:h.push (.own 0 [pv])=h0:=hh0.symm
 have n0:h.n<h0.n:=by rw[hh0,H.n_push];omega
 have g0:(h0.get h.n) = .own 0 [pv]:=by rw[hh0];exact ze rfl
 have cell:∀{h'},Ext h0 h'→(h'.get h.n).cells=some [pv]:=fun e=>by rw[e.get _ n0,g0];rfl
 have fa:=zeS a
 have cfa:∀kk:VK β,zao .i64 (.int .u64 ((IntKind.u64.wrap a).tmod 401)) (.mk kk)=kk (.int .i64 (zbR a)):=fun kk=>zdF (by show _≤zbR a;omega) (by show zbR a<_;omega) kk
 have WH:=fun (hh:H) (e:Ext h hh) (k:Int)=>TN.w155 (β:=β) TC T L (m+1) (hp.ext DfC.stays e) hl hl2 (ha.ext e) (by omega) f k
 have c0:=cell (Ext.refl h0)
 generalize hx:zbR a=x at fa cfa
 have hfill:mayP w=true→(zaz p f args x).2=0→zaz p f (args.map (zc7 w)) x=zaz p f args x:=fun h1 h2=>zjg h1 h2
 have hne:(zaz p f args x).2≠0→(zaz p f args x).1=[]:=ziu
 have h8:(zaz p f args x).2=0→args.length≤8:=fun h2=>by
  have:zZ p f args x:=Classical.byContradiction fun hh=>by unfold zaz at h2;rw[if_neg hh] at h2;cases h2
  obtain⟨_,_,_,_,_,h8,_⟩:=zb7 this
  exact h8
 have hfl:∀(args:List (List UInt8)),(∀y ∈ args,y.length≤9223372036854775807)→∀y ∈ args.map (zc7 w),y.length≤9223372036854775807:=fun args hh y hy=>by
  obtain⟨z,hz,rfl⟩:=List.mem_map.1 hy
  unfold zc7
  split
  ·exact hw
  ·exact hh z hz
 generalize hr1:zaz p f args x=r1 at hfill hne h8
 have W1:=WH h0 e0 x
 rw[hr1] at W1
 rw[TF.c242];unfold f242
 simp (disch:=first|omega|simp only[zD]<;>omega|assumption) only[↓zR,↓zRM,zR,zRM,Nat.reduceAdd,Nat.reduceMul,Int.reduceToNat,↓f242_J1,↓hbx,hb0,haw,u64c,rem401,cfa,c0]
 refine W1 _ _ ?_
 intro u h1 ⟨e1,eu⟩
 subst eu
 by_cases hz:r1.2=0
 case neg=>
  have hs:=hne hz
  simp (disch:=first|omega|simp only[zD]<;>omega|assumption) only[↓zR,↓zRM,zR,zRM,Nat.reduceAdd,Nat.reduceMul,Int.reduceToNat,T.w16,eq_false hz,hs]
  exact hk _ _ (by simp)
 have W18:=T.w18 (β:=β) (m+1) (by omega) w hw h1
 simp (disch:=first|omega|simp only[zD]<;>omega|assumption) only[↓zR,↓zRM,zR,zRM,Nat.reduceAdd,Nat.reduceMul,Int.reduceToNat,T.w16,eq_true hz]
 refine W18 _ _ ?_
 intro u h2 ⟨e2,eu⟩
 rw[zgM] at eu
 subst eu
 cases hm:mayP w with
 | false=>
  simp (disch:=first|omega|simp only[zD]<;>omega|assumption) only[↓zR,↓zRM,zR,zRM,Nat.reduceAdd,Nat.reduceMul,Int.reduceToNat,T.w16,eq_true hz,hm]
  exact hk _ _ rfl
 | true=>
  have hf:=hfill hm hz
  have h8':=h8 hz
  have la:∀kc:VK β,qLenL av (.mk kc)=kc (.int .i64 (args.length:Int)):=fun kc=>by rw[ha.len,zQ]
  have e12:=e1.trans e2
  simp (disch:=first|omega|simp only[zD]<;>omega|assumption) only[↓zR,↓zRM,zR,zRM,Nat.reduceAdd,Nat.reduceMul,Int.reduceToNat,↓f242_J9,hm]
  refine zM 25 (m+1) _ _ (fun i x0 x1 x2 x3 x4 x5 x6 x7 x8 x9 x10 x11 x12 x13 x14 x15 x16 x17 x18 x19 x20 x21 x22 x23 x24 h'=>Ext h2 h'∧x1 = .int .i64 f∧x2=av∧x4 = .str w∧x5 = .ptr h.n 0∧x7 = .int .i64 x∧x8 = .str r1.1∧∃(j lo hi:Nat),x11 = .int .i64 (j:Int)∧j+i=args.length∧h2.n≤lo∧lo≤hi∧hi≤h'.n∧zO h' lo hi 1 x10 (strs ((args.take j).map (zc7 w)))) args.length (by omega) ?_ _ _ _ _ _ _ _ _ _ _ _ _ _ _ _ _ _ _ _ _ _ _ _ _ _ _
   ⟨Ext.refl _,rfl,rfl,rfl,rfl,rfl,rfl,0,h2.n,h2.n,rfl,by omega,Nat.le_refl _,Nat.le_refl _,Nat.le_refl _,zO.nil _ _ _ _⟩
  intro l i ih x0 x1 x2 x3 x4 x5 x6 x7 x8 x9 x10 x11 x12 x13 x14 x15 x16 x17 x18 x19 x20 x21 x22 x23 x24 h' ⟨f1,p1,p2,p4,p5,p7,p8,j,lo,hi,p11,f2,f3,f4,f5,f7⟩
  subst p1 p2 p4 p5 p7 p8 p11
  have eh:=(e0.trans e12).trans f1
  have nn:=f1.n
  cases i with
  | zero=>
   have hj:j=args.length:=by omega
   have cj:¬ (j:Int)<(args.length:Int):=by omega
   rw[hj,List.take_length] at f7
   have hs10:=f7.sl f5
   have cc:=cell (e12.trans f1)
   simp (disch:=first|omega|simp only[zD]<;>omega|assumption) only[↓zR,↓zRM,zR,zRM,Nat.reduceAdd,Nat.reduceMul,Int.reduceToNat,↓f242_J10,↓f242_J27,↓f242_J31,↓f242_J26,↓f242_L25,↓f242_J9,↓f242_J1,la,eq_false cj,cc]
   have W5:=TN.w155 (β:=β) TC T L (m+1) (hp.ext DfC.stays eh) hl hl2 hs10 (by rw[List.length_map];omega) f x
   rw[hf] at W5
   refine W5 _ _ ?_
   intro u h5 ⟨e5,eu⟩
   subst eu
   have cc5:=cell ((e12.trans f1).trans e5)
   simp (disch:=first|omega|simp only[zD]<;>omega|assumption) only[↓zR,↓zRM,zR,zRM,Nat.reduceAdd,Nat.reduceMul,Int.reduceToNat,cc5]
   have W6:=TR.w145 (β:=β) TC T (m+1) (hp.ext DfC.stays (eh.trans e5)) hl hl2 (hs10.ext e5) (hfl args hal) (by rw[List.length_map];omega) f x
   rw[hf] at W6
   refine W6 _ _ ?_
   intro u h6 ⟨e6,eu⟩
   subst eu
   simp (disch:=first|omega|simp only[zD]<;>omega|assumption) only[↓zR,↓zRM,zR,zRM,Nat.reduceAdd,Nat.reduceMul,Int.reduceToNat,T.w16,eq_true hz,eq_self]
   exact hk _ _ (by simp)
  | succ i=>
   have hj:j<args.length:=by omega
   have cj:(j:Int)<(args.length:Int):=by omega
   have hkq:args[j]?=some (args.getD j []):=by rw[List.getD_eq_getElem?_getD,List.getElem?_eq_getElem hj];rfl
   have hld:=fun kc:VK β=>(ha.ext eh).loadS (i:=(j:Int)) (kd:=.i64) (by omega) (by omega) kc
   rw[Int.toNat_natCast] at hld
   generalize hky:args.getD j []=y at hkq hld
   have go:∀(z:List UInt8),z=zc7 w y→∀(K1:K β),(∀v h'',Ext h2 h''→h'.n≤h''.n→zO h'' lo h''.n 1 v (strs ((args.take (j+1)).map (zc7 w)))→K1 v h''=R)→(qApp 0 1 16 x10 (.sl h'.n 0 1 1 none) (h'.push (.own 0 [.str z]))<|.mk fun v33 h=>K1 v33 h)=R:=by
    intro z hz K1 hK1
    have hsrc:∀c:Nat→List AV→Option β,fSrc 1 (.sl h'.n 0 1 1 none) (h'.push (.own 0 [.str z])) c=c 1 [.str z]:=by
     intro c
     have:((h'.push (.own 0 [.str z])).get h'.n).cells=some [.str z]:=by rw[ze rfl];rfl
     show (cells _ h'.n fun cs=>cond (Nat.ble (Nat.add 0 (Nat.mul 1 1)) (lenF cs)) (c 1 (zaZ (Nat.mul 1 1) (zbn 0 cs))) none)=_
     rw[z7,this];rfl
    have hpu:∀i,i<h'.n→(h'.push (.own 0 [.str z])).get i=h'.get i:=fun i hi=>za (by omega)
    refine zgb (lo:=lo) (hi:=hi) (es:=1) (n:=1) (f7.mono (Nat.le_refl _) (Nat.le_refl _) fun i p1 p2=>hpu i (by omega)) (by rw[H.n_push];omega) (by rw[H.n_push];omega) hsrc rfl (by rw[zQ,List.length_map,List.length_take];omega) (by omega) (by omega) ?_
    intro v' h5 z1 z2 z3
    rw[H.n_push] at z2 z3
    refine hK1 v' h5 ⟨by omega,fun i hi=>by rw[z3 i (by omega) (.inl (by omega)),hpu i (by omega)];exact f1.get i hi⟩ (by omega) ?_
    rw[List.take_add_one,hkq]
    simp only[Option.toList,List.map_append,List.map_cons,List.map_nil]
    rw[zdz,← hz];exact z1
   have fin:∀(v:AV) (h'':H),Ext h2 h''→h'.n≤h''.n→zO h'' lo h''.n 1 v (strs ((args.take (j+1)).map (zc7 w)))→∀y0 y1 y2 y3 y4 y5 y6 y7 y8 y9 y10 y11 y12 y13 y14 y15,l y0 (.int .i64 f) x2 y1 (.str w) (.ptr h.n 0) y2 (.int .i64 x) (.str r1.1) y3 v (.int .i64 ((j+1:Nat):Int)) y4 y5 y6 y7 y8 y9 y10 y11 y12 y13 y14 y15 .any h''=R:=by
    intro v h'' q1 q3 q2 y0 y1 y2 y3 y4 y5 y6 y7 y8 y9 y10 y11 y12 y13 y14 y15
    exact ih i (by omega) _ _ _ _ _ _ _ _ _ _ _ _ _ _ _ _ _ _ _ _ _ _ _ _ _ _ ⟨q1,rfl,rfl,rfl,rfl,rfl,rfl,j+1,lo,h''.n,rfl,by omega,f3,by omega,Nat.le_refl _,q2⟩
   by_cases hh:y=[95]
   ·have hfy:w=zc7 w y:=by unfold zc7;rw[if_pos hh]
    simp (disch:=first|omega|simp only[zD]<;>omega|assumption) only[↓zR,↓zRM,zR,zRM,Nat.reduceAdd,Nat.reduceMul,Int.reduceToNat,↓f242_L25,↓f242_J26,↓f242_J31,la,eq_true cj,hld,eq_true hh]
    refine go w hfy _ fun v h'' q1 q3 q2=>?_
    simp (disch:=first|omega|simp only[zD]<;>omega|assumption) only[↓zR,↓zRM,zR,zRM,Nat.reduceAdd,Nat.reduceMul,Int.reduceToNat,↓f242_J27]
    exact fin v h'' q1 q3 q2 _ _ _ _ _ _ _ _ _ _ _ _ _ _ _ _
   ·have hfy:y=zc7 w y:=by unfold zc7;rw[if_neg hh]
    simp (disch:=first|omega|simp only[zD]<;>omega|assumption) only[↓zR,↓zRM,zR,zRM,Nat.reduceAdd,Nat.reduceMul,Int.reduceToNat,↓f242_L25,↓f242_J26,↓f242_J31,la,eq_true cj,hld,eq_false hh]
    refine go y hfy _ fun v h'' q1 q3 q2=>?_
    simp (disch:=first|omega|simp only[zD]<;>omega|assumption) only[↓zR,↓zRM,zR,zRM,Nat.reduceAdd,Nat.reduceMul,Int.reduceToNat,↓f242_J27]
    exact fin v h'' q1 q3 q2 _ _ _ _ _ _ _ _ _ _ _ _ _ _ _ _
end
end Am.F
