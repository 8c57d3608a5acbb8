/- Walks: Holdses. -/
import Derived.Test.YtddiafpckjhadaaGreatDoorAmHoM
import Derived.Test.YtddiafpckjhadaaGreatDoorAmRfH
import Derived.Test.YtddiafpckjhadaaGreatDoorAmSm
import Derived.Test.YtddiafpckjhadaaGreatDoorAmGX10W
open Nat (reduceAdd reduceMul)
open Int (reduceToNat)
set_option linter.unusedSimpArgs false
set_option linter.unusedVariables false
namespace Am.F
open Go Am
section
variable {β:Type} {t:ETree}
theorem GX10.w234(TL:GX10 t)(TS:GS10 t)(TH:GR10 t)(TP:GP t)(TB:GB t)(TN:GNM t)(TR:GR9 t)(TC:GC t)(T:GA t)(L:GI t)(hA:t.get 150=some (eAw 150))(n M:Nat){h:H}{pv:AV}{p:List Df}{x:Nd}{w:AV}(hn:p.length+2*M+4500<=n)(hp:LAt 2 DfC h pv p)(hw:SlAt h w (strs x.args))
  (hf:NdFit x) (hM:x.args.length<=M) (hMs:M<=1048576) (hl1:p.length<=1048576) (hl2:∀d ∈ p,zki M d) (fuel:Int) :
  Sp (β:=β) (zc t stdI n (.fn 234 []) [.agg [pv],.agg (zW x w),.int .i64 fuel] h) λu h'=>u = .bool true:=by
 intro k R hk;obtain⟨m,rfl⟩:∃m,n=m+2:=⟨n-2,by omega⟩
 have hroom:room=68719476736:=rfl;have hbx:∀(hh:H) (kk:K β),qBox 0 (.agg [pv]) hh (.mk kk)=kk (.ptr hh.n 0) (hh.push (.own 0 [pv])):=λhh kk=>zm 0 _ hh kk
 have hbn:∀(hh:H) (kk:K β),qBox 0 (.agg (zW x w)) hh (.mk kk)=kk (.ptr hh.n 0) (hh.push (.own 0 (zW x w))):=λhh kk=>zm 0 _ hh kk
 have hsn:zdV x x=true:=by unfold zdV;simp
 have haw:=λ(hh:H) (kk:K β)=>awk_q (β:=β) (k:=150) rfl hA m hh kk
 obtain⟨h0,hh0⟩:∃h0,h0=(h.push (.own 0 [pv])).push (.own 0 (zW x w)):=⟨_,rfl⟩
 have hb0:(h.push (.own 0 [pv])).push (.own 0 (zW x w))=h0:=hh0.symm;have e0:Ext h h0:=by rw[hh0];exact ((Ext.refl h).push _).push _
 have n0:h0.n=h.n+2:=by rw[hh0,H.n_push,H.n_push]
 have g0:(h0.get h.n).cells=some [pv]:=by rw[hh0,zb (by rw[H.n_push];omega),zd rfl];rfl
 have g1:(h0.get (h.n+1)).cells=some (zW x w):=by rw[hh0,zd (by rw[H.n_push])];rfl
 have cell0:∀{h'},Ext h0 h'->(h'.get h.n).cells=some [pv]:=λe=>by rw[e.get _ (by omega)];exact g0
 have cell1:∀{h'},Ext h0 h'->(h'.get (h.n+1)).cells=some (zW x w):=λe=>by rw[e.get _ (by omega)];exact g1
 have hl2':∀d ∈ p,d.body.length<=9223372036854775807:=λd hd=>by have:=(hl2 d hd).1;omega
 have eqb:∀(x y:Bool) (kk:VK β),qEqB false (.bool x) (.bool y) (.mk kk)=kk (.bool (x==y)):=λx y kk=>by
  show kk (.bool ((x==y) != false))=_;cases x<;>cases y<;>rfl
 have ch:∀(c:Option β),qChk (.agg [pv]) (.agg [pv]) (.mk c)=c:=λc=>by
  show cond (AV.beq _ _) c none=c;have:AV.beq (.agg [pv]) (.agg [pv])=true:=by
   rcases hp with⟨rfl,_⟩|⟨b,o,m,g,us,rfl,_⟩<;>simp[AV.beq,AV.beqs]
  rw[this];rfl
 have chn:∀(c:Option β),qChk (.agg (zW x w)) (.agg (zW x w)) (.mk c)=c:=λc=>by
  show cond (AV.beq _ _) c none=c;have:AV.beq (.agg (zW x w)) (.agg (zW x w))=true:=by
   unfold zW;rcases hw with⟨rfl,_⟩|⟨b,o,m,g,us,rfl,_⟩<;>simp[AV.beq,AV.beqs]
  rw[this];rfl
 have lnd:(zW x w).length=4:=rfl;have tnd:((zW x w).drop 0).take 4=zW x w:=rfl;have tn4:(zW x w).take 4=zW x w:=rfl;have tp1:([pv].drop 0).take 1=[pv]:=rfl;have tp2:[pv].take 1=[pv]:=rfl;have hsl:∀(hh:H) (kk:K β),zs 0 [.int .i64 0,.int .i64 0,.nils,.str []] 1 [(0,4)] [.agg (zW x w)] hh (.mk kk)=kk (.sl hh.n 0 1 1 none) (hh.push (.own 0 (zW x w))):=λhh kk=>fBslice_n (λ_=>rfl) hh kk
 rw[TL.c234];unfold f234;simp (disch:=first|omega|simp only[zD]<;>omega|assumption) only[↓zR,↓zRM,zR,zRM,reduceAdd,reduceMul,reduceToNat,↓hbx,↓hbn,hb0,g0,g1,n0,lnd,tnd,tn4,tp1,tp2];refine TP.w135 (m+1) M ⟨pv,rfl,hp.ext DfC.stays e0⟩ (by omega) (λd hd=>⟨by have:=(hl2 d hd).1;omega,(hl2 d hd).1,λe he=>by have:=(hl2 d hd).2 e he;omega⟩) (by omega) _ _ ?_;intro u h1 ⟨e1,pv',e2,hpv'⟩;subst e2;have c0:=cell0 e1;have c1:=cell1 e1;have e1':Ext h1 (h1.push (.own 0 (zW x w))):=(Ext.refl h1).push _;have c0':=cell0 (e1.trans e1');have hnds:zez (h1.push (.own 0 (zW x w))) (.sl h1.n 0 1 1 none) [x]:=by
  refine .inr ⟨h1.n,0,1,none,_,rfl,by rw[H.n_push];omega,by rw[zd rfl];rfl,by simp[lnd],λj y hy=>?_⟩
  match j,hy with
  | 0,hy=>cases hy;exact⟨w,rfl,hw.ext (e0.trans (e1.trans e1'))⟩
  | j+1,hy=>simp at hy
 simp (disch:=first|omega|simp only[zD]<;>omega|assumption) only[↓zR,↓zRM,zR,zRM,reduceAdd,reduceMul,reduceToNat,c0,c1,c0',lnd,tnd,tn4,tp1,tp2,ch,chn,↓hsl];refine TB.w244 (m+1) hnds (by simp;omega) (λy hy=>by rw[List.mem_singleton.1 hy];omega) (by simp;omega) _ _ ?_;intro xv h2 ⟨e3,hxv⟩;have e4:Ext h2 ((h2.push (.own 0 [.nils])).set h2.n (.own 0 [pv'])):=by exact ((Ext.refl h2).push _).set (Nat.le_refl _) _
 have e4':Ext h2 (h2.push (.own 0 [.nils])):=(Ext.refl h2).push _;have n3:h2.n<((h2.push (.own 0 [.nils])).set h2.n (.own 0 [pv'])).n:=by rw[H.n_set,H.n_push];omega
 have g3:((h2.push (.own 0 [.nils])).set h2.n (.own 0 [pv'])).get h2.n = .own 0 [pv']:=by exact zk rfl
 have cell':∀{h'},Ext ((h2.push (.own 0 [.nils])).set h2.n (.own 0 [pv'])) h'->(h'.get h2.n).cells=some [pv']:=λe=>by rw[e.get _ n3,g3];rfl
 have psc:=hpv'.sc;have e02:Ext h0 h2:=e1.trans (e1'.trans e3);refine Exists.elim (hxv.lat.at (β:=β) (j:=0) (x:=x) rfl) λb hq=>Exists.elim hq λo hq=>Exists.elim hq λcs hq=>?_
 have a1:∀kk:VK β,zr 4 xv (.int .i64 0) (.mk kk)=kk (.ptr b o):=hq.1;have hpt:zah [AV.nils] 0 [pv']=[pv']:=rfl;have a2:=hq.2.1;refine Exists.elim hq.2.2 λw' hw'=>?_
 have a3:=hw'.2;rw[hw'.1] at a2;have d0:=cell0 (e02.trans e4');have d1:=cell1 (e02.trans e4');refine Exists.elim (a2.ext e4).get λus hus=>?_
 have b1:=hus.1;have b2:=hus.2.1;have b3:=hus.2.2.1;simp (disch:=first|omega|simp only[zD]<;>omega|assumption) only[↓zR,↓zRM,zR,zRM,reduceAdd,reduceMul,reduceToNat,d0,d1,lnd,tnd,tn4,tp1,tp2,ch,chn,g3,a1,b1,b2,b3,hpt];refine TS.w152 TN TC T L (m+1) (hpv'.ext DfC.stays (e1'.trans (e3.trans e4))) (by omega) hl2' (a3.ext e4) (by omega) fuel _ _ ?_;intro u h5 ⟨e5,e6⟩;subst e6;have k0:=cell0 (e02.trans (e4.trans e5));have k1:=cell1 (e02.trans (e4.trans e5));simp (disch:=first|omega|simp only[zD]<;>omega|assumption) only[↓zR,↓zRM,zR,zRM,reduceAdd,reduceMul,reduceToNat,k0,k1,lnd,tnd,tn4,tp1,tp2];refine TH.w142 TR TC T (m+1) (hp.ext DfC.stays (e0.trans (e02.trans (e4.trans e5)))) (by omega) hl2' hf.2.1 (hw.ext (e0.trans (e02.trans (e4.trans e5)))) hf.1 (by omega) fuel _ _ ?_;intro u h6 ⟨e7,e8⟩;subst e8;have e57:=e5.trans e7;have k2:=cell0 (e02.trans (e4.trans e57));have k3:=cell' e57;simp (disch:=first|omega|simp only[zD]<;>omega|assumption) only[↓zR,↓zRM,zR,zRM,reduceAdd,reduceMul,reduceToNat,eqb,beq_self_eq_true,T.w16,k2,k3,tp1,tp2,decide_eq_true_eq];refine TP.w140 (m+1) ⟨pv',rfl,hpv'.ext DfC.stays (e1'.trans (e3.trans (e4.trans e57)))⟩ ⟨pv,rfl,hp.ext DfC.stays (e0.trans (e02.trans (e4.trans e57)))⟩ M hl2 (by omega) (by omega) (by omega) _ _ ?_;intro u h8 ⟨e9,e10⟩;subst e10;have e59:=e57.trans e9;refine Exists.elim (a2.ext (e4.trans e59)).get λus' hus'=>?_
 have d1:=hus'.1;have d2:=hus'.2.1;have d3:=hus'.2.2.1;have k4:=cell1 (e02.trans (e4.trans e59));simp (disch:=first|omega|simp only[zD]<;>omega|assumption) only[↓zR,↓zRM,zR,zRM,reduceAdd,reduceMul,reduceToNat,a1,d1,d2,d3,k4,lnd,tnd,tn4];refine TB.w166 T (m+1) ⟨w',rfl,a3.ext (e4.trans e59)⟩ ⟨w,rfl,hw.ext (e0.trans (e02.trans (e4.trans e59)))⟩ (by omega) (by omega) _ _ ?_;intro u h9 ⟨e11,e12⟩;subst e12;simp (disch:=first|omega|simp only[zD]<;>omega|assumption) only[↓zR,↓zRM,zR,zRM,reduceAdd,reduceMul,reduceToNat,haw,hsn];exact hk _ _ rfl
end
end Am.F
