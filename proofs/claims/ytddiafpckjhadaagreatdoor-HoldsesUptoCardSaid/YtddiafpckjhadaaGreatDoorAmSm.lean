/- Walks: what reads the same is told to be the same. -/
import Derived.Test.YtddiafpckjhadaaGreatDoorAmCp
open Nat (reduceAdd reduceMul)
open Int (reduceToNat)
set_option linter.unusedSimpArgs false
set_option linter.unusedVariables false
namespace Am.F
open Go Am
section
variable {β:Type} {t:ETree}
theorem GP.w223(TP:GP t)(n:Nat){h:H}{v u:AV}{xs:List Int}(hv:SlAt h v (ints xs))(hu:SlAt h u (ints xs))(hn:xs.length+2<=n)(hl:xs.length<=9223372036854775807)(k:K β) :
  qCall (zc t stdI n) (.fn 223 []) [v,u] h (.mk k)=k (.bool true) h:=by
 obtain⟨m,rfl⟩:∃m,n=m+1:=⟨n-1,by omega⟩
 have lv:∀kc:VK β,qLenL v (.mk kc)=kc (.int .i64 (xs.length:Int)):=λkc=>by rw[hv.len,zx]
 have lu:∀kc:VK β,qLenL u (.mk kc)=kc (.int .i64 (xs.length:Int)):=λkc=>by rw[hu.len,zx]
 rw[TP.q223];unfold f223;simp (disch:=first|omega|simp only[zD]<;>omega|assumption) only[↓zR,↓zRM,zR,zRM,reduceAdd,reduceMul,reduceToNat,↓f223_J1,↓f223_J4,↓f223_J3,↓f223_L2,↓f223_J0,lv,lu];refine zH 5 m _ _ (λi x0 x1 x2 x3 x4 h'=>∃j:Nat,x0=v/\x1=u/\x3 = .int .i64 (j:Int)/\j+i=xs.length/\h'=h) xs.length (by omega) ?_ _ _ _ _ _ _ ⟨0,rfl,rfl,rfl,by omega,rfl⟩;intro l i ih x0 x1 x2 x3 x4 h' ⟨j,q1,q2,q3,q5,q6⟩;subst q1 q2 q3 q6;cases i with
 | zero=>
  have hj:j=xs.length:=by omega
  subst hj;simp (disch:=first|omega|simp only[zD]<;>omega|assumption) only[↓zR,↓zRM,zR,zRM,reduceAdd,reduceMul,reduceToNat,↓f223_J1,↓f223_J4,↓f223_J3,↓f223_L2,↓f223_J0,lv]
 | succ i=>
  have hj:j<xs.length:=by omega
  have g1:=λkc:VK β=>hv.load (i:=(j:Int)) (kd:=.i64) (by omega) (by rw[zx];omega) kc
  have g2:=λkc:VK β=>hu.load (i:=(j:Int)) (kd:=.i64) (by omega) (by rw[zx];omega) kc
  rw[Int.toNat_natCast,zch hj] at g1 g2;simp (disch:=first|omega|simp only[zD]<;>omega|assumption) only[↓zR,↓zRM,zR,zRM,reduceAdd,reduceMul,reduceToNat,↓f223_J1,↓f223_J4,↓f223_J3,↓f223_L2,↓f223_J0,lv,g1,g2];exact ih i (by omega) _ _ _ _ _ _ ⟨j+1,rfl,rfl,rfl,by omega,rfl⟩
theorem GP.w194(TP:GP t)(n:Nat){h:H}{v u:AV}{xs:List Ex}(hv:LAt 4 ExC h v xs)(hu:LAt 4 ExC h u xs)(M:Nat)(hM:∀e ∈ xs,e.kids.length<=M)(hn:xs.length+M+4<=n)(hl:xs.length<=9223372036854775807)(hl2:M<=9223372036854775807)(k:K β) :
  qCall (zc t stdI n) (.fn 194 []) [v,u] h (.mk k)=k (.bool true) h:=by
 obtain⟨m,rfl⟩:∃m,n=m+1:=⟨n-1,by omega⟩
 have lv:=hv.len (β:=β);have lu:=hu.len (β:=β);rw[TP.q194];unfold f194;simp (disch:=first|omega|simp only[zD]<;>omega|assumption) only[↓zR,↓zRM,zR,zRM,reduceAdd,reduceMul,reduceToNat,↓f194_J1,↓f194_J4,↓f194_J3,↓f194_L2,↓f194_J0,lv,lu];refine zH 5 m _ _ (λi x0 x1 x2 x3 x4 h'=>∃j:Nat,x0=v/\x1=u/\x3 = .int .i64 (j:Int)/\j+i=xs.length/\h'=h) xs.length (by omega) ?_ _ _ _ _ _ _ ⟨0,rfl,rfl,rfl,by omega,rfl⟩;intro l i ih x0 x1 x2 x3 x4 h' ⟨j,q1,q2,q3,q5,q6⟩;subst q1 q2 q3 q6;cases i with
 | zero=>
  have hj:j=xs.length:=by omega
  subst hj;simp (disch:=first|omega|simp only[zD]<;>omega|assumption) only[↓zR,↓zRM,zR,zRM,reduceAdd,reduceMul,reduceToNat,↓f194_J1,↓f194_J4,↓f194_J3,↓f194_L2,↓f194_J0,lv]
 | succ i=>
  have hj:j<xs.length:=by omega
  obtain⟨e,he⟩:∃e,xs[j]?=some e:=⟨_,List.getElem?_eq_getElem hj⟩
  have hMe:=hM e (List.mem_of_getElem? he);obtain⟨b,o,cs,a1,a2,w,rfl,a3⟩:=hv.at (β:=β) he;obtain⟨us,b1,b2,b3,b4⟩:=a2.get;have g0:=b4 0 _ rfl;have g1:=b4 1 _ rfl;have g2:=b4 2 _ rfl;have g3:=b4 3 _ rfl
  rw[Nat.add_zero] at g0;obtain⟨b',o',cs',a1',a2',w',rfl,a3'⟩:=hu.at (β:=β) he;obtain⟨us',b1',b2',b3',b4'⟩:=a2'.get;have g0':=b4' 0 _ rfl;have g1':=b4' 1 _ rfl;have g2':=b4' 2 _ rfl;have g3':=b4' 3 _ rfl
  rw[Nat.add_zero] at g0';have hs:=λkk:K β=>TP.w223 m a3 a3' (by omega) (by omega) kk
  simp (disch:=first|omega|simp only[zD]<;>omega|assumption) only[↓zR,↓zRM,zR,zRM,reduceAdd,reduceMul,reduceToNat,↓f194_J1,↓f194_J4,↓f194_J3,↓f194_L2,↓f194_J0,lv,a1,a1',b1,b1',g0,g1,g2,g3,g0',g1',g2',g3',hs];exact ih i (by omega) _ _ _ _ _ _ ⟨j+1,rfl,rfl,rfl,by omega,rfl⟩
theorem GP.w167(TP:GP t)(n:Nat){h:H}{v u:AV}{d:Df}(hv:LAt 4 ExC h v d.body)(hu:LAt 4 ExC h u d.body)(M:Nat)(hM:zki M d)(hn:2*M+6<=n)(hl2:M<=9223372036854775807) :
  Sp (β:=β) (zc t stdI n (.fn 167 []) [.agg [.int .i64 d.params,v],.agg [.int .i64 d.params,u]] h) λr h'=>Ext h h'/\r = .bool true:=by
 intro k R hk;obtain⟨m,rfl⟩:∃m,n=m+1:=⟨n-1,by omega⟩
 have hb:∀(v w:AV) (hh:H) (kk:K β),qBox 0 (.agg [v,w]) hh (.mk kk)=kk (.ptr hh.n 0) (hh.push (.own 0 [v,w])):=λv w hh kk=>zm 0 _ hh kk
 have e0:Ext h ((h.push (.own 0 [.int .i64 d.params,v])).push (.own 0 [.int .i64 d.params,u])):=((Ext.refl h).push _).push _;have hs:=λkk:K β=>TP.w194 m (hv.ext ExC.stays e0) (hu.ext ExC.stays e0) M hM.2 (by have:=hM.1;omega) (by have:=hM.1;omega) hl2 kk
 rw[TP.c167];unfold f167;simp (disch:=first|omega|simp only[zD]<;>omega|assumption) only[↓zR,↓zRM,zR,zRM,reduceAdd,reduceMul,reduceToNat,↓hb,hs];exact hk _ _ ⟨e0,rfl⟩
theorem GP.w140(TP:GP t)(n:Nat){h:H}{a b:AV}{p:List Df}(hp:PgAt h a p)(hq:PgAt h b p)(M:Nat)(hM:∀d ∈ p,zki M d)(hn:p.length+2*M+8<=n)(hl:p.length<=9223372036854775807)(hl2:M<=9223372036854775807) :
  Sp (β:=β) (zc t stdI n (.fn 140 []) [a,b] h) λr h'=>Ext h h'/\r = .bool true:=by
 intro k R hk;obtain⟨m,rfl⟩:∃m,n=m+1:=⟨n-1,by omega⟩
 obtain⟨v,rfl,hv⟩:=hp;obtain⟨u,rfl,hu⟩:=hq;have hb:∀(v:AV) (hh:H) (kk:K β),qBox 0 (.agg [v]) hh (.mk kk)=kk (.ptr hh.n 0) (hh.push (.own 0 [v])):=λv hh kk=>zm 0 _ hh kk
 obtain⟨h0,hh0⟩:∃h0,h0=(h.push (.own 0 [v])).push (.own 0 [u]):=⟨_,rfl⟩
 have n0:h0.n=h.n+2:=by rw[hh0,H.n_push,H.n_push]
 have e0:Ext h h0:=by rw[hh0];exact ((Ext.refl h).push _).push _
 have g0:h0.get h.n = .own 0 [v]:=by rw[hh0,zb (by rw[H.n_push];omega),zd rfl]
 have g1:h0.get (h.n+1) = .own 0 [u]:=by rw[hh0,zd (by rw[H.n_push])]
 have lv:=hv.len (β:=β);have lu:=hu.len (β:=β);rw[TP.c140];unfold f140;simp (disch:=first|omega|simp only[zD]<;>omega|assumption) only[↓zR,↓zRM,zR,zRM,reduceAdd,reduceMul,reduceToNat,↓f140_J3,↓f140_J6,↓f140_J5,↓f140_L4,↓f140_J2,↓hb,lv,lu];rw[<- hh0];refine zH 7 m _ _ (λi x0 x1 x2 x3 x4 x5 x6 h'=>∃j:Nat,x2 = .ptr h.n 0/\x3 = .ptr (h.n+1) 0/\x5 = .int .i64 (j:Int)/\j+i=p.length/\Ext h0 h') p.length (by omega) ?_ _ _ _ _ _ _ _ _ ⟨0,rfl,rfl,rfl,by omega,Ext.refl _⟩;intro l i ih x0 x1 x2 x3 x4 x5 x6 h' ⟨j,q1,q2,q3,q5,q6⟩;subst q1 q2 q3;have c0:(h'.get h.n).cells=some [v]:=by rw[q6.get _ (by omega),g0];rfl
 have c1:(h'.get (h.n+1)).cells=some [u]:=by rw[q6.get _ (by omega),g1];rfl
 cases i with
 | zero=>
  have hj:j=p.length:=by omega
  subst hj;simp (disch:=first|omega|simp only[zD]<;>omega|assumption) only[↓zR,↓zRM,zR,zRM,reduceAdd,reduceMul,reduceToNat,↓f140_J3,↓f140_J6,↓f140_J5,↓f140_L4,↓f140_J2,c0,lv];exact hk _ _ ⟨e0.trans q6,rfl⟩
 | succ i=>
  have hj:j<p.length:=by omega
  obtain⟨d,hd⟩:∃d,p[j]?=some d:=⟨_,List.getElem?_eq_getElem hj⟩
  obtain⟨b,o,cs,a1,a2,w,rfl,a3⟩:=(hv.ext DfC.stays (e0.trans q6)).at (β:=β) hd;obtain⟨us,b1,b2,b3,b4⟩:=a2.get;obtain⟨b',o',cs',a1',a2',w',rfl,a3'⟩:=(hu.ext DfC.stays (e0.trans q6)).at (β:=β) hd;obtain⟨us',b1',b2',b3',b4'⟩:=a2'.get;simp (disch:=first|omega|simp only[zD]<;>omega|assumption) only[↓zR,↓zRM,zR,zRM,reduceAdd,reduceMul,reduceToNat,↓f140_J3,↓f140_J6,↓f140_J5,↓f140_L4,↓f140_J2,c0,c1,lv,a1,a1',b1,b1',b2,b2',b3,b3'];refine TP.w167 m a3 a3' M (hM d (List.mem_of_getElem? hd)) (by omega) hl2 _ _ ?_;intro r h2 ⟨e1,e2⟩;subst e2;simp (disch:=first|omega|simp only[zD]<;>omega|assumption) only[↓zR,↓zRM,zR,zRM,reduceAdd,reduceMul,reduceToNat,↓f140_J3,↓f140_J6,↓f140_J5,↓f140_L4,↓f140_J2];exact ih i (by omega) _ _ _ _ _ _ _ _ ⟨j+1,rfl,rfl,rfl,by omega,q6.trans e1⟩
end
end Am.F
