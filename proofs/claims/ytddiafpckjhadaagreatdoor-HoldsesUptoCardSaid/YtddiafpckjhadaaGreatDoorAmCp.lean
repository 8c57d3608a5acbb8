/- Walks: programs copied. -/
import Derived.Test.YtddiafpckjhadaaGreatDoorAmTr2
import Derived.Test.YtddiafpckjhadaaGreatDoorAmGPW
open Nat (reduceAdd reduceMul)
open Int (reduceToNat)
set_option linter.unusedSimpArgs false
set_option linter.unusedVariables false
namespace Am.F
open Go Am
def zgA(a b:Nat)(h:H)(P:H->Prop):Prop:=∀hh,b<=hh.n->(∀i,a<=i->i<b->hh.get i=h.get i)->P hh
theorem zgA.move{a b:Nat}{h h':H}{P:H->Prop}(hl:zgA a b h P)(hg:∀i,a<=i->i<b->h'.get i=h.get i):zgA a b h' P:=λhh h1 h2=>hl hh h1 λi p q=>by rw[h2 i p q,hg i p q]
section
variable {β:Type} {t:ETree}
theorem exRow(u v w z:AV)(hh:H)(kk:K β):zs 0 [.int .i64 0,.int .i64 0,.int .i64 0,.nils] 1 [(0,4)] [.agg [u,v,w,z]] hh (.mk kk)=kk (.sl hh.n 0 1 1 none) (hh.push (.own 0 [u,v,w,z])):=fBslice_n (λ_=>rfl) hh kk
theorem dfRow(u v:AV)(hh:H)(kk:K β):zs 0 [.int .i64 0,.nils] 1 [(0,2)] [.agg [u,v]] hh (.mk kk)=kk (.sl hh.n 0 1 1 none) (hh.push (.own 0 [u,v])):=fBslice_n (λ_=>rfl) hh kk
theorem emptyB(hh:H)(kk:K β):zs 0 [] 0 [] [] hh (.mk kk)=kk (.sl hh.n 0 0 0 none) (hh.push (.own 0 [])):=fBslice_n (λ_=>rfl) hh kk
theorem GP.w156(TP:GP t)(n:Nat){h:H}{w:AV}{d:Df}(hw:LAt 4 ExC h w d.body)(hr:4*d.body.length+8<room)(ha:∀e ∈ d.body,e.kids.length<room)(hn:d.body.length+3<=n) :
  Sp (β:=β) (zc t stdI n (.fn 156 []) [.agg [.int .i64 d.params,w]] h) λu h'=>Ext h h'/\∃w',u = .agg [.int .i64 d.params,w']/\w'.sc=true/\zgA h.n h'.n h' λhh=>LAt 4 ExC hh w' d.body:=by
 intro k R hk;obtain⟨m,rfl⟩:∃m,n=m+1:=⟨n-1,by omega⟩
 have hroom:room=68719476736:=rfl;have hb:∀(v w:AV) (hh:H) (kk:K β),qBox 0 (.agg [v,w]) hh (.mk kk)=kk (.ptr hh.n 0) (hh.push (.own 0 [v,w])):=λv w hh kk=>zm 0 _ hh kk
 have wsc:=hw.sc;obtain⟨h0,hh0⟩:∃h0,h0=(h.push (.own 0 [.int .i64 d.params,w])).push (.own 0 [.int .i64 0,.nils]):=⟨_,rfl⟩
 have n0:h0.n=h.n+2:=by rw[hh0,H.n_push,H.n_push]
 have e0:Ext h h0:=by rw[hh0];exact ((Ext.refl h).push _).push _
 have g0:h0.get h.n = .own 0 [.int .i64 d.params,w]:=by rw[hh0,zb (by rw[H.n_push];omega),zd rfl]
 have g1:h0.get (h.n+1) = .own 0 [.int .i64 0,.nils]:=by rw[hh0,zd (by rw[H.n_push])]
 rw[TP.c156];unfold f156;simp (disch:=first|omega|simp only[zD]<;>omega|assumption) only[↓zR,↓zRM,zR,zRM,reduceAdd,reduceMul,reduceToNat,↓hb];rw[<- hh0];refine zH 7 m _ _ (λi x0 x1 x2 x3 x4 x5 x6 h'=>Ext h0 h'/\x1 = .ptr h.n 0/\x2 = .ptr (h.n+1) 0/\∃(j lo hi:Nat) (cs:List AV),x4 = .int .i64 (j:Int)/\j+i=d.body.length/\h0.n<=lo/\lo<=hi/\hi<=h'.n/\zN h' lo hi 4 x3 cs/\cs.length=j*4 /\
  ∀q e,q<j->d.body[q]?=some e->∃w bb g,(cs.drop (q*4)).take 4=zz e w/\bb<h'.n/\(bb<lo\/hi<=bb)/\h0.n<=bb/\h'.get bb = .own 0 (ints e.kids)/\w = .sl bb 0 e.kids.length e.kids.length g) d.body.length (by omega) ?_ _ _ _ _ _ _ _ _
  ⟨Ext.refl _,rfl,rfl,0,h0.n,h0.n,[],rfl,by omega,Nat.le_refl _,Nat.le_refl _,Nat.le_refl _,zN.nil _ _ _ _,rfl,λq e hq=>absurd hq (by omega)⟩
 intro l i ih x0 x1 x2 x3 x4 x5 x6 h' ⟨e1,q0,q1,j,lo,hi,cs,q3,e2,e3,e4,e5,e6,e7,e8⟩;subst q0 q1 q3;have hw':=hw.ext ExC.stays (e0.trans e1);have c0:(h'.get h.n).cells=some [.int .i64 d.params,w]:=by rw[e1.get _ (by omega),g0];rfl
 have o0:zt (h'.get h.n)=some (0,[.int .i64 d.params,w]):=by rw[e1.get _ (by omega),g0];rfl
 have o1:zt (h'.get (h.n+1))=some (0,[.int .i64 0,.nils]):=by rw[e1.get _ (by omega),g1];rfl
 have hn1:=e1.n;cases i with
 | zero=>
  have hj:j=d.body.length:=by omega
  subst hj;have xsc:=e6.sc;simp (disch:=first|omega|simp only[zD]<;>omega|assumption) only[↓zR,↓zRM,zR,zRM,reduceAdd,reduceMul,reduceToNat,↓f156_J2,↓f156_J8,↓f156_J7,↓f156_L6,hw'.len,c0,o0,o1];have ex:Ext h ((h'.set h.n (.own 0 [.int .i64 d.params,x3])).set (h.n+1) (.own 0 [.int .i64 d.params,x3])):=((e0.trans e1).set (Nat.le_refl _) _).set (by omega) _;refine hk _ _ ⟨ex,x3,rfl,xsc,?_⟩;intro hh b1 b2;rw[H.n_set,H.n_set] at b1 b2;have b3:∀i,h0.n<=i->i<h'.n->hh.get i=h'.get i:=λi p q=>by rw[b2 i (by omega) q,ze (by omega),ze (by omega)]
  rcases e6 with⟨rfl,rfl⟩|⟨bo,lo',rfl,o1,o2,o3,o4,o5⟩
  ·exact .inl ⟨rfl,by rw[List.length_nil] at e7;exact List.eq_nil_of_length_eq_zero (by omega)⟩
  ·have hll:lo'=d.body.length:=by omega
   subst hll;refine .inr ⟨bo,0,_,_,cs,rfl,by omega,by rw[b3 _ (by omega) (by omega),o3];rfl,by omega,λq x hx=>?_⟩;obtain⟨w,bb,g,u1,u2,u3,u4,u5,u6⟩:=e8 q x (List.getElem?_eq_some_iff.1 hx).1 hx;refine⟨w,by rw[Nat.zero_add];exact u1,.inr ⟨bb,0,x.kids.length,g,ints x.kids,by rw[u6,zx],by omega,by rw[b3 _ u4 u2,u5];rfl,by simp only[List.drop_zero,List.take_length],by simp⟩⟩
 | succ i=>
  have hj:j<d.body.length:=by omega
  obtain⟨x,hx⟩:∃x,d.body[j]?=some x:=⟨_,List.getElem?_eq_getElem hj⟩
  obtain⟨b,o,cs',s1,s2,w',rfl,s3⟩:=hw'.at (β:=β) hx;obtain⟨us,a3,a5,a4,_⟩:=s2.get;unfold zz at a4;simp (disch:=first|omega|simp only[zD]<;>omega|assumption) only[↓zR,↓zRM,zR,zRM,reduceAdd,reduceMul,reduceToNat,↓f156_J2,↓f156_J8,↓f156_J7,↓f156_L6,hw'.len,c0,s1,a3,a4,a5];have b1:((h'.push (.own 0 [.int .i64 0,.int .i64 0,.int .i64 0,.nils])).set h'.n (.own 0 [.int .i64 x.kind,.int .i64 x.num,.int .i64 x.bind,w'])).n=h'.n+1:=by rw[H.n_set,H.n_push]
  have b2:((h'.push (.own 0 [.int .i64 0,.int .i64 0,.int .i64 0,.nils])).set h'.n (.own 0 [.int .i64 x.kind,.int .i64 x.num,.int .i64 x.bind,w'])).get h'.n = .own 0 [.int .i64 x.kind,.int .i64 x.num,.int .i64 x.bind,w']:=zk rfl;have b3:∀i,i<h'.n->((h'.push (.own 0 [.int .i64 0,.int .i64 0,.int .i64 0,.nils])).set h'.n (.own 0 [.int .i64 x.kind,.int .i64 x.num,.int .i64 x.bind,w'])).get i=h'.get i:=λi hi=>by
   rw[ze (by omega),zb (by omega)]
  generalize (h'.push (.own 0 [.int .i64 0,.int .i64 0,.int .i64 0,.nils])).set h'.n (.own 0 [.int .i64 x.kind,.int .i64 x.num,.int .i64 x.bind,w'])=h1 at b1 b2 b3 ⊢;have hg1:∀bk,(h1.push bk).get h'.n=h1.get h'.n:=λbk=>zb (by omega)
  have b2c:(h1.get h'.n).cells=some [.int .i64 x.kind,.int .i64 x.num,.int .i64 x.bind,w']:=by rw[b2];rfl
  simp (disch:=first|omega|simp only[zD]<;>omega|assumption) only[↓zR,↓zRM,zR,zRM,reduceAdd,reduceMul,reduceToNat,↓emptyB,hg1,b2c];have x01:Ext h' h1:=⟨by omega,b3⟩
  have hw2:SlAt (h1.push (.own 0 [])) w' (ints x.kids):=s3.ext (x01.push _);have hxa:=ha x (List.mem_of_getElem? hx);refine zhV (lo:=h1.n) (cs:=[]) ⟨h1.n,Nat.le_refl _,(by first|omega|(simp only[H.n_push,H.n_set];omega)),zd rfl,.inl rfl⟩ (by first|omega|(simp only[H.n_push,H.n_set];omega)) hw2 ⟨by rw[zx];simpa using hxa,by omega⟩ ?_;intro v11 h2 c1 c2 c3;rw[H.n_push] at c2;obtain⟨bb,d1,d2,d3,d4⟩:=c1;rw[List.nil_append,zx] at d4;rw[List.nil_append] at d3;have c4:(h2.get h'.n) = .own 0 [.int .i64 x.kind,.int .i64 x.num,.int .i64 x.bind,w']:=by rw[c3 _ (by omega),hg1,b2]
  have c5:zt (h2.get h'.n)=some (0,[.int .i64 x.kind,.int .i64 x.num,.int .i64 x.bind,w']):=by rw[c4];rfl
  have d4':∃g,v11 = .sl bb 0 x.kids.length x.kids.length g:=by
   rcases d4 with d4|⟨d4,_⟩
   ·exact⟨none,d4⟩
   ·exact⟨some 1,d4⟩
  obtain⟨g,rfl⟩:=d4';simp (disch:=first|omega|simp only[zD]<;>omega|assumption) only[↓zR,↓zRM,zR,zRM,reduceAdd,reduceMul,reduceToNat,c5,↓exRow];have y1:(h2.set h'.n (.own 0 [.int .i64 x.kind,.int .i64 x.num,.int .i64 x.bind,.sl bb 0 x.kids.length x.kids.length g])).n=h2.n:=H.n_set _ _ _;have y2:∀i,i≠h'.n->(h2.set h'.n (.own 0 [.int .i64 x.kind,.int .i64 x.num,.int .i64 x.bind,.sl bb 0 x.kids.length x.kids.length g])).get i=h2.get i:=λi hi=>ze (λq=>hi q.symm)
  generalize h2.set h'.n (.own 0 [.int .i64 x.kind,.int .i64 x.num,.int .i64 x.bind,.sl bb 0 x.kids.length x.kids.length g])=h3 at y1 y2 ⊢;have y3:∀i,i<h'.n->h3.get i=h'.get i:=λi hi=>by rw[y2 i (by omega),c3 i (by omega),zb (by omega),b3 i hi]
  have y4:h3.get bb = .own 0 (ints x.kids):=by rw[y2 bb (by omega)];exact d3
  have hpu:∀i,i<h3.n->(h3.push (.own 0 [.int .i64 x.kind,.int .i64 x.num,.int .i64 x.bind,.sl bb 0 x.kids.length x.kids.length g])).get i=h3.get i:=λi hi=>zb (by omega)
  have hsrc:∀c:Nat->List AV->Option β,fSrc 4 (.sl h2.n 0 1 1 none) (h3.push (.own 0 [.int .i64 x.kind,.int .i64 x.num,.int .i64 x.bind,.sl bb 0 x.kids.length x.kids.length g])) c=c 1 [.int .i64 x.kind,.int .i64 x.num,.int .i64 x.bind,.sl bb 0 x.kids.length x.kids.length g]:=by
   intro c;have:((h3.push (.own 0 [.int .i64 x.kind,.int .i64 x.num,.int .i64 x.bind,.sl bb 0 x.kids.length x.kids.length g])).get h2.n).cells=some [.int .i64 x.kind,.int .i64 x.num,.int .i64 x.bind,.sl bb 0 x.kids.length x.kids.length g]:=by rw[zd y1];rfl
   show (cells _ h2.n λcs=>cond (Nat.ble (Nat.add 0 (Nat.mul 1 4)) (lenF cs)) (c 1 (zaK (Nat.mul 1 4) (za3 0 cs))) none)=_;rw[z7,this];rfl
  have hlo:hi<=h3.n:=by omega
  refine zb1 (lo:=lo) (hi:=hi) (cs:=cs) (e6.mono (Nat.le_refl _) (Nat.le_refl _) λi p1 p2=>by rw[hpu i (by omega),y3 i (by omega)]) (by rw[H.n_push];omega) hsrc rfl (by omega) (by omega) (by omega) (by omega) ?_;intro L h4 z1 z2 z3 z4;rw[H.n_push] at z1 z2 z4;have hL:L=j+1:=by rw[List.length_append,e7] at z3;simp only[List.length_cons,List.length_nil] at z3;omega
  subst hL;have z5:∀i,i<h3.n->(i<lo\/hi<=i)->h4.get i=h3.get i:=λi p1 p2=>by rw[z4 i (by omega) p2,hpu i p1]
  simp (disch:=first|omega|simp only[zD]<;>omega|assumption) only[↓zR,↓zRM,zR,zRM,reduceAdd,reduceMul,reduceToNat,↓f156_J2,↓f156_J8,↓f156_J7,↓f156_L6];refine ih i (by omega) _ _ _ _ _ _ _ _ ⟨⟨by omega,λi hi=>by rw[z5 i (by omega) (.inl (by omega)),y3 i (by omega)];exact e1.get i hi⟩,rfl,rfl,j+1,h3.n+1,h3.n+2,_,zaB j,by omega,by omega,by omega,by omega,
   .inr ⟨h3.n+1,j+1,rfl,by omega,by omega,z1,z3,by omega⟩,z3,?_⟩
  intro q y hq hy
  by_cases hqj:q=j
  ·subst hqj;rw[hx] at hy;cases hy;refine⟨.sl bb 0 x.kids.length x.kids.length g,bb,g,?_,by omega,by omega,by omega,by rw[z5 bb (by omega) (.inr (by omega))];exact y4,rfl⟩;rw[List.drop_append_of_le_length (by omega),List.drop_of_length_le (by omega)];rfl
  ·obtain⟨w',bb',g',o1,o2,o3,o4,o5,o6⟩:=e8 q y (by omega) hy;refine⟨w',bb',g',?_,by omega,by omega,o4,by rw[z5 bb' (by omega) o3,y3 bb' o2];exact o5,o6⟩;rw[List.drop_append_of_le_length (by omega),List.take_append_of_le_length (by rw[List.length_drop];omega)];exact o1
theorem GP.w135(TP:GP t)(n M:Nat){h:H}{a:AV}{p:List Df}(hp:PgAt h a p)(hr:2*p.length+8<room)(hd:∀d ∈ p,4*d.body.length+8<room/\d.body.length<=M/\∀e ∈ d.body,e.kids.length<room)(hn:p.length+M+5<=n) :
  Sp (β:=β) (zc t stdI n (.fn 135 []) [a] h) λu h'=>Ext h h'/\PgAt h' u p:=by
 intro k R hk;obtain⟨m,rfl⟩:∃m,n=m+1:=⟨n-1,by omega⟩
 have hroom:room=68719476736:=rfl;obtain⟨v,rfl,hv⟩:=hp;have hb:∀(v:AV) (hh:H) (kk:K β),qBox 0 (.agg [v]) hh (.mk kk)=kk (.ptr hh.n 0) (hh.push (.own 0 [v])):=λv hh kk=>zm 0 _ hh kk
 obtain⟨h0,hh0⟩:∃h0,h0=(h.push (.own 0 [v])).push (.own 0 [.nils]):=⟨_,rfl⟩
 have n0:h0.n=h.n+2:=by rw[hh0,H.n_push,H.n_push]
 have e0:Ext h h0:=by rw[hh0];exact ((Ext.refl h).push _).push _
 have g0:h0.get h.n = .own 0 [v]:=by rw[hh0,zb (by rw[H.n_push];omega),zd rfl]
 have g1:h0.get (h.n+1) = .own 0 [.nils]:=by rw[hh0,zd (by rw[H.n_push])]
 rw[TP.c135];unfold f135;simp (disch:=first|omega|simp only[zD]<;>omega|assumption) only[↓zR,↓zRM,zR,zRM,reduceAdd,reduceMul,reduceToNat,↓hb];rw[<- hh0];refine zH 5 m _ _ (λi x0 x1 x2 x3 x4 h'=>Ext h0 h'/\x1 = .ptr h.n 0/\x2 = .ptr (h.n+1) 0/\∃(j lo hi:Nat) (cs:List AV),x4 = .int .i64 (j:Int)/\j+i=p.length/\h0.n<=lo/\lo<=hi/\hi<=h'.n/\zN h' lo hi 2 x3 cs/\cs.length=j*2 /\
  ∀q d,q<j->p[q]?=some d->∃w a b,(cs.drop (q*2)).take 2=[.int .i64 d.params,w]/\b<=h'.n/\(b<=lo\/hi<=a)/\h0.n<=a/\zgA a b h' λhh=>LAt 4 ExC hh w d.body) p.length (by omega) ?_ _ _ _ _ _ _
  ⟨Ext.refl _,rfl,rfl,0,h0.n,h0.n,[],rfl,by omega,Nat.le_refl _,Nat.le_refl _,Nat.le_refl _,zN.nil _ _ _ _,rfl,λq e hq=>absurd hq (by omega)⟩
 intro l i ih x0 x1 x2 x3 x4 h' ⟨e1,q0,q1,j,lo,hi,cs,q3,e2,e3,e4,e5,e6,e7,e8⟩;subst q0 q1 q3;have hv':=hv.ext DfC.stays (e0.trans e1);have c0:(h'.get h.n).cells=some [v]:=by rw[e1.get _ (by omega),g0];rfl
 have o1:zt (h'.get (h.n+1))=some (0,[.nils]):=by rw[e1.get _ (by omega),g1];rfl
 have hn1:=e1.n;cases i with
 | zero=>
  have hj:j=p.length:=by omega
  subst hj;have xsc:=e6.sc;simp (disch:=first|omega|simp only[zD]<;>omega|assumption) only[↓zR,↓zRM,zR,zRM,reduceAdd,reduceMul,reduceToNat,↓f135_J2,↓f135_J7,↓f135_J6,↓f135_L5,hv'.len,c0,o1];have ex:Ext h (h'.set (h.n+1) (.own 0 [x3])):=(e0.trans e1).set (by omega) _;refine hk _ _ ⟨ex,x3,rfl,?_⟩;have b3:∀i,i≠h.n+1->(h'.set (h.n+1) (.own 0 [x3])).get i=h'.get i:=λi p=>ze (by omega)
  rcases e6 with⟨rfl,rfl⟩|⟨bo,lo',rfl,o1,o2,o3,o4,o5⟩
  ·exact .inl ⟨rfl,by rw[List.length_nil] at e7;exact List.eq_nil_of_length_eq_zero (by omega)⟩
  ·have hll:lo'=p.length:=by omega
   subst hll;refine .inr ⟨bo,0,_,_,cs,rfl,by rw[H.n_set];omega,by rw[b3 _ (by omega),o3];rfl,by omega,λq x hx=>?_⟩;obtain⟨w,a,b,u1,u2,u3,u4,u5⟩:=e8 q x (List.getElem?_eq_some_iff.1 hx).1 hx;exact⟨w,by rw[Nat.zero_add];exact u1,u5 _ (by rw[H.n_set];exact u2) λi p1 p2=>b3 i (by omega)⟩
 | succ i=>
  have hj:j<p.length:=by omega
  obtain⟨x,hx⟩:∃x,p[j]?=some x:=⟨_,List.getElem?_eq_getElem hj⟩
  obtain⟨b,o,cs',s1,s2,w',rfl,s3⟩:=hv'.at (β:=β) hx;obtain⟨us,a3,a5,a4,_⟩:=s2.get;obtain⟨r1,r2,r3⟩:=hd x (List.mem_of_getElem? hx);simp (disch:=first|omega|simp only[zD]<;>omega|assumption) only[↓zR,↓zRM,zR,zRM,reduceAdd,reduceMul,reduceToNat,↓f135_J2,↓f135_J7,↓f135_J6,↓f135_L5,hv'.len,c0,s1,a3,a4,a5];refine TP.w156 m s3 r1 r3 (by omega) _ _ ?_;intro u h3 ⟨t1,w2,t2,tsc,t3⟩;subst t2;have ht1:=t1.n;simp (disch:=first|omega|simp only[zD]<;>omega|assumption) only[↓zR,↓zRM,zR,zRM,reduceAdd,reduceMul,reduceToNat,↓dfRow];have hpu:∀i,i<h3.n->(h3.push (.own 0 [.int .i64 x.params,w2])).get i=h3.get i:=λi hi=>zb (by omega)
  have hsrc:∀c:Nat->List AV->Option β,fSrc 2 (.sl h3.n 0 1 1 none) (h3.push (.own 0 [.int .i64 x.params,w2])) c=c 1 [.int .i64 x.params,w2]:=by
   intro c;have:((h3.push (.own 0 [.int .i64 x.params,w2])).get h3.n).cells=some [.int .i64 x.params,w2]:=by rw[zd rfl];rfl
   show (cells _ h3.n λcs=>cond (Nat.ble (Nat.add 0 (Nat.mul 1 2)) (lenF cs)) (c 1 (zaK (Nat.mul 1 2) (za3 0 cs))) none)=_;rw[z7,this];rfl
  have hlo:hi<=h3.n:=by omega
  refine zb1 (lo:=lo) (hi:=hi) (cs:=cs) (e6.mono (Nat.le_refl _) (Nat.le_refl _) λi p1 p2=>by rw[hpu i (by omega),t1.get i (by omega)]) (by rw[H.n_push];omega) hsrc rfl (by omega) (by omega) (by omega) (by omega) ?_;intro L h4 z1 z2 z3 z4;rw[H.n_push] at z1 z2 z4;have hL:L=j+1:=by rw[List.length_append,e7] at z3;simp only[List.length_cons,List.length_nil] at z3;omega
  subst hL;have z5:∀i,i<h3.n->(i<lo\/hi<=i)->h4.get i=h3.get i:=λi p1 p2=>by rw[z4 i (by omega) p2,hpu i p1]
  simp (disch:=first|omega|simp only[zD]<;>omega|assumption) only[↓zR,↓zRM,zR,zRM,reduceAdd,reduceMul,reduceToNat,↓f135_J2,↓f135_J7,↓f135_J6,↓f135_L5];refine ih i (by omega) _ _ _ _ _ _ ⟨⟨by omega,λi hi=>by rw[z5 i (by omega) (.inl (by omega)),t1.get i (by omega)];exact e1.get i hi⟩,rfl,rfl,j+1,h3.n+1,h3.n+2,_,zaB j,by omega,by omega,by omega,by omega,
   .inr ⟨h3.n+1,j+1,rfl,by omega,by omega,z1,z3,by omega⟩,z3,?_⟩
  intro q y hq hy
  by_cases hqj:q=j
  ·subst hqj;rw[hx] at hy;cases hy;refine⟨w2,h'.n,h3.n,?_,by omega,by omega,by omega,t3.move λi p1 p2=>z5 i p2 (.inr (by omega))⟩;rw[List.drop_append_of_le_length (by omega),List.drop_of_length_le (by omega)];rfl
  ·obtain⟨w'',a,b,o1,o2,o3,o4,o5⟩:=e8 q y (by omega) hy;refine⟨w'',a,b,?_,by omega,by omega,o4,o5.move λi p1 p2=>by rw[z5 i (by omega) (by omega),t1.get i (by omega)]⟩;rw[List.drop_append_of_le_length (by omega),List.take_append_of_le_length (by rw[List.length_drop];omega)];exact o1
end
end Am.F
