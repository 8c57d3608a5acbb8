/- Texts that belong together: no condition. -/
import Derived.Test.YtddiafpckjhadaaGreatDoorAmJi
import Derived.Test.YtddiafpckjhadaaGreatDoorAmJg
import Derived.Test.YtddiafpckjhadaaGreatDoorAmJd
open Nat (reduceAdd reduceMul)
open Int (reduceToNat)
set_option maxRecDepth 100000
set_option linter.unusedVariables false
set_option linter.unusedSimpArgs false
set_option linter.defProp false
section
namespace Am.F
open Go Am
def zdi(p:List Df)(r:Rs × Nat)(n0:Nat)(g h:H)(lb:Nat)(pv:AV)(u:AV)(h':H):Prop :=
 ∃g',Gh g g'/\Un g' h'/\g'.n=h'.n/\h.n<=h'.n/\(∀i,i<n0->i≠lb->h'.get i=h.get i)/\h'.get lb = .own 0 [pv,.int .i64 (r.2:Int)] /\
  match r.1 with
  | .bad c=>u = .tup [zdt,.int .i64 c]/\(c=901\/c=902)
  | .ok f=>∃w,u = .tup [.agg [.int .i64 f.kind,.int .i64 f.num,w],.int .i64 0]/\w.sc=true/\LAt 4 (TPC p) g' w f.parts
structure Lst (n0 lb:Nat) (g h g' h':H):Prop where
 gh:Gh g g'
 n:h.n<=h'.n
 same:∀i,i<n0->i≠lb->h'.get i=h.get i
theorem Lst.trans{n0 lb:Nat}{g h g1 h1 g2 h2:H}(a:Lst n0 lb g h g1 h1)(b:Lst n0 lb g1 h1 g2 h2):Lst n0 lb g h g2 h2 :=
 ⟨a.gh.trans b.gh,Nat.le_trans a.n b.n,λi hi hne=>(b.same i hi hne).trans (a.same i hi hne)⟩
theorem Lst.post{p:List Df}{r:Rs × Nat}{n0 lb:Nat}{g h g1 h1:H}{pv u:AV}{h':H}(a:Lst n0 lb g h g1 h1)(b:zdi p r n0 g1 h1 lb pv u h'):zdi p r n0 g h lb pv u h':=by
 obtain⟨g',q1,q2,q3,q4,q5,q6⟩:=b;exact⟨g',a.gh.trans q1,q2,q3,Nat.le_trans a.n q4,λi hi hne=>(q5 i hi hne).trans (a.same i hi hne),q6⟩
structure LS (p:List Df) (n0 lb b2 b3:Nat) (pv:AV) (left:Nat) (cs:List AV) (th:Thg) (g h:H):Prop where
 un:Un g h
 gn:g.n=h.n
 i0:lb<n0
 i2:n0<=b2
 i3:n0<=b3
 i23:b2≠b3
 j2:b2<h.n
 j3:b3<h.n
 ll:h.get lb = .own 0 [pv,.int .i64 (left:Int)]
 l2:h.get b2 = .own 0 cs
 l3:h.get b3 = .own 0 [.int .i64 0,.int .i64 0,.nils]
 dl:(g.get lb).cells=none
 d2:(g.get b2).cells=none
 d3:(g.get b3).cells=none
 lat:LAt 2 DfC g pv p
 tpc:TPC p g cs th
 wf:WF p th
 left1000:left<=1000
theorem zav{p:List Df}{N left d a:Nat}{env:List Thg}{df:Df}{lv:List Int}{e:Ex}(s:Stand p d a env df lv e):zp p (N+1) (left+1) (.part d a env) =
   (let kid:=λk:Nat=>Thg.part d (e.kids.getD k 0).toNat env
   if e.kind=0 then (.ok ⟨1,e.num,[]⟩,left)
   else if e.kind=1 then zp p N left (env.getD e.num.toNat default)
   else if e.kind=2 then zp p N left (.part e.num.toNat ((zbt p e.num.toNat).length-1) (zaA d env e.kids))
   else if e.kind=3 then (.ok ⟨2,e.num,zaA d env e.kids⟩,left)
   else if e.kind=4 then
    match zp p N left (kid 0) with
    | (.bad c,l1)=>(.bad c,l1)
    | (.ok f,l1)=>if f.kind=1 then
      match zp p N l1 (kid 1) with
      | (.bad c,l2)=>(.bad c,l2)
      | (.ok g,l2)=>if g.kind=1 then (.ok ⟨1,doV e.num f.num g.num,[]⟩,l2) else (.ok zbI,l2)
     else (.ok zbI,l1)
   else if e.kind=5 then
    match zp p N left (kid 0) with
    | (.bad c,l1)=>(.bad c,l1)
    | (.ok f,l1)=>if f.kind=3 then (.ok f,l1)
     else if f.kind=2/\f.num=e.num/\(f.parts.length:Int)=e.bind then zp p N l1 (.part d (e.kids.getD 1 0).toNat (env++f.parts))
     else zp p N l1 (kid 2)
   else if e.kind=6 then zp p N left (.part d (e.kids.getD 1 0).toNat (env++[kid 0]))
   else (.ok zbI,left)):=by
 conv=>lhs;unfold zp
 rw[s.get];rfl
section
variable {β:Type} {t:ETree}
def Cont(p:List Df)(n0 lb b2 b3:Nat)(pv:AV)(left:Nat)(th:Thg)(g h:H)(l9:Cur β 22)(R:Option β):Prop :=
 ∀x1 x4 x5 x6 x7 x8 x9 x10 x11 x12 x13 x14 x15 x16 x17 x18 x19 x20 x21 cs' g' h',LS p n0 lb b2 b3 pv left cs' th g' h'->Lst n0 lb g h g' h'->l9 (.ptr lb 0) x1 (.ptr b2 0) (.ptr b3 0) x4 x5 x6 x7 x8 x9 x10 x11 x12 x13 x14 x15 x16 x17 x18 x19 x20 x21 h'=R
theorem LS.fin{p:List Df}{n0 lb b2 b3:Nat}{pv:AV}{left l3:Nat}{cs:List AV}{th:Thg}{g h g3 h3:H}{r:Rs × Nat}{k:K β}{R:Option β}(S:LS p n0 lb b2 b3 pv left cs th g h)(st:Lst n0 lb g h g3 h3)(u3:Un g3 h3)(n3:g3.n=h3.n)(hl:h3.get lb = .own 0 [pv,.int .i64 (l3:Int)])
  (hk:∀u h',zdi p r n0 g h lb pv u h'->k u h'=R) (hr:r.2=l3) {x y c:Int} {w:AV}
  (hm:match r.1 with|.bad c'=>c'=c/\x=0/\y=0/\w = .nils/\(c=901\/c=902)|.ok f=>f.kind=x/\f.num=y/\c=0/\w.sc=true/\LAt 4 (TPC p) g3 w f.parts) :
  k (.tup [.agg [.int .i64 x,.int .i64 y,w],.int .i64 c]) (h3.set b3 (.own 0 [.int .i64 x,.int .i64 y,w]))=R:=by
 have j:=S.i0;have j3:=S.i3
 have hid:=st.gh.hid b3 (by have:=S.gn;have:=S.j3;omega) S.d3;refine hk _ _ ⟨g3,st.gh,u3.set hid _,by rw[H.n_set];exact n3,by rw[H.n_set];exact st.n,λi hi hne=>by rw[zg (by omega)];exact st.same i hi hne,by rw[zg (by omega),hr];exact hl,?_⟩;obtain⟨rs,l⟩:=r;cases rs with
 | bad c'=>obtain⟨rfl,rfl,rfl,rfl,hc⟩:=hm;exact⟨rfl,hc⟩
 | ok f=>obtain⟨rfl,rfl,rfl,hw,hp⟩:=hm;exact⟨w,rfl,hw,hp⟩
theorem LS.ctx{p:List Df}{n0 lb b2 b3:Nat}{pv:AV}{left:Nat}{cs:List AV}{d a:Nat}{env:List Thg}{g h:H}(S:LS p n0 lb b2 b3 pv (left+1) cs (.part d a env) g h){df:Df}{lv:List Int}{e:Ex}(s:Stand p d a env df lv e) :
  ∃(bv tv:AV) (rows:List (List AV)) (h1:H) (eb eo:Nat) (us:List AV) (w:AV),cs=[.str [],bv,.int .i64 (a:Int),tv]/\LAt 4 ExC g bv df.body/\bv ≠ .nils/\LAt 4 RowC g tv rows/\rows.length=env.length/\(∀(j:Nat) (r:List AV) (x:Thg),rows[j]?=some r->env[j]?=some x->TPC p g r x)/\h1=h.set lb (.own 0 [pv,.int .i64 (left:Int)])/\Un g h1/\h1.n=h.n/\(∀i,i≠lb->h1.get i=h.get i)/\h1.get lb = .own 0 [pv,.int .i64 (left:Int)]/\Lst n0 lb g h g h1 /\
   (∀k:VK β,zz 4 bv (.int .i64 (a:Int)) (.mk k)=k (.ptr eb eo))/\InAt 4 g eb eo (zaJ e w)/\SlAt g w (ints e.kids)/\us[eo]?=some (.int .i64 e.kind)/\us[eo+1]?=some (.int .i64 e.num)/\us[eo+2]?=some (.int .i64 e.bind)/\us[eo+3]?=some w/\eb<h.n/\eb≠lb/\eb≠b2/\eb≠b3/\(h.get eb).cells=some us/\(h1.get eb).cells=some us /\
   (h.get lb).cells=some [pv,.int .i64 ((left+1:Nat):Int)]/\zB (h.get lb)=some (0,[pv,.int .i64 ((left+1:Nat):Int)])/\(h.get b2).cells=some [.str [],bv,.int .i64 (a:Int),tv]/\zB (h.get b3)=some (0,[.int .i64 0,.int .i64 0,.nils])/\zB (h.get b2)=some (0,[.str [],bv,.int .i64 (a:Int),tv])/\(h1.get b2).cells=some [.str [],bv,.int .i64 (a:Int),tv]/\zB (h1.get b3)=some (0,[.int .i64 0,.int .i64 0,.nils])/\zB (h1.get b2)=some (0,[.str [],bv,.int .i64 (a:Int),tv]) /\
   lb≠b2/\lb≠b3/\((left+1:Nat):Int)-1=(left:Int)/\([pv,.int .i64 ((left+1:Nat):Int)]:List AV).set 1 (.int .i64 (left:Int))=[pv,.int .i64 (left:Int)]/\h.set lb (.own 0 [pv,.int .i64 (left:Int)])=h1:=by
 obtain⟨un,gn,i0,i2,i3,i23,j2,j3,ll,l2,l3,dl,d2,d3,lat,tpc,wf,l1000⟩:=S;have S0:=LS.mk un gn i0 i2 i3 i23 j2 j3 ll l2 l3 dl d2 d3 lat tpc wf l1000;have tpc0:=tpc;cases tpc with
 | part hd' hb hnb rows hr hl' hen=>
 rename_i df' bv tv;have hd2:=s.hd;rw[hd2] at hd';cases hd';obtain⟨h1,eh1⟩:∃h1,h1=h.set lb (.own 0 [pv,.int .i64 (left:Int)]):=⟨_,rfl⟩
 have u1:Un g h1:=by rw[eh1];exact un.set dl _
 have n1:h1.n=h.n:=by rw[eh1,H.n_set]
 have k1:∀i,i≠lb->h1.get i=h.get i:=λi hi=>by rw[eh1,zg (by omega)]
 have kl:h1.get lb = .own 0 [pv,.int .i64 (left:Int)]:=by rw[eh1,zl rfl]
 have st1:Lst n0 lb g h g h1:=⟨Gh.refl g,by omega,λi hi hne=>k1 i hne⟩
 obtain⟨eb,eo,ecs,q1,q2,w,rfl,q3⟩:=hb.at (β:=β) s.he;have q20:=q2;obtain⟨us,b1,_,_,b4⟩:=q2.get;have g0:us[eo]?=some (.int .i64 e.kind):=b4 0 _ rfl;have g1:=b4 1 _ rfl;have g2:=b4 2 _ rfl;have g3:=b4 3 _ rfl
 have heb:eb<h.n:=by rw[<- gn];exact q20.1
 have neb:eb≠lb/\eb≠b2/\eb≠b3:=⟨λhh=>(by rw[hh,dl] at b1;cases b1),λhh=>(by rw[hh,d2] at b1;cases b1),λhh=>(by rw[hh,d3] at b1;cases b1)⟩
 obtain⟨ne1,ne2,ne3⟩:=neb;have b1:(h.get eb).cells=some us:=by rw[un.get eb q20.1 (by rw[b1];simp)];exact b1
 have b11:(h1.get eb).cells=some us:=by rw[k1 _ ne1];exact b1
 have cl:(h.get lb).cells=some [pv,.int .i64 ((left+1:Nat):Int)]:=by rw[ll];rfl
 have ol:zB (h.get lb)=some (0,[pv,.int .i64 ((left+1:Nat):Int)]):=by rw[ll];rfl
 have c2:(h.get b2).cells=some [.str [],bv,.int .i64 (a:Int),tv]:=by rw[l2];rfl
 have o3:zB (h.get b3)=some (0,[.int .i64 0,.int .i64 0,.nils]):=by rw[l3];rfl
 have o2:zB (h.get b2)=some (0,[.str [],bv,.int .i64 (a:Int),tv]):=by rw[l2];rfl
 have c21:(h1.get b2).cells=some [.str [],bv,.int .i64 (a:Int),tv]:=by rw[k1 _ (by omega)];exact c2
 have o31:zB (h1.get b3)=some (0,[.int .i64 0,.int .i64 0,.nils]):=by rw[k1 _ (by omega)];exact o3
 have o21:zB (h1.get b2)=some (0,[.str [],bv,.int .i64 (a:Int),tv]):=by rw[k1 _ (by omega)];exact o2
 have ne4:lb≠b2:=by omega
 have ne5:lb≠b3:=by omega
 have es:((left+1:Nat):Int)-1=(left:Int):=by omega
 have sset:([pv,.int .i64 ((left+1:Nat):Int)]:List AV).set 1 (.int .i64 (left:Int))=[pv,.int .i64 (left:Int)]:=rfl;have tset:h.set lb (.own 0 [pv,.int .i64 (left:Int)])=h1:=eh1.symm;exact⟨bv,tv,rows,h1,eb,eo,us,w,rfl,hb,hnb,hr,hl',hen,eh1,u1,n1,k1,kl,st1,q1,q20,q3,g0,g1,g2,g3,heb,ne1,ne2,ne3,b1,b11,cl,ol,c2,o3,o2,c21,o31,o21,ne4,ne5,es,sset,tset⟩
theorem GNM.look_0(TN:GNM t)(n:Nat)(hn:30<=n){p:List Df}{N n0 lb b2 b3:Nat}{pv:AV}{left:Nat}{cs:List AV}{d a:Nat}{env:List Thg}{g h:H}(S:LS p n0 lb b2 b3 pv (left+1) cs (.part d a env) g h){df:Df}{lv:List Int}{e:Ex}(s:Stand p d a env df lv e)(hq:e.kind=0){k:K β}{l9:Cur β 22}{R:Option β}
  (hk:∀u h',zdi p (zp p (N+1) (left+1) (.part d a env)) n0 g h lb pv u h'->k u h'=R)
  (hc:∀th' left',left'<=left->zp p (N+1) (left+1) (.part d a env)=zp p N left' th'->Cont p n0 lb b2 b3 pv left' th' g h l9 R)
  (x1 x4 x5 x6 x7 x8 x9 x10 x11 x12 x13 x14 x15 x16 x17 x18 x19 x20 x21:AV):f184_J11 (zb t stdI n) k l9 (.ptr lb 0) x1 (.ptr b2 0) (.ptr b3 0) x4 x5 x6 x7 x8 x9 x10 x11 x12 x13 x14 x15 x16 x17 x18 x19 x20 x21 h=R:=by
 have hev:=zav (N:=N) (left:=left) s;have S0:=S;obtain⟨un,gn,i0,i2,i3,i23,j2,j3,ll,l2,l3,dl,d2,d3,lat,tpc,wf,l1000⟩:=S;have tpc0:=tpc;obtain⟨bv,tv,rows,h1,eb,eo,us,w,rfl,hb,hnb,hr,hl',hen,eh1,u1,n1,k1,kl,st1,q1,q20,q3,g0,g1,g2,g3,heb,ne1,ne2,ne3,b1,b11,cl,ol,c2,o3,o2,c21,o31,o21,ne4,ne5,es,sset,tset⟩:=S0.ctx (β:=β) s;have hev:zp p (N+1) (left+1) (.part d a env)=(.ok ⟨1,e.num,[]⟩,left):=by rw[hev];simp only;rw[if_pos hq]
 rw[hq] at g0;have bz2:∀(x y:Int) (kc:VK β),zn [.int .i64 0,.int .i64 0,.nils] [(0,1),(1,1)] [.int .i64 x,.int .i64 y] (.mk kc)=kc (.agg [.int .i64 x,.int .i64 y,.nils]):=λx y kc=>rfl
 unfold f184_J11;simp (disch:=first|omega|simp only[zD]<;>omega|assumption) only[↓zR,↓zRM,zR,zRM,reduceAdd,reduceMul,reduceToNat,↓f184_J2,↓f184_J11,↓f184_J10,↓f184_L9,zaT,cl,es,ol,sset,tset,c2,q1,b1,g0,g1,o3,↓bz2];exact S0.fin st1 u1 (by rw[n1];exact gn) kl hk (by rw[hev]) (by rw[hev];exact⟨rfl,rfl,rfl,rfl,.inl ⟨rfl,rfl⟩⟩)
theorem GNM.look_3(TN:GNM t)(n:Nat)(hn:30<=n){p:List Df}{N n0 lb b2 b3:Nat}{pv:AV}{left:Nat}{cs:List AV}{d a:Nat}{env:List Thg}{g h:H}(S:LS p n0 lb b2 b3 pv (left+1) cs (.part d a env) g h){df:Df}{lv:List Int}{e:Ex}(s:Stand p d a env df lv e)(hq:e.kind=3){k:K β}{l9:Cur β 22}{R:Option β}
  (hk:∀u h',zdi p (zp p (N+1) (left+1) (.part d a env)) n0 g h lb pv u h'->k u h'=R)
  (hc:∀th' left',left'<=left->zp p (N+1) (left+1) (.part d a env)=zp p N left' th'->Cont p n0 lb b2 b3 pv left' th' g h l9 R)
  (x1 x4 x5 x6 x7 x8 x9 x10 x11 x12 x13 x14 x15 x16 x17 x18 x19 x20 x21:AV):f184_J11 (zb t stdI n) k l9 (.ptr lb 0) x1 (.ptr b2 0) (.ptr b3 0) x4 x5 x6 x7 x8 x9 x10 x11 x12 x13 x14 x15 x16 x17 x18 x19 x20 x21 h=R:=by
 have hev:=zav (N:=N) (left:=left) s;have S0:=S;obtain⟨un,gn,i0,i2,i3,i23,j2,j3,ll,l2,l3,dl,d2,d3,lat,tpc,wf,l1000⟩:=S;have tpc0:=tpc;obtain⟨bv,tv,rows,h1,eb,eo,us,w,rfl,hb,hnb,hr,hl',hen,eh1,u1,n1,k1,kl,st1,q1,q20,q3,g0,g1,g2,g3,heb,ne1,ne2,ne3,b1,b11,cl,ol,c2,o3,o2,c21,o31,o21,ne4,ne5,es,sset,tset⟩:=S0.ctx (β:=β) s;have hev:zp p (N+1) (left+1) (.part d a env)=(.ok ⟨2,e.num,zaA d env e.kids⟩,left):=by rw[hev];simp only;rw[if_neg (by omega),if_neg (by omega),if_neg (by omega),if_pos hq]
 rw[hq] at g0;have bx:InAt 4 h1 b2 0 [.str [],bv,.int .i64 (a:Int),tv]:=(InAt.own (cs:=[.str [],bv,.int .i64 (a:Int),tv]) (by omega) ((k1 b2 (by omega)).trans l2):InAt 4 h1 b2 0 _)
 have bk:=s.part.kidsLen;have be:=s.env8;have W:=TN.w206 (β:=β) n u1 bx tpc0 s.hd s.he (s.kidsWf (by omega) (by omega)).1 (by omega) (by omega) (by omega);unfold f184_J11;simp (disch:=first|omega|simp only[zD]<;>omega|assumption) only[↓zR,↓zRM,zR,zRM,reduceAdd,reduceMul,reduceToNat,↓f184_J2,↓f184_J11,↓f184_J10,↓f184_L9,zaT,cl,es,ol,sset,tset,c2,q1,b1,g0,g1,eq_false (show ¬ (3:Int)=0 by decide),eq_false (show ¬ (3:Int)=1 by decide),eq_false (show ¬ (3:Int)=2 by decide)];refine W _ _ ?_;intro u h2 ⟨e2,usc,made⟩;obtain⟨gX,GX,UX,NX,newX⟩:=u1.grow (by rw[n1];exact gn) e2;have:=e2.n
 have b2x:(h2.get eb).cells=some us:=by rw[e2.get _ (by omega)];exact b11
 have o32:zB (h2.get b3)=some (0,[.int .i64 0,.int .i64 0,.nils]):=by rw[e2.get _ (by omega)];exact o31
 have bz3:∀(x y:Int) (kc:VK β),zn [.int .i64 0,.int .i64 0,.nils] [(0,1),(1,1),(2,1)] [.int .i64 x,.int .i64 y,u] (.mk kc)=kc (.agg [.int .i64 x,.int .i64 y,u]):=λx y kc=>by
  rw[zau _ _ _ _ _ _ (by simp),zau _ _ _ _ _ _ (by simp),zar _ _ _ _ usc _ (by simp),zaS];rfl
 have st2:Lst n0 lb g h gX h2:=⟨GX,by omega,λi hi hne=>by rw[e2.get i (by omega)];exact k1 i hne⟩
 simp (disch:=first|omega|simp only[zD]<;>omega|assumption) only[↓zR,↓zRM,zR,zRM,reduceAdd,reduceMul,reduceToNat,↓f184_J2,↓f184_J11,↓f184_J10,↓f184_L9,b2x,g1,zfP,↓bz3,o32];exact S0.fin st2 UX NX (by rw[e2.get _ (by omega)];exact kl) hk (by rw[hev]) (by rw[hev];exact⟨rfl,rfl,rfl,usc,made gX GX.un (by omega) newX⟩)
theorem GNM.look_7(TN:GNM t)(n:Nat)(hn:30<=n){p:List Df}{N n0 lb b2 b3:Nat}{pv:AV}{left:Nat}{cs:List AV}{d a:Nat}{env:List Thg}{g h:H}(S:LS p n0 lb b2 b3 pv (left+1) cs (.part d a env) g h){df:Df}{lv:List Int}{e:Ex}(s:Stand p d a env df lv e)(hq:e.kind≠0/\e.kind≠1/\e.kind≠2/\e.kind≠3/\e.kind≠4/\e.kind≠5/\e.kind≠6){k:K β}{l9:Cur β 22}{R:Option β}
  (hk:∀u h',zdi p (zp p (N+1) (left+1) (.part d a env)) n0 g h lb pv u h'->k u h'=R)
  (hc:∀th' left',left'<=left->zp p (N+1) (left+1) (.part d a env)=zp p N left' th'->Cont p n0 lb b2 b3 pv left' th' g h l9 R)
  (x1 x4 x5 x6 x7 x8 x9 x10 x11 x12 x13 x14 x15 x16 x17 x18 x19 x20 x21:AV):f184_J11 (zb t stdI n) k l9 (.ptr lb 0) x1 (.ptr b2 0) (.ptr b3 0) x4 x5 x6 x7 x8 x9 x10 x11 x12 x13 x14 x15 x16 x17 x18 x19 x20 x21 h=R:=by
 have hev:=zav (N:=N) (left:=left) s;have S0:=S;obtain⟨un,gn,i0,i2,i3,i23,j2,j3,ll,l2,l3,dl,d2,d3,lat,tpc,wf,l1000⟩:=S;have tpc0:=tpc;obtain⟨bv,tv,rows,h1,eb,eo,us,w,rfl,hb,hnb,hr,hl',hen,eh1,u1,n1,k1,kl,st1,q1,q20,q3,g0,g1,g2,g3,heb,ne1,ne2,ne3,b1,b11,cl,ol,c2,o3,o2,c21,o31,o21,ne4,ne5,es,sset,tset⟩:=S0.ctx (β:=β) s;obtain⟨c0,cA,cB,cC,cD,cE,cF⟩:=hq;have hev:zp p (N+1) (left+1) (.part d a env)=(.ok zbI,left):=by rw[hev];simp only;rw[if_neg c0,if_neg cA,if_neg cB,if_neg cC,if_neg cD,if_neg cE,if_neg cF]
 obtain⟨m,rfl⟩:∃m,n=m+1:=⟨n-1,by omega⟩
 have W:=TN.w209 (β:=β) m h1;unfold f184_J11;simp (disch:=first|omega|simp only[zD]<;>omega|assumption) only[↓zR,↓zRM,zR,zRM,reduceAdd,reduceMul,reduceToNat,↓f184_J2,↓f184_J11,↓f184_J10,↓f184_L9,zaT,cl,es,ol,sset,tset,c2,q1,b1,g0,eq_false c0,eq_false cA,eq_false cB,eq_false cC,eq_false cD,eq_false cE,eq_false cF];refine W _ _ ?_;intro u h2 ⟨e2,eu⟩;subst eu;obtain⟨gX,GX,UX,NX,newX⟩:=u1.grow (by rw[n1];exact gn) e2;have:=e2.n
 have o32:zB (h2.get b3)=some (0,[.int .i64 0,.int .i64 0,.nils]):=by rw[e2.get _ (by omega)];exact o31
 have st2:Lst n0 lb g h gX h2:=⟨GX,by omega,λi hi hne=>by rw[e2.get i (by omega)];exact k1 i hne⟩
 simp (disch:=first|omega|simp only[zD]<;>omega|assumption) only[↓zR,↓zRM,zR,zRM,reduceAdd,reduceMul,reduceToNat,↓f184_J2,↓f184_J11,↓f184_J10,↓f184_L9,o32];exact S0.fin st2 UX NX (by rw[e2.get _ (by omega)];exact kl) hk (by rw[hev]) (by rw[hev];exact⟨rfl,rfl,rfl,rfl,.inl ⟨rfl,rfl⟩⟩)
theorem GNM.look_1(TN:GNM t)(n:Nat)(hn:30<=n){p:List Df}{N n0 lb b2 b3:Nat}{pv:AV}{left:Nat}{cs:List AV}{d a:Nat}{env:List Thg}{g h:H}(S:LS p n0 lb b2 b3 pv (left+1) cs (.part d a env) g h){df:Df}{lv:List Int}{e:Ex}(s:Stand p d a env df lv e)(hq:e.kind=1){k:K β}{l9:Cur β 22}{R:Option β}
  (hk:∀u h',zdi p (zp p (N+1) (left+1) (.part d a env)) n0 g h lb pv u h'->k u h'=R)
  (hc:∀th' left',left'<=left->zp p (N+1) (left+1) (.part d a env)=zp p N left' th'->Cont p n0 lb b2 b3 pv left' th' g h l9 R)
  (x1 x4 x5 x6 x7 x8 x9 x10 x11 x12 x13 x14 x15 x16 x17 x18 x19 x20 x21:AV):f184_J11 (zb t stdI n) k l9 (.ptr lb 0) x1 (.ptr b2 0) (.ptr b3 0) x4 x5 x6 x7 x8 x9 x10 x11 x12 x13 x14 x15 x16 x17 x18 x19 x20 x21 h=R:=by
 have hev:=zav (N:=N) (left:=left) s;have S0:=S;obtain⟨un,gn,i0,i2,i3,i23,j2,j3,ll,l2,l3,dl,d2,d3,lat,tpc,wf,l1000⟩:=S;have tpc0:=tpc;obtain⟨bv,tv,rows,h1,eb,eo,us,w,rfl,hb,hnb,hr,hl',hen,eh1,u1,n1,k1,kl,st1,q1,q20,q3,g0,g1,g2,g3,heb,ne1,ne2,ne3,b1,b11,cl,ol,c2,o3,o2,c21,o31,o21,ne4,ne5,es,sset,tset⟩:=S0.ctx (β:=β) s;have hev:zp p (N+1) (left+1) (.part d a env)=zp p N left (env.getD e.num.toNat default):=by rw[hev];simp only;rw[if_neg (by omega),if_pos hq]
 rw[hq] at g0;have bx:InAt 4 h1 b2 0 [.str [],bv,.int .i64 (a:Int),tv]:=(InAt.own (cs:=[.str [],bv,.int .i64 (a:Int),tv]) (by omega) ((k1 b2 (by omega)).trans l2):InAt 4 h1 b2 0 _)
 have bk:=s.part.kidsLen;have be:=s.env8;obtain⟨y0,y1⟩:=bk.2.2.2.2.1 hq;have hl2:=s.hl;obtain⟨j,hj⟩:∃j:Nat,e.num=j:=⟨e.num.toNat,by omega⟩
 have hjt:e.num.toNat=j:=by omega
 rw[hj] at g1;obtain⟨x,hx⟩:∃x,env[j]?=some x:=⟨_,List.getElem?_eq_getElem (by omega)⟩
 obtain⟨r,hrr⟩:∃r,rows[j]?=some r:=⟨_,List.getElem?_eq_getElem (by omega)⟩
 have ht:=hen j r x hrr hx;have hgd:env.getD e.num.toNat default=x:=by rw[hjt,List.getD_eq_getElem?_getD,hx];rfl
 rw[hgd] at hev;have r4:=ht.len;obtain⟨tb,to,tcs,t1,t2,t3,_⟩:=hr.at (β:=β) hrr;subst t3;obtain⟨t20,tus,t4,t5,t6⟩:=t2;have tne:tb≠lb:=λhh=>(by rw[hh,dl] at t4;cases t4)
 have t7:(h.get tb).cells=some tus:=by rw[un.get tb t20 (by rw[t4];simp)];exact t4
 obtain⟨r0,r1,r2,r3,rfl⟩:∃r0 r1 r2 r3,tcs=[r0,r1,r2,r3]:=by
  match tcs,r4 with
  | [r0,r1,r2,r3],_=>exact⟨_,_,_,_,rfl⟩
 have tl:([r0,r1,r2,r3]:List AV).length=4:=rfl;have pu:zW [.str [],bv,.int .i64 (a:Int),tv] 0 [r0,r1,r2,r3]=[r0,r1,r2,r3]:=rfl;obtain⟨h2,eh2⟩:∃h2,h2=h1.set b2 (.own 0 [r0,r1,r2,r3]):=⟨_,rfl⟩
 have k2:∀i,i≠b2->h2.get i=h1.get i:=λi hi=>by rw[eh2,zg (by omega)]
 have u2:Un g h2:=by rw[eh2];exact u1.set d2 _
 have n2:h2.n=h1.n:=by rw[eh2,H.n_set]
 have st2:Lst n0 lb g h g h2:=⟨Gh.refl g,by omega,λi hi hne=>by rw[k2 i (by omega)];exact k1 i hne⟩
 have wx:WF p x:=s.wf x (List.mem_of_getElem? hx);have S2:LS p n0 lb b2 b3 pv left [r0,r1,r2,r3] x g h2:=⟨u2,by omega,i0,i2,i3,i23,by omega,by omega,by rw[k2 _ (by omega)];exact kl,by rw[eh2,zl rfl],by rw[k2 _ (by omega),k1 _ (by omega)];exact l3,dl,d2,d3,lat,ht,wx,by omega⟩
 unfold f184_J11;simp (disch:=first|omega|simp only[zD]<;>omega|assumption) only[↓zR,↓zRM,zR,zRM,reduceAdd,reduceMul,reduceToNat,↓f184_J2,↓f184_J11,↓f184_J10,↓f184_L9,zaT,cl,es,ol,sset,tset,c2,q1,b1,g0,g1,t1,t7,t6,tl,o2,pu,eq_false (show ¬ (1:Int)=0 by decide)];rw[<- eh2];exact hc x left (Nat.le_refl _) hev _ _ _ _ _ _ _ _ _ _ _ _ _ _ _ _ _ _ _ _ _ _ S2 st2
theorem GNM.w205g(TN:GNM t)(n:Nat){g h:H}(ug:Un g h){lb:Nat}{pv left:AV}(hlb:lb<h.n)(hl:(h.get lb).cells=some [pv,left]){p:List Df}(hp:LAt 2 DfC g pv p){f:Nat}{df:Df}(hf:p[f]?=some df){tv:AV}(htv:tv.sc=true)(hbl:1<=df.body.length)(hbl2:df.body.length<=9223372036854775807) :
  Sp (β:=β) (zb t stdI (n+1) (.fn 205 []) [.ptr lb 0,.int .i64 (f:Int),tv] h) λu h'=>Ext h h'/\∃bv,u = .agg [.str [],bv,.int .i64 ((df.body.length-1:Nat):Int),tv]/\LAt 4 ExC g bv df.body/\bv ≠ .nils:=by
 intro kk R hkk;obtain⟨b,o,cs,a1,a2,bv,rfl,a3⟩:=hp.at (β:=β) hf;obtain⟨us,b1,b2,b3,b4⟩:=a2.get;have g1:=b4 1 _ rfl;have hb:b<h.n:=Nat.lt_of_lt_of_le a2.1 ug.n;have b1:(h.get b).cells=some us:=by rw[ug.get b a2.1 (by rw[b1];simp)];exact b1
 have lbv:=a3.len (β:=β);have bsc:=a3.sc;have hnb:bv ≠ .nils:=by
  rcases a3 with⟨_,h0⟩|⟨_,_,_,_,_,rfl,_⟩
  ·rw[h0] at hbl;simp at hbl
  ·intro hh;cases hh
 have e:(df.body.length:Int)-1=((df.body.length-1:Nat):Int):=by omega
 have bu:∀kc:VK β,zn [.str [],.nils,.int .i64 0,.nils] [(1,1),(2,1),(3,1)] [bv,.int .i64 ((df.body.length:Int)-1),tv] (.mk kc)=kc (.agg [.str [],bv,.int .i64 ((df.body.length:Int)-1),tv]):=λkc=>by
  rw[zar _ _ _ _ bsc _ (by simp),zau _ _ _ _ _ _ (by simp),zar _ _ _ _ htv _ (by simp),zaS];rfl
 rw[TN.c205];unfold f205;simp (disch:=first|omega|simp only[zD]<;>omega|assumption) only[↓zR,↓zRM,zR,zRM,reduceAdd,reduceMul,reduceToNat,zaT,hl,a1,b1,g1,lbv,↓bu];exact hkk _ _ ⟨((Ext.refl h).push _).set (Nat.le_refl _) _,bv,by rw[e],a3,hnb⟩
theorem GNM.look_2(TN:GNM t)(n:Nat)(hn:30<=n){p:List Df}{N n0 lb b2 b3:Nat}{pv:AV}{left:Nat}{cs:List AV}{d a:Nat}{env:List Thg}{g h:H}(S:LS p n0 lb b2 b3 pv (left+1) cs (.part d a env) g h){df:Df}{lv:List Int}{e:Ex}(s:Stand p d a env df lv e)(hq:e.kind=2)(hpm:zJ p=true){k:K β}{l9:Cur β 22}{R:Option β}
  (hk:∀u h',zdi p (zp p (N+1) (left+1) (.part d a env)) n0 g h lb pv u h'->k u h'=R)
  (hc:∀th' left',left'<=left->zp p (N+1) (left+1) (.part d a env)=zp p N left' th'->Cont p n0 lb b2 b3 pv left' th' g h l9 R)
  (x1 x4 x5 x6 x7 x8 x9 x10 x11 x12 x13 x14 x15 x16 x17 x18 x19 x20 x21:AV):f184_J11 (zb t stdI n) k l9 (.ptr lb 0) x1 (.ptr b2 0) (.ptr b3 0) x4 x5 x6 x7 x8 x9 x10 x11 x12 x13 x14 x15 x16 x17 x18 x19 x20 x21 h=R:=by
 have hev:=zav (N:=N) (left:=left) s;have S0:=S;obtain⟨un,gn,i0,i2,i3,i23,j2,j3,ll,l2,l3,dl,d2,d3,lat,tpc,wf,l1000⟩:=S;have tpc0:=tpc;obtain⟨bv,tv,rows,h1,eb,eo,us,w,rfl,hb,hnb,hr,hl',hen,eh1,u1,n1,k1,kl,st1,q1,q20,q3,g0,g1,g2,g3,heb,ne1,ne2,ne3,b1,b11,cl,ol,c2,o3,o2,c21,o31,o21,ne4,ne5,es,sset,tset⟩:=S0.ctx (β:=β) s;have hev:zp p (N+1) (left+1) (.part d a env)=zp p N left (.part e.num.toNat ((zbt p e.num.toNat).length-1) (zaA d env e.kids)):=by rw[hev];simp only;rw[if_neg (by omega),if_neg (by omega),if_pos hq]
 rw[hq] at g0;have bx:InAt 4 h1 b2 0 [.str [],bv,.int .i64 (a:Int),tv]:=(InAt.own (cs:=[.str [],bv,.int .i64 (a:Int),tv]) (by omega) ((k1 b2 (by omega)).trans l2):InAt 4 h1 b2 0 _)
 have bk:=s.part.kidsLen;have be:=s.env8;obtain⟨df',z1,z2,z3,z4,z5,z6⟩:=s.call hpm hq;rw[z6] at hev;obtain⟨f,hf⟩:∃f:Nat,e.num=f:=⟨e.num.toNat,by omega⟩
 have hft:e.num.toNat=f:=by omega
 rw[hft] at hev z1 z5;rw[hf] at g1;obtain⟨m,rfl⟩:∃m,n=m+1:=⟨n-1,by omega⟩
 have W:=TN.w206 (β:=β) (m+1) u1 bx tpc0 s.hd s.he (s.kidsWf (by omega) (by omega)).1 (by omega) (by omega) (by omega);unfold f184_J11;simp (disch:=first|omega|simp only[zD]<;>omega|assumption) only[↓zR,↓zRM,zR,zRM,reduceAdd,reduceMul,reduceToNat,↓f184_J2,↓f184_J11,↓f184_J10,↓f184_L9,zaT,cl,es,ol,sset,tset,c2,q1,b1,g0,g1,eq_false (show ¬ (2:Int)=0 by decide),eq_false (show ¬ (2:Int)=1 by decide)];refine W _ _ ?_;intro u h2 ⟨e2,usc,made⟩;obtain⟨gX,GX,UX,NX,newX⟩:=u1.grow (by rw[n1];exact gn) e2;have:=e2.n
 have b2x:(h2.get eb).cells=some us:=by rw[e2.get _ (by omega)];exact b11
 have cl2:h2.get lb = .own 0 [pv,.int .i64 (left:Int)]:=by rw[e2.get _ (by omega)];exact kl
 have W2:=TN.w205g (β:=β) (lb:=lb) m UX (by omega) (by rw[cl2];rfl) (lat.un DfC.staysU GX.un) z1 usc z3 (by omega);simp (disch:=first|omega|simp only[zD]<;>omega|assumption) only[↓zR,↓zRM,zR,zRM,reduceAdd,reduceMul,reduceToNat,↓f184_J2,↓f184_J11,↓f184_J10,↓f184_L9,b2x,g1,zfP];refine W2 _ _ ?_;intro u3 h3 ⟨e3,bv',eu3,lbv',hnb'⟩;subst eu3;obtain⟨gY,GY,UY,NY,newY⟩:=UX.grow NX e3;have:=e3.n
 have e23:=e2.trans e3;have o23:zB (h3.get b2)=some (0,[.str [],bv,.int .i64 (a:Int),tv]):=by rw[e23.get _ (by omega)];exact o21
 have pu:zW [.str [],bv,.int .i64 (a:Int),tv] 0 [.str [],bv',.int .i64 ((df'.body.length-1:Nat):Int),u]=[.str [],bv',.int .i64 ((df'.body.length-1:Nat):Int),u]:=rfl;have GG:=GX.trans GY;have d2Y:=GG.hid b2 (by omega) d2;obtain⟨h4,eh4⟩:∃h4,h4=h3.set b2 (.own 0 [.str [],bv',.int .i64 ((df'.body.length-1:Nat):Int),u]):=⟨_,rfl⟩
 have k4:∀i,i≠b2->h4.get i=h3.get i:=λi hi=>by rw[eh4,zg (by omega)]
 have u4:Un gY h4:=by rw[eh4];exact UY.set d2Y _
 have n4:h4.n=h3.n:=by rw[eh4,H.n_set]
 have lk:=made gX GX.un (by omega) newX;obtain⟨rws,r1,r2,r3⟩:=lk.rows;have tp:TPC p gY [.str [],bv',.int .i64 ((df'.body.length-1:Nat):Int),u] (.part f (df'.body.length-1) (zaA d env e.kids)):=.part z1 (lbv'.un ExC.staysU GY.un) hnb' rws (r1.un RowC.staysU GY.un) r2 λj r x hr hx=>(r3 j r x hr hx).un GY.un
 have st4:Lst n0 lb g h gY h4:=⟨GG,by omega,λi hi hne=>by rw[k4 i (by omega),e23.get i (by omega)];exact k1 i hne⟩
 have S4:LS p n0 lb b2 b3 pv left [.str [],bv',.int .i64 ((df'.body.length-1:Nat):Int),u] (.part f (df'.body.length-1) (zaA d env e.kids)) gY h4:=⟨u4,by omega,i0,i2,i3,i23,by omega,by omega,by rw[k4 _ (by omega),e23.get _ (by omega)];exact kl,by rw[eh4,zl rfl],by rw[k4 _ (by omega),e23.get _ (by omega),k1 _ (by omega)];exact l3,GG.hid lb (by omega) dl,d2Y,GG.hid b3 (by omega) d3,lat.un DfC.staysU GG.un,tp,z5,by omega⟩
 simp (disch:=first|omega|simp only[zD]<;>omega|assumption) only[↓zR,↓zRM,zR,zRM,reduceAdd,reduceMul,reduceToNat,↓f184_J2,↓f184_J11,↓f184_J10,↓f184_L9,o23,pu];rw[<- eh4];exact hc _ left (Nat.le_refl _) hev _ _ _ _ _ _ _ _ _ _ _ _ _ _ _ _ _ _ _ _ _ _ S4 st4
theorem zaZ(p:List Df)(g:H):LAt 4 (TPC p) g .nils []:=.inl ⟨rfl,rfl⟩
theorem GNM.look_4(TN:GNM t)(TL:GA t)(n:Nat)(hn:30<=n){p:List Df}{N n0 lb b2 b3:Nat}{pv:AV}{left:Nat}{cs:List AV}{d a:Nat}{env:List Thg}{g h:H}(S:LS p n0 lb b2 b3 pv (left+1) cs (.part d a env) g h){df:Df}{lv:List Int}{e:Ex}(s:Stand p d a env df lv e)(hq:e.kind=4)(hp5:zd2 t p N (n-1))(hleft:left<N){k:K β}{l9:Cur β 22}{R:Option β}
  (hk:∀u h',zdi p (zp p (N+1) (left+1) (.part d a env)) n0 g h lb pv u h'->k u h'=R)
  (hc:∀th' left',left'<=left->zp p (N+1) (left+1) (.part d a env)=zp p N left' th'->Cont p n0 lb b2 b3 pv left' th' g h l9 R)
  (x1 x4 x5 x6 x7 x8 x9 x10 x11 x12 x13 x14 x15 x16 x17 x18 x19 x20 x21:AV):f184_J11 (zb t stdI n) k l9 (.ptr lb 0) x1 (.ptr b2 0) (.ptr b3 0) x4 x5 x6 x7 x8 x9 x10 x11 x12 x13 x14 x15 x16 x17 x18 x19 x20 x21 h=R:=by
 have hev:=zav (N:=N) (left:=left) s;have S0:=S;obtain⟨un,gn,i0,i2,i3,i23,j2,j3,ll,l2,l3,dl,d2,d3,lat,tpc,wf,l1000⟩:=S;have tpc0:=tpc;obtain⟨bv,tv,rows,h1,eb,eo,us,w,rfl,hb,hnb,hr,hl',hen,eh1,u1,n1,k1,kl,st1,q1,q20,q3,g0,g1,g2,g3,heb,ne1,ne2,ne3,b1,b11,cl,ol,c2,o3,o2,c21,o31,o21,ne4,ne5,es,sset,tset⟩:=S0.ctx (β:=β) s;have hev:zp p (N+1) (left+1) (.part d a env)=zcH p N left e.num (.part d (e.kids.getD 0 0).toNat env) (.part d (e.kids.getD 1 0).toNat env):=by rw[hev];simp only;rw[if_neg (by omega),if_neg (by omega),if_neg (by omega),if_neg (by omega),if_pos hq];rfl
 rw[hq] at g0;have bx:InAt 4 h1 b2 0 [.str [],bv,.int .i64 (a:Int),tv]:=(InAt.own (cs:=[.str [],bv,.int .i64 (a:Int),tv]) (by omega) ((k1 b2 (by omega)).trans l2):InAt 4 h1 b2 0 _)
 have bk:=s.part.kidsLen;have be:=s.env8;obtain⟨bk4,bk5,bk6,bk3,bk1,bkk,bkb,bkn⟩:=bk;have hk2:=bk4 hq;have hm0:more e 0=0:=by unfold more;simp[hq]
 have hm1:more e 1=0:=by unfold more;simp[hq]
 have hka:e.kids[0]?=some (e.kids.getD 0 0):=getD_some (by omega);have hkb:e.kids[1]?=some (e.kids.getD 1 0):=getD_some (by omega);obtain⟨pa,wa⟩:=s.kid0 hka hm0;obtain⟨pb,wb⟩:=s.kid0 hkb hm1;obtain⟨m,rfl⟩:∃m,n=m+1:=⟨n-1,by omega⟩
 have W:=TN.w208 (β:=β) (m+1) (by omega) u1 bx tpc0 s.hd s.he (k:=0) hka pa (zaZ p g) (by simp only[List.length_nil];omega);unfold f184_J11;simp (disch:=first|omega|simp only[zD]<;>omega|assumption) only[↓zR,↓zRM,zR,zRM,reduceAdd,reduceMul,reduceToNat,↓f184_J2,↓f184_J11,↓f184_J10,↓f184_L9,zaT,cl,es,ol,sset,tset,c2,q1,b1,g0,g1,eq_false (show ¬ (4:Int)=0 by decide),eq_false (show ¬ (4:Int)=1 by decide),eq_false (show ¬ (4:Int)=2 by decide),eq_false (show ¬ (4:Int)=3 by decide)];refine W _ _ ?_;intro u h2 ⟨e2,ca,eca,la,madea⟩;subst eca;obtain⟨gX,GX,UX,NX,newX⟩:=u1.grow (by rw[n1];exact gn) e2;have:=e2.n
 have b2x:(h2.get eb).cells=some us:=by rw[e2.get _ (by omega)];exact b11
 have ta:=madea gX GX.un (by omega) newX;rw[List.append_nil] at ta;have bx2:InAt 4 h2 b2 0 [.str [],bv,.int .i64 (a:Int),tv]:=bx.ext e2;have W2:=TN.w208 (β:=β) (m+1) (by omega) UX bx2 (tpc0.un GX.un) s.hd s.he (k:=1) hkb pb (zaZ p gX) (by simp only[List.length_nil];omega);simp (disch:=first|omega|simp only[zD]<;>omega|assumption) only[↓zR,↓zRM,zR,zRM,reduceAdd,reduceMul,reduceToNat,↓f184_J2,↓f184_J11,↓f184_J10,↓f184_L9,b2x,g1,zfP];refine W2 _ _ ?_;intro u3 h3 ⟨e3,cb,ecb,lb3,madeb⟩;subst ecb;obtain⟨gY,GY,UY,NY,newY⟩:=UX.grow NX e3;have:=e3.n
 have e23:=e2.trans e3;have b3x:(h3.get eb).cells=some us:=by rw[e23.get _ (by omega)];exact b11
 have tb:=madeb gY GY.un (by omega) newY;rw[List.append_nil] at tb;have GG:=GX.trans GY;have st3:Lst n0 lb g h gY h3:=⟨GG,by omega,λi hi hne=>by rw[e23.get i (by omega)];exact k1 i hne⟩
 have W3:=TN.w207 (β:=β) TL m (by omega) hp5 (lb:=lb) UY NY (by omega) (GG.hid lb (by omega) dl) (by rw[e23.get _ (by omega)];exact kl) (lat.un DfC.staysU GG.un) (op:=e.num) (bkn hq) (ta.un GY.un) tb wa wb hleft (by omega);simp (disch:=first|omega|simp only[zD]<;>omega|assumption) only[↓zR,↓zRM,zR,zRM,reduceAdd,reduceMul,reduceToNat,↓f184_J2,↓f184_J11,↓f184_J10,↓f184_L9,b3x,g1,zfP];refine W3 _ _ ?_;intro u4 h4 ⟨g4,G4,U4,N4,le4,same4,lb4,res4⟩;have o34:zB (h4.get b3)=some (0,[.int .i64 0,.int .i64 0,.nils]):=by rw[same4 _ (by omega) (by omega),e23.get _ (by omega)];exact o31
 have st4:Lst n0 lb g h g4 h4:=⟨GG.trans G4,by omega,λi hi hne=>by rw[same4 i (by omega) hne,e23.get i (by omega)];exact k1 i hne⟩
 generalize hr:zcH p N left e.num (.part d (e.kids.getD 0 0).toNat env) (.part d (e.kids.getD 1 0).toNat env)=r at res4 lb4 hev;obtain⟨rs,l4⟩:=r;cases rs with
 | bad c=>
  obtain⟨rfl,hcc⟩:=res4;unfold zdt;simp (disch:=first|omega|simp only[zD]<;>omega|assumption) only[↓zR,↓zRM,zR,zRM,reduceAdd,reduceMul,reduceToNat,↓f184_J2,↓f184_J11,↓f184_J10,↓f184_L9,o34];exact S0.fin st4 U4 N4 lb4 hk (by rw[hev]) (by rw[hev];exact⟨rfl,rfl,rfl,rfl,hcc⟩)
 | ok fd=>
  obtain⟨w4,rfl,hw4,hp4⟩:=res4;simp (disch:=first|omega|simp only[zD]<;>omega|assumption) only[↓zR,↓zRM,zR,zRM,reduceAdd,reduceMul,reduceToNat,↓f184_J2,↓f184_J11,↓f184_J10,↓f184_L9,o34];exact S0.fin st4 U4 N4 lb4 hk (by rw[hev]) (by rw[hev];exact⟨rfl,rfl,rfl,hw4,hp4⟩)
theorem GNM.look_6(TN:GNM t)(n:Nat)(hn:30<=n){p:List Df}{N n0 lb b2 b3:Nat}{pv:AV}{left:Nat}{cs:List AV}{d a:Nat}{env:List Thg}{g h:H}(S:LS p n0 lb b2 b3 pv (left+1) cs (.part d a env) g h){df:Df}{lv:List Int}{e:Ex}(s:Stand p d a env df lv e)(hq:e.kind=6){k:K β}{l9:Cur β 22}{R:Option β}
  (hk:∀u h',zdi p (zp p (N+1) (left+1) (.part d a env)) n0 g h lb pv u h'->k u h'=R)
  (hc:∀th' left',left'<=left->zp p (N+1) (left+1) (.part d a env)=zp p N left' th'->Cont p n0 lb b2 b3 pv left' th' g h l9 R)
  (x1 x4 x5 x6 x7 x8 x9 x10 x11 x12 x13 x14 x15 x16 x17 x18 x19 x20 x21:AV):f184_J11 (zb t stdI n) k l9 (.ptr lb 0) x1 (.ptr b2 0) (.ptr b3 0) x4 x5 x6 x7 x8 x9 x10 x11 x12 x13 x14 x15 x16 x17 x18 x19 x20 x21 h=R:=by
 have hev:=zav (N:=N) (left:=left) s;have S0:=S;obtain⟨un,gn,i0,i2,i3,i23,j2,j3,ll,l2,l3,dl,d2,d3,lat,tpc,wf,l1000⟩:=S;have tpc0:=tpc;obtain⟨bv,tv,rows,h1,eb,eo,us,w,rfl,hb,hnb,hr,hl',hen,eh1,u1,n1,k1,kl,st1,q1,q20,q3,g0,g1,g2,g3,heb,ne1,ne2,ne3,b1,b11,cl,ol,c2,o3,o2,c21,o31,o21,ne4,ne5,es,sset,tset⟩:=S0.ctx (β:=β) s;have hev:zp p (N+1) (left+1) (.part d a env)=zp p N left (.part d (e.kids.getD 1 0).toNat (env++[.part d (e.kids.getD 0 0).toNat env])):=by rw[hev];simp only;rw[if_neg (by omega),if_neg (by omega),if_neg (by omega),if_neg (by omega),if_neg (by omega),if_neg (by omega),if_pos hq]
 rw[hq] at g0;have bx:InAt 4 h1 b2 0 [.str [],bv,.int .i64 (a:Int),tv]:=(InAt.own (cs:=[.str [],bv,.int .i64 (a:Int),tv]) (by omega) ((k1 b2 (by omega)).trans l2):InAt 4 h1 b2 0 _)
 have bk:=s.part.kidsLen;have be:=s.env8;obtain⟨bk4,bk5,bk6,bk3,bk1,bkk,bkb,bkn⟩:=bk;have hk2:=bk6 hq;have hm0:more e 0=0:=by unfold more;simp[hq]
 have hm1:more e 1=1:=by unfold more;simp[hq]
 have hka:e.kids[0]?=some (e.kids.getD 0 0):=getD_some (by omega);have hkb:e.kids[1]?=some (e.kids.getD 1 0):=getD_some (by omega);obtain⟨pa,wa⟩:=s.kid0 hka hm0;obtain⟨pb,wb⟩:=s.kid hkb (more':=[.part d (e.kids.getD 0 0).toNat env]) (by simp only[List.length_cons,List.length_nil];rw[show ((1:Nat):Int)=1 from rfl] at *;omega) (λx hx=>by simp only[List.mem_cons,List.not_mem_nil,or_false] at hx;subst hx;exact wa);have W:=TN.w208 (β:=β) n (by omega) u1 bx tpc0 s.hd s.he (k:=0) hka pa (zaZ p g) (by simp only[List.length_nil];omega);unfold f184_J11;simp (disch:=first|omega|simp only[zD]<;>omega|assumption) only[↓zR,↓zRM,zR,zRM,reduceAdd,reduceMul,reduceToNat,↓f184_J2,↓f184_J11,↓f184_J10,↓f184_L9,zaT,cl,es,ol,sset,tset,c2,q1,b1,g0,g1,eq_false (show ¬ (6:Int)=0 by decide),eq_false (show ¬ (6:Int)=1 by decide),eq_false (show ¬ (6:Int)=2 by decide),eq_false (show ¬ (6:Int)=3 by decide),eq_false (show ¬ (6:Int)=4 by decide),eq_false (show ¬ (6:Int)=5 by decide)];refine W _ _ ?_;intro u h2 ⟨e2,ca,eca,la,madea⟩;subst eca;obtain⟨h3,eh3⟩:∃h3,h3=h2.push (.own 0 ca):=⟨_,rfl⟩
 have e3:Ext h1 h3:=by rw[eh3];exact e2.push _
 have n3:h3.n=h2.n+1:=by rw[eh3,H.n_push]
 obtain⟨gX,GX,UX,NX,newX⟩:=u1.grow (by rw[n1];exact gn) e3;have:=e2.n
 have ta:=madea gX GX.un (by omega) λi h1' h2'=>by rw[newX i h1' (by omega),eh3,ze (by omega)]
 rw[List.append_nil] at ta;have bx3:InAt 4 h3 b2 0 [.str [],bv,.int .i64 (a:Int),tv]:=bx.ext e3;have lm:LAt 4 (TPC p) gX (.sl h2.n 0 1 1 none) [.part d (e.kids.getD 0 0).toNat env]:=.inr ⟨h2.n,0,1,none,ca,rfl,by omega,by rw[newX _ (by omega) (by omega),eh3,zk rfl];rfl,by simp only[List.length_cons,List.length_nil];omega,λj x hx=>by
  match j,hx with
  | 0,hx=>
   cases hx;have:(ca.drop (0+0*4)).take 4=ca:=by rw[show 0+0*4=0 from rfl,List.drop_zero,List.take_of_length_le (by omega)]
   rw[this];exact ta⟩
 have W2:=TN.w208 (β:=β) n (by omega) UX bx3 (tpc0.un GX.un) s.hd s.he (k:=1) hkb pb lm (by simp only[List.length_cons,List.length_nil];omega);simp (disch:=first|omega|simp only[zD]<;>omega|assumption) only[↓zR,↓zRM,zR,zRM,reduceAdd,reduceMul,reduceToNat,↓f184_J2,↓f184_J11,↓f184_J10,↓f184_L9,↓thRow' la,<- eh3];refine W2 _ _ ?_;intro u4 h4 ⟨e4,cb,ecb,lcb,madeb⟩;subst ecb;obtain⟨gY,GY,UY,NY,newY⟩:=UX.grow NX e4;have:=e4.n
 have e24:=e3.trans e4;have tb:=madeb gY GY.un (by omega) newY;have GG:=GX.trans GY;have d2Y:=GG.hid b2 (by omega) d2;obtain⟨y0,y1,y2,y3,rfl⟩:∃y0 y1 y2 y3,cb=[y0,y1,y2,y3]:=by
  match cb,lcb with
  | [y0,y1,y2,y3],_=>exact⟨_,_,_,_,rfl⟩
 have o24:zB (h4.get b2)=some (0,[.str [],bv,.int .i64 (a:Int),tv]):=by rw[e24.get _ (by omega)];exact o21
 have pu:zW [.str [],bv,.int .i64 (a:Int),tv] 0 [y0,y1,y2,y3]=[y0,y1,y2,y3]:=rfl;obtain⟨h5,eh5⟩:∃h5,h5=h4.set b2 (.own 0 [y0,y1,y2,y3]):=⟨_,rfl⟩
 have k5:∀i,i≠b2->h5.get i=h4.get i:=λi hi=>by rw[eh5,zg (by omega)]
 have u5:Un gY h5:=by rw[eh5];exact UY.set d2Y _
 have n5:h5.n=h4.n:=by rw[eh5,H.n_set]
 have st5:Lst n0 lb g h gY h5:=⟨GG,by omega,λi hi hne=>by rw[k5 i (by omega),e24.get i (by omega)];exact k1 i hne⟩
 have S5:LS p n0 lb b2 b3 pv left [y0,y1,y2,y3] (.part d (e.kids.getD 1 0).toNat (env++[.part d (e.kids.getD 0 0).toNat env])) gY h5:=⟨u5,by omega,i0,i2,i3,i23,by omega,by omega,by rw[k5 _ (by omega),e24.get _ (by omega)];exact kl,by rw[eh5,zl rfl],by rw[k5 _ (by omega),e24.get _ (by omega),k1 _ (by omega)];exact l3,GG.hid lb (by omega) dl,d2Y,GG.hid b3 (by omega) d3,lat.un DfC.staysU GG.un,tb,wb,by omega⟩
 simp (disch:=first|omega|simp only[zD]<;>omega|assumption) only[↓zR,↓zRM,zR,zRM,reduceAdd,reduceMul,reduceToNat,↓f184_J2,↓f184_J11,↓f184_J10,↓f184_L9,o24,pu];rw[<- eh5];exact hc _ left (Nat.le_refl _) hev _ _ _ _ _ _ _ _ _ _ _ _ _ _ _ _ _ _ _ _ _ _ S5 st5
end
end Am.F
end
section
namespace Am.F
open Go Am
section
variable {β:Type} {t:ETree}
set_option maxHeartbeats 0 in
theorem GNM.look_5(TN:GNM t)(n:Nat)(hn:30<=n){p:List Df}{N n0 lb b2 b3:Nat}{pv:AV}{left:Nat}{cs:List AV}{d a:Nat}{env:List Thg}{g h:H}(S:LS p n0 lb b2 b3 pv (left+1) cs (.part d a env) g h){df:Df}{lv:List Int}{e:Ex}(s:Stand p d a env df lv e)(hq:e.kind=5)(hpm:zJ p=true)(hp5:zd2 t p N n)(hleft:left<N){k:K β}{l9:Cur β 22}{R:Option β}
  (hk:∀u h',zdi p (zp p (N+1) (left+1) (.part d a env)) n0 g h lb pv u h'->k u h'=R)
  (hc:∀th' left',left'<=left->zp p (N+1) (left+1) (.part d a env)=zp p N left' th'->Cont p n0 lb b2 b3 pv left' th' g h l9 R)
  (x1 x4 x5 x6 x7 x8 x9 x10 x11 x12 x13 x14 x15 x16 x17 x18 x19 x20 x21:AV):f184_J11 (zb t stdI n) k l9 (.ptr lb 0) x1 (.ptr b2 0) (.ptr b3 0) x4 x5 x6 x7 x8 x9 x10 x11 x12 x13 x14 x15 x16 x17 x18 x19 x20 x21 h=R:=by
 have hev:=zav (N:=N) (left:=left) s;have S0:=S;obtain⟨un,gn,i0,i2,i3,i23,j2,j3,ll,l2,l3,dl,d2,d3,lat,tpc,wf,l1000⟩:=S;have tpc0:=tpc;obtain⟨bv,tv,rows,h1,eb,eo,us,w,rfl,hb,hnb,hr,hl',hen,eh1,u1,n1,k1,kl,st1,q1,q20,q3,g0,g1,g2,g3,heb,ne1,ne2,ne3,b1,b11,cl,ol,c2,o3,o2,c21,o31,o21,ne4,ne5,es,sset,tset⟩:=S0.ctx (β:=β) s;rw[if_neg (by omega),if_neg (by omega),if_neg (by omega),if_neg (by omega),if_neg (by omega),if_pos hq] at hev;rw[hq] at g0;have bx:InAt 4 h1 b2 0 [.str [],bv,.int .i64 (a:Int),tv]:=(InAt.own (cs:=[.str [],bv,.int .i64 (a:Int),tv]) (by omega) ((k1 b2 (by omega)).trans l2):InAt 4 h1 b2 0 _)
 have bk:=s.part.kidsLen;have be:=s.env8;obtain⟨bk4,bk5,bk6,bk3,bk1,bkk,bkb,bkn⟩:=bk;have hk3:=bk5 hq;have hm0:more e 0=0:=by unfold more;simp[hq]
 have hm1:more e 1=e.bind:=by unfold more;simp[hq]
 have hm2:more e 2=0:=by unfold more;simp[hq]
 have hka:e.kids[0]?=some (e.kids.getD 0 0):=getD_some (by omega);have hkb:e.kids[1]?=some (e.kids.getD 1 0):=getD_some (by omega);have hkc:e.kids[2]?=some (e.kids.getD 2 0):=getD_some (by omega);obtain⟨pa,wa⟩:=s.kid0 hka hm0;obtain⟨pc,wc⟩:=s.kid0 hkc hm2;have hok:=zeR hpm N left _ wa;have hle:=zeS p N left (.part d (e.kids.getD 0 0).toNat env);obtain⟨rs,l1,hr1⟩:∃rs l1,zp p N left (.part d (e.kids.getD 0 0).toNat env)=(rs,l1):=⟨_,_,rfl⟩
 rw[hr1] at hok hle hev;have hle:l1<=left:=hle;cases rs with
 | bad c=>
  have hev':zp p (N+1) (left+1) (.part d a env)=(.bad c,l1):=hev;have W:=TN.w208 (β:=β) n (by omega) u1 bx tpc0 s.hd s.he (k:=0) hka pa (zaZ p g) (by simp only[List.length_nil];omega);unfold f184_J11;simp (disch:=first|omega|simp only[zD]<;>omega|assumption) only[↓zR,↓zRM,zR,zRM,reduceAdd,reduceMul,reduceToNat,↓f184_J2,↓f184_J11,↓f184_J10,↓f184_L9,zaT,cl,es,ol,sset,tset,c2,q1,b1,g0,eq_false (show ¬ (5:Int)=0 by decide),eq_false (show ¬ (5:Int)=1 by decide),eq_false (show ¬ (5:Int)=2 by decide),eq_false (show ¬ (5:Int)=3 by decide),eq_false (show ¬ (5:Int)=4 by decide)];refine W _ _ ?_;intro u h2 ⟨e2,ca,eca,la,madea⟩;subst eca;refine Exists.elim (u1.grow (gn.trans n1.symm) e2) λgX hX=>?_
  have GX:=hX.1;have UX:=hX.2.1;have NX:=hX.2.2.1;have newX:=hX.2.2.2
  have:=e2.n
  have ta:=madea gX GX.un (by omega) newX;rw[List.append_nil] at ta;have L1:=hp5 (β:=β) UX NX (lb:=lb) (by omega) (GX.hid lb (by omega) dl) (by rw[e2.get _ (by omega)];exact kl) (lat.un DfC.staysU GX.un) ta wa hleft (by omega);rw[hr1] at L1;refine L1 _ _ ?_;intro u3 h3 ⟨g3',G3,U3,N3,le3,same3,lb3,res3⟩;have k3:∀i,i<h1.n->i≠lb->h3.get i=h1.get i:=λi hi hne=>by rw[same3 i (by omega) hne,e2.get i (by omega)]
  have GG3:=GX.trans G3;have eu3:=(show _/\_ from res3).1;have hcc:=(show _/\_ from res3).2;subst eu3;have c0:¬ c=0:=by omega
  have BX:=U3.box N3 (.own 0 [.int .i64 0,.int .i64 0,.nils]) (.own 0 [.int .i64 0,.int .i64 0,.nils]);have gZ:=BX.1;have uZ:=BX.2.1;have nZ:=BX.2.2.1;have xZ:=BX.2.2.2
  have o33:zB (h3.get b3)=some (0,[.int .i64 0,.int .i64 0,.nils]):=by rw[k3 _ (by omega) (by omega)];exact o31
  have st3:Lst n0 lb g h (g3'.push .dead) ((h3.push (.own 0 [.int .i64 0,.int .i64 0,.nils])).set h3.n (.own 0 [.int .i64 0,.int .i64 0,.nils])):=⟨GG3.trans gZ,by rw[H.n_set,H.n_push];omega,λi hi hne=>by rw[xZ i (by omega),k3 i (by omega) hne];exact k1 i hne⟩
  have pz:zW [.int .i64 0,.int .i64 0,.nils] 0 [.int .i64 0,.int .i64 0,.nils]=[.int .i64 0,.int .i64 0,.nils]:=rfl;unfold zdt;simp (disch:=first|omega|simp only[zD]<;>omega|assumption) only[↓zR,↓zRM,zR,zRM,reduceAdd,reduceMul,reduceToNat,↓f184_J2,↓f184_J11,↓f184_J10,↓f184_L9,eq_false c0,o33,pz];exact S0.fin st3 uZ nZ (by rw[xZ _ (by omega)];exact lb3) hk (by rw[hev']) (by rw[hev'];exact⟨rfl,rfl,rfl,rfl,hcc⟩)
 | ok f=>
 obtain⟨fk,fnm,fp⟩:=f;obtain⟨fw,_,fl,_⟩:=hok;have fl:fp.length<=3:=fl;simp only at hev
 by_cases d3k:fk=3
 case pos=>
  have hev':=hev;rw[if_pos d3k] at hev';have W:=TN.w208 (β:=β) n (by omega) u1 bx tpc0 s.hd s.he (k:=0) hka pa (zaZ p g) (by simp only[List.length_nil];omega);unfold f184_J11;simp (disch:=first|omega|simp only[zD]<;>omega|assumption) only[↓zR,↓zRM,zR,zRM,reduceAdd,reduceMul,reduceToNat,↓f184_J2,↓f184_J11,↓f184_J10,↓f184_L9,zaT,cl,es,ol,sset,tset,c2,q1,b1,g0,eq_false (show ¬ (5:Int)=0 by decide),eq_false (show ¬ (5:Int)=1 by decide),eq_false (show ¬ (5:Int)=2 by decide),eq_false (show ¬ (5:Int)=3 by decide),eq_false (show ¬ (5:Int)=4 by decide)];refine W _ _ ?_;intro u h2 ⟨e2,ca,eca,la,madea⟩;subst eca;refine Exists.elim (u1.grow (gn.trans n1.symm) e2) λgX hX=>?_
  have GX:=hX.1;have UX:=hX.2.1;have NX:=hX.2.2.1;have newX:=hX.2.2.2
  have:=e2.n
  have ta:=madea gX GX.un (by omega) newX;rw[List.append_nil] at ta;have L1:=hp5 (β:=β) UX NX (lb:=lb) (by omega) (GX.hid lb (by omega) dl) (by rw[e2.get _ (by omega)];exact kl) (lat.un DfC.staysU GX.un) ta wa hleft (by omega);rw[hr1] at L1;refine L1 _ _ ?_;intro u3 h3 ⟨g3',G3,U3,N3,le3,same3,lb3,res3⟩;have k3:∀i,i<h1.n->i≠lb->h3.get i=h1.get i:=λi hi hne=>by rw[same3 i (by omega) hne,e2.get i (by omega)]
  have GG3:=GX.trans G3;refine Exists.elim (show ∃w3,_/\_/\_ from res3) λw3 res4=>?_
  have eu3:=res4.1;have hw3:=res4.2.1;have hp3:=res4.2.2
  subst eu3;have BX:=U3.box N3 (.own 0 [.int .i64 0,.int .i64 0,.nils]) (.own 0 [.int .i64 fk,.int .i64 fnm,w3]);have gZ:=BX.1;refine Exists.elim (⟨_,rfl⟩:∃hZ,hZ=(h3.push (.own 0 [.int .i64 0,.int .i64 0,.nils])).set h3.n (.own 0 [.int .i64 fk,.int .i64 fnm,w3])) λhZ ehZ=>?_
  rw[<- ehZ] at BX;have uZ:=BX.2.1;have nZ:=BX.2.2.1;have xZ:=BX.2.2.2
  have nhZ:hZ.n=h3.n+1:=by rw[ehZ,H.n_set,H.n_push]
  have kZ:(hZ.get h3.n).cells=some [.int .i64 fk,.int .i64 fnm,w3]:=by rw[ehZ,zl rfl];rfl
  have pz:zW [.int .i64 0,.int .i64 0,.nils] 0 [.int .i64 fk,.int .i64 fnm,w3]=[.int .i64 fk,.int .i64 fnm,w3]:=rfl;have tz:(h3.push (.own 0 [.int .i64 0,.int .i64 0,.nils])).set h3.n (.own 0 [.int .i64 fk,.int .i64 fnm,w3])=hZ:=ehZ.symm;have GGZ:=GG3.trans gZ;have sameZ:∀i,i<n0->i≠lb->hZ.get i=h.get i:=λi hi hne=>by rw[xZ i (by omega),k3 i (by omega) hne];exact k1 i hne
  have lbZ:hZ.get lb = .own 0 [pv,.int .i64 (l1:Int)]:=by rw[xZ _ (by omega)];exact lb3
  have o3Z:zB (h3.get b3)=some (0,[.int .i64 0,.int .i64 0,.nils]):=by rw[k3 _ (by omega) (by omega)];exact o31
  have l3Z:hZ.get b3 = .own 0 [.int .i64 0,.int .i64 0,.nils]:=by rw[xZ _ (by omega),k3 _ (by omega) (by omega),k1 _ (by omega)];exact l3
  have o2Z:zB (hZ.get b2)=some (0,[.str [],bv,.int .i64 (a:Int),tv]):=by rw[xZ _ (by omega),k3 _ (by omega) (by omega)];exact o21
  have stZ:Lst n0 lb g h (g3'.push .dead) hZ:=⟨GGZ,by omega,sameZ⟩
  have lw:=hp3.un (TPC.staysU p) gZ.un;have lwl:=lw.len (β:=β);have b3x:(h3.get eb).cells=some us:=by rw[k3 _ (by omega) ne1];exact b11
  have bxZ:InAt 4 hZ b2 0 [.str [],bv,.int .i64 (a:Int),tv]:=(InAt.own (cs:=[.str [],bv,.int .i64 (a:Int),tv]) (by omega) (by rw[xZ _ (by omega),k3 _ (by omega) (by omega),k1 _ (by omega)];exact l2):InAt 4 hZ b2 0 _)
  simp (disch:=first|omega|simp only[zD]<;>omega|assumption) only[↓zR,↓zRM,zR,zRM,reduceAdd,reduceMul,reduceToNat,↓f184_J2,↓f184_J11,↓f184_J10,↓f184_L9,tz,pz,kZ,eq_true d3k,o3Z];exact S0.fin stZ uZ nZ lbZ hk (by rw[hev']) (by rw[hev'];exact⟨rfl,rfl,rfl,hw3,lw⟩)
 case neg=>
 rw[if_neg d3k] at hev
 by_cases d2k:fk=2
 case neg=>
  have hev':=hev;rw[if_neg (λhh=>d2k hh.1)] at hev';have W:=TN.w208 (β:=β) n (by omega) u1 bx tpc0 s.hd s.he (k:=0) hka pa (zaZ p g) (by simp only[List.length_nil];omega);unfold f184_J11;simp (disch:=first|omega|simp only[zD]<;>omega|assumption) only[↓zR,↓zRM,zR,zRM,reduceAdd,reduceMul,reduceToNat,↓f184_J2,↓f184_J11,↓f184_J10,↓f184_L9,zaT,cl,es,ol,sset,tset,c2,q1,b1,g0,eq_false (show ¬ (5:Int)=0 by decide),eq_false (show ¬ (5:Int)=1 by decide),eq_false (show ¬ (5:Int)=2 by decide),eq_false (show ¬ (5:Int)=3 by decide),eq_false (show ¬ (5:Int)=4 by decide)];refine W _ _ ?_;intro u h2 ⟨e2,ca,eca,la,madea⟩;subst eca;refine Exists.elim (u1.grow (gn.trans n1.symm) e2) λgX hX=>?_
  have GX:=hX.1;have UX:=hX.2.1;have NX:=hX.2.2.1;have newX:=hX.2.2.2
  have:=e2.n
  have ta:=madea gX GX.un (by omega) newX;rw[List.append_nil] at ta;have L1:=hp5 (β:=β) UX NX (lb:=lb) (by omega) (GX.hid lb (by omega) dl) (by rw[e2.get _ (by omega)];exact kl) (lat.un DfC.staysU GX.un) ta wa hleft (by omega);rw[hr1] at L1;refine L1 _ _ ?_;intro u3 h3 ⟨g3',G3,U3,N3,le3,same3,lb3,res3⟩;have k3:∀i,i<h1.n->i≠lb->h3.get i=h1.get i:=λi hi hne=>by rw[same3 i (by omega) hne,e2.get i (by omega)]
  have GG3:=GX.trans G3;refine Exists.elim (show ∃w3,_/\_/\_ from res3) λw3 res4=>?_
  have eu3:=res4.1;have hw3:=res4.2.1;have hp3:=res4.2.2
  subst eu3;have BX:=U3.box N3 (.own 0 [.int .i64 0,.int .i64 0,.nils]) (.own 0 [.int .i64 fk,.int .i64 fnm,w3]);have gZ:=BX.1;refine Exists.elim (⟨_,rfl⟩:∃hZ,hZ=(h3.push (.own 0 [.int .i64 0,.int .i64 0,.nils])).set h3.n (.own 0 [.int .i64 fk,.int .i64 fnm,w3])) λhZ ehZ=>?_
  rw[<- ehZ] at BX;have uZ:=BX.2.1;have nZ:=BX.2.2.1;have xZ:=BX.2.2.2
  have nhZ:hZ.n=h3.n+1:=by rw[ehZ,H.n_set,H.n_push]
  have kZ:(hZ.get h3.n).cells=some [.int .i64 fk,.int .i64 fnm,w3]:=by rw[ehZ,zl rfl];rfl
  have pz:zW [.int .i64 0,.int .i64 0,.nils] 0 [.int .i64 fk,.int .i64 fnm,w3]=[.int .i64 fk,.int .i64 fnm,w3]:=rfl;have tz:(h3.push (.own 0 [.int .i64 0,.int .i64 0,.nils])).set h3.n (.own 0 [.int .i64 fk,.int .i64 fnm,w3])=hZ:=ehZ.symm;have GGZ:=GG3.trans gZ;have sameZ:∀i,i<n0->i≠lb->hZ.get i=h.get i:=λi hi hne=>by rw[xZ i (by omega),k3 i (by omega) hne];exact k1 i hne
  have lbZ:hZ.get lb = .own 0 [pv,.int .i64 (l1:Int)]:=by rw[xZ _ (by omega)];exact lb3
  have o3Z:zB (h3.get b3)=some (0,[.int .i64 0,.int .i64 0,.nils]):=by rw[k3 _ (by omega) (by omega)];exact o31
  have l3Z:hZ.get b3 = .own 0 [.int .i64 0,.int .i64 0,.nils]:=by rw[xZ _ (by omega),k3 _ (by omega) (by omega),k1 _ (by omega)];exact l3
  have o2Z:zB (hZ.get b2)=some (0,[.str [],bv,.int .i64 (a:Int),tv]):=by rw[xZ _ (by omega),k3 _ (by omega) (by omega)];exact o21
  have stZ:Lst n0 lb g h (g3'.push .dead) hZ:=⟨GGZ,by omega,sameZ⟩
  have lw:=hp3.un (TPC.staysU p) gZ.un;have lwl:=lw.len (β:=β);have b3x:(h3.get eb).cells=some us:=by rw[k3 _ (by omega) ne1];exact b11
  have bxZ:InAt 4 hZ b2 0 [.str [],bv,.int .i64 (a:Int),tv]:=(InAt.own (cs:=[.str [],bv,.int .i64 (a:Int),tv]) (by omega) (by rw[xZ _ (by omega),k3 _ (by omega) (by omega),k1 _ (by omega)];exact l2):InAt 4 hZ b2 0 _)
  have W2:=TN.w208 (β:=β) n (by omega) uZ bxZ (tpc0.un GGZ.un) s.hd s.he (k:=2) hkc pc (zaZ p _) (by simp only[List.length_nil];omega);simp (disch:=first|omega|simp only[zD]<;>omega|assumption) only[↓zR,↓zRM,zR,zRM,reduceAdd,reduceMul,reduceToNat,↓f184_J2,↓f184_J11,↓f184_J10,↓f184_L9,zaT,tz,pz,kZ,eq_false d3k,eq_false d2k];refine W2 _ _ ?_;intro u4 h4 ⟨e4,cb,ecb,lcb,madeb⟩;subst ecb;obtain⟨gY,GY,UY,NY,newY⟩:=uZ.grow nZ e4;have:=e4.n
  have tb:=madeb gY GY.un (by omega) newY;rw[List.append_nil] at tb;have GG:=GGZ.trans GY;have d2Y:=GG.hid b2 (by omega) d2;obtain⟨y0,y1,y2,y3,rfl⟩:∃y0 y1 y2 y3,cb=[y0,y1,y2,y3]:=by
   match cb,lcb with
   | [y0,y1,y2,y3],_=>exact⟨_,_,_,_,rfl⟩
  have o24:zB (h4.get b2)=some (0,[.str [],bv,.int .i64 (a:Int),tv]):=by rw[e4.get _ (by omega)];exact o2Z
  have pu:zW [.str [],bv,.int .i64 (a:Int),tv] 0 [y0,y1,y2,y3]=[y0,y1,y2,y3]:=rfl;obtain⟨h5,eh5⟩:∃h5,h5=h4.set b2 (.own 0 [y0,y1,y2,y3]):=⟨_,rfl⟩
  have k5:∀i,i≠b2->h5.get i=h4.get i:=λi hi=>by rw[eh5,zg (by omega)]
  have u5:Un gY h5:=by rw[eh5];exact UY.set d2Y _
  have n5:h5.n=h4.n:=by rw[eh5,H.n_set]
  have st5:Lst n0 lb g h gY h5:=⟨GG,by omega,λi hi hne=>by rw[k5 i (by omega),e4.get i (by omega)];exact sameZ i hi hne⟩
  have S5:LS p n0 lb b2 b3 pv l1 [y0,y1,y2,y3] (.part d (e.kids.getD 2 0).toNat env) gY h5:=⟨u5,by omega,i0,i2,i3,i23,by omega,by omega,by rw[k5 _ (by omega),e4.get _ (by omega)];exact lbZ,by rw[eh5,zl rfl],by rw[k5 _ (by omega),e4.get _ (by omega)];exact l3Z,GG.hid lb (by omega) dl,d2Y,GG.hid b3 (by omega) d3,lat.un DfC.staysU GG.un,tb,wc,by omega⟩
  simp (disch:=first|omega|simp only[zD]<;>omega|assumption) only[↓zR,↓zRM,zR,zRM,reduceAdd,reduceMul,reduceToNat,↓f184_J2,↓f184_J11,↓f184_J10,↓f184_L9,o24,pu];rw[<- eh5];exact hc _ l1 (by omega) hev' _ _ _ _ _ _ _ _ _ _ _ _ _ _ _ _ _ _ _ _ _ _ S5 st5
 case pos=>
 by_cases dn:fnm=e.num
 case neg=>
  have hev':=hev;rw[if_neg (λhh=>dn hh.2.1)] at hev';have W:=TN.w208 (β:=β) n (by omega) u1 bx tpc0 s.hd s.he (k:=0) hka pa (zaZ p g) (by simp only[List.length_nil];omega);unfold f184_J11;simp (disch:=first|omega|simp only[zD]<;>omega|assumption) only[↓zR,↓zRM,zR,zRM,reduceAdd,reduceMul,reduceToNat,↓f184_J2,↓f184_J11,↓f184_J10,↓f184_L9,zaT,cl,es,ol,sset,tset,c2,q1,b1,g0,eq_false (show ¬ (5:Int)=0 by decide),eq_false (show ¬ (5:Int)=1 by decide),eq_false (show ¬ (5:Int)=2 by decide),eq_false (show ¬ (5:Int)=3 by decide),eq_false (show ¬ (5:Int)=4 by decide)];refine W _ _ ?_;intro u h2 ⟨e2,ca,eca,la,madea⟩;subst eca;refine Exists.elim (u1.grow (gn.trans n1.symm) e2) λgX hX=>?_
  have GX:=hX.1;have UX:=hX.2.1;have NX:=hX.2.2.1;have newX:=hX.2.2.2
  have:=e2.n
  have ta:=madea gX GX.un (by omega) newX;rw[List.append_nil] at ta;have L1:=hp5 (β:=β) UX NX (lb:=lb) (by omega) (GX.hid lb (by omega) dl) (by rw[e2.get _ (by omega)];exact kl) (lat.un DfC.staysU GX.un) ta wa hleft (by omega);rw[hr1] at L1;refine L1 _ _ ?_;intro u3 h3 ⟨g3',G3,U3,N3,le3,same3,lb3,res3⟩;have k3:∀i,i<h1.n->i≠lb->h3.get i=h1.get i:=λi hi hne=>by rw[same3 i (by omega) hne,e2.get i (by omega)]
  have GG3:=GX.trans G3;refine Exists.elim (show ∃w3,_/\_/\_ from res3) λw3 res4=>?_
  have eu3:=res4.1;have hw3:=res4.2.1;have hp3:=res4.2.2
  subst eu3;have BX:=U3.box N3 (.own 0 [.int .i64 0,.int .i64 0,.nils]) (.own 0 [.int .i64 fk,.int .i64 fnm,w3]);have gZ:=BX.1;refine Exists.elim (⟨_,rfl⟩:∃hZ,hZ=(h3.push (.own 0 [.int .i64 0,.int .i64 0,.nils])).set h3.n (.own 0 [.int .i64 fk,.int .i64 fnm,w3])) λhZ ehZ=>?_
  rw[<- ehZ] at BX;have uZ:=BX.2.1;have nZ:=BX.2.2.1;have xZ:=BX.2.2.2
  have nhZ:hZ.n=h3.n+1:=by rw[ehZ,H.n_set,H.n_push]
  have kZ:(hZ.get h3.n).cells=some [.int .i64 fk,.int .i64 fnm,w3]:=by rw[ehZ,zl rfl];rfl
  have pz:zW [.int .i64 0,.int .i64 0,.nils] 0 [.int .i64 fk,.int .i64 fnm,w3]=[.int .i64 fk,.int .i64 fnm,w3]:=rfl;have tz:(h3.push (.own 0 [.int .i64 0,.int .i64 0,.nils])).set h3.n (.own 0 [.int .i64 fk,.int .i64 fnm,w3])=hZ:=ehZ.symm;have GGZ:=GG3.trans gZ;have sameZ:∀i,i<n0->i≠lb->hZ.get i=h.get i:=λi hi hne=>by rw[xZ i (by omega),k3 i (by omega) hne];exact k1 i hne
  have lbZ:hZ.get lb = .own 0 [pv,.int .i64 (l1:Int)]:=by rw[xZ _ (by omega)];exact lb3
  have o3Z:zB (h3.get b3)=some (0,[.int .i64 0,.int .i64 0,.nils]):=by rw[k3 _ (by omega) (by omega)];exact o31
  have l3Z:hZ.get b3 = .own 0 [.int .i64 0,.int .i64 0,.nils]:=by rw[xZ _ (by omega),k3 _ (by omega) (by omega),k1 _ (by omega)];exact l3
  have o2Z:zB (hZ.get b2)=some (0,[.str [],bv,.int .i64 (a:Int),tv]):=by rw[xZ _ (by omega),k3 _ (by omega) (by omega)];exact o21
  have stZ:Lst n0 lb g h (g3'.push .dead) hZ:=⟨GGZ,by omega,sameZ⟩
  have lw:=hp3.un (TPC.staysU p) gZ.un;have lwl:=lw.len (β:=β);have b3x:(h3.get eb).cells=some us:=by rw[k3 _ (by omega) ne1];exact b11
  have bxZ:InAt 4 hZ b2 0 [.str [],bv,.int .i64 (a:Int),tv]:=(InAt.own (cs:=[.str [],bv,.int .i64 (a:Int),tv]) (by omega) (by rw[xZ _ (by omega),k3 _ (by omega) (by omega),k1 _ (by omega)];exact l2):InAt 4 hZ b2 0 _)
  have W2:=TN.w208 (β:=β) n (by omega) uZ bxZ (tpc0.un GGZ.un) s.hd s.he (k:=2) hkc pc (zaZ p _) (by simp only[List.length_nil];omega);simp (disch:=first|omega|simp only[zD]<;>omega|assumption) only[↓zR,↓zRM,zR,zRM,reduceAdd,reduceMul,reduceToNat,↓f184_J2,↓f184_J11,↓f184_J10,↓f184_L9,zaT,tz,pz,kZ,eq_false d3k,eq_true d2k,eq_false dn,b3x,g1];refine W2 _ _ ?_;intro u4 h4 ⟨e4,cb,ecb,lcb,madeb⟩;subst ecb;obtain⟨gY,GY,UY,NY,newY⟩:=uZ.grow nZ e4;have:=e4.n
  have tb:=madeb gY GY.un (by omega) newY;rw[List.append_nil] at tb;have GG:=GGZ.trans GY;have d2Y:=GG.hid b2 (by omega) d2;obtain⟨y0,y1,y2,y3,rfl⟩:∃y0 y1 y2 y3,cb=[y0,y1,y2,y3]:=by
   match cb,lcb with
   | [y0,y1,y2,y3],_=>exact⟨_,_,_,_,rfl⟩
  have o24:zB (h4.get b2)=some (0,[.str [],bv,.int .i64 (a:Int),tv]):=by rw[e4.get _ (by omega)];exact o2Z
  have pu:zW [.str [],bv,.int .i64 (a:Int),tv] 0 [y0,y1,y2,y3]=[y0,y1,y2,y3]:=rfl;obtain⟨h5,eh5⟩:∃h5,h5=h4.set b2 (.own 0 [y0,y1,y2,y3]):=⟨_,rfl⟩
  have k5:∀i,i≠b2->h5.get i=h4.get i:=λi hi=>by rw[eh5,zg (by omega)]
  have u5:Un gY h5:=by rw[eh5];exact UY.set d2Y _
  have n5:h5.n=h4.n:=by rw[eh5,H.n_set]
  have st5:Lst n0 lb g h gY h5:=⟨GG,by omega,λi hi hne=>by rw[k5 i (by omega),e4.get i (by omega)];exact sameZ i hi hne⟩
  have S5:LS p n0 lb b2 b3 pv l1 [y0,y1,y2,y3] (.part d (e.kids.getD 2 0).toNat env) gY h5:=⟨u5,by omega,i0,i2,i3,i23,by omega,by omega,by rw[k5 _ (by omega),e4.get _ (by omega)];exact lbZ,by rw[eh5,zl rfl],by rw[k5 _ (by omega),e4.get _ (by omega)];exact l3Z,GG.hid lb (by omega) dl,d2Y,GG.hid b3 (by omega) d3,lat.un DfC.staysU GG.un,tb,wc,by omega⟩
  simp (disch:=first|omega|simp only[zD]<;>omega|assumption) only[↓zR,↓zRM,zR,zRM,reduceAdd,reduceMul,reduceToNat,↓f184_J2,↓f184_J11,↓f184_J10,↓f184_L9,o24,pu];rw[<- eh5];exact hc _ l1 (by omega) hev' _ _ _ _ _ _ _ _ _ _ _ _ _ _ _ _ _ _ _ _ _ _ S5 st5
 case pos=>
 by_cases db:(fp.length:Int)=e.bind
 case neg=>
  have hev':=hev;rw[if_neg (λhh=>db hh.2.2)] at hev';have W:=TN.w208 (β:=β) n (by omega) u1 bx tpc0 s.hd s.he (k:=0) hka pa (zaZ p g) (by simp only[List.length_nil];omega);unfold f184_J11;simp (disch:=first|omega|simp only[zD]<;>omega|assumption) only[↓zR,↓zRM,zR,zRM,reduceAdd,reduceMul,reduceToNat,↓f184_J2,↓f184_J11,↓f184_J10,↓f184_L9,zaT,cl,es,ol,sset,tset,c2,q1,b1,g0,eq_false (show ¬ (5:Int)=0 by decide),eq_false (show ¬ (5:Int)=1 by decide),eq_false (show ¬ (5:Int)=2 by decide),eq_false (show ¬ (5:Int)=3 by decide),eq_false (show ¬ (5:Int)=4 by decide)];refine W _ _ ?_;intro u h2 ⟨e2,ca,eca,la,madea⟩;subst eca;refine Exists.elim (u1.grow (gn.trans n1.symm) e2) λgX hX=>?_
  have GX:=hX.1;have UX:=hX.2.1;have NX:=hX.2.2.1;have newX:=hX.2.2.2
  have:=e2.n
  have ta:=madea gX GX.un (by omega) newX;rw[List.append_nil] at ta;have L1:=hp5 (β:=β) UX NX (lb:=lb) (by omega) (GX.hid lb (by omega) dl) (by rw[e2.get _ (by omega)];exact kl) (lat.un DfC.staysU GX.un) ta wa hleft (by omega);rw[hr1] at L1;refine L1 _ _ ?_;intro u3 h3 ⟨g3',G3,U3,N3,le3,same3,lb3,res3⟩;have k3:∀i,i<h1.n->i≠lb->h3.get i=h1.get i:=λi hi hne=>by rw[same3 i (by omega) hne,e2.get i (by omega)]
  have GG3:=GX.trans G3;refine Exists.elim (show ∃w3,_/\_/\_ from res3) λw3 res4=>?_
  have eu3:=res4.1;have hw3:=res4.2.1;have hp3:=res4.2.2
  subst eu3;have BX:=U3.box N3 (.own 0 [.int .i64 0,.int .i64 0,.nils]) (.own 0 [.int .i64 fk,.int .i64 fnm,w3]);have gZ:=BX.1;refine Exists.elim (⟨_,rfl⟩:∃hZ,hZ=(h3.push (.own 0 [.int .i64 0,.int .i64 0,.nils])).set h3.n (.own 0 [.int .i64 fk,.int .i64 fnm,w3])) λhZ ehZ=>?_
  rw[<- ehZ] at BX;have uZ:=BX.2.1;have nZ:=BX.2.2.1;have xZ:=BX.2.2.2
  have nhZ:hZ.n=h3.n+1:=by rw[ehZ,H.n_set,H.n_push]
  have kZ:(hZ.get h3.n).cells=some [.int .i64 fk,.int .i64 fnm,w3]:=by rw[ehZ,zl rfl];rfl
  have pz:zW [.int .i64 0,.int .i64 0,.nils] 0 [.int .i64 fk,.int .i64 fnm,w3]=[.int .i64 fk,.int .i64 fnm,w3]:=rfl;have tz:(h3.push (.own 0 [.int .i64 0,.int .i64 0,.nils])).set h3.n (.own 0 [.int .i64 fk,.int .i64 fnm,w3])=hZ:=ehZ.symm;have GGZ:=GG3.trans gZ;have sameZ:∀i,i<n0->i≠lb->hZ.get i=h.get i:=λi hi hne=>by rw[xZ i (by omega),k3 i (by omega) hne];exact k1 i hne
  have lbZ:hZ.get lb = .own 0 [pv,.int .i64 (l1:Int)]:=by rw[xZ _ (by omega)];exact lb3
  have o3Z:zB (h3.get b3)=some (0,[.int .i64 0,.int .i64 0,.nils]):=by rw[k3 _ (by omega) (by omega)];exact o31
  have l3Z:hZ.get b3 = .own 0 [.int .i64 0,.int .i64 0,.nils]:=by rw[xZ _ (by omega),k3 _ (by omega) (by omega),k1 _ (by omega)];exact l3
  have o2Z:zB (hZ.get b2)=some (0,[.str [],bv,.int .i64 (a:Int),tv]):=by rw[xZ _ (by omega),k3 _ (by omega) (by omega)];exact o21
  have stZ:Lst n0 lb g h (g3'.push .dead) hZ:=⟨GGZ,by omega,sameZ⟩
  have lw:=hp3.un (TPC.staysU p) gZ.un;have lwl:=lw.len (β:=β);have b3x:(h3.get eb).cells=some us:=by rw[k3 _ (by omega) ne1];exact b11
  have bxZ:InAt 4 hZ b2 0 [.str [],bv,.int .i64 (a:Int),tv]:=(InAt.own (cs:=[.str [],bv,.int .i64 (a:Int),tv]) (by omega) (by rw[xZ _ (by omega),k3 _ (by omega) (by omega),k1 _ (by omega)];exact l2):InAt 4 hZ b2 0 _)
  have W2:=TN.w208 (β:=β) n (by omega) uZ bxZ (tpc0.un GGZ.un) s.hd s.he (k:=2) hkc pc (zaZ p _) (by simp only[List.length_nil];omega);simp (disch:=first|omega|simp only[zD]<;>omega|assumption) only[↓zR,↓zRM,zR,zRM,reduceAdd,reduceMul,reduceToNat,↓f184_J2,↓f184_J11,↓f184_J10,↓f184_L9,zaT,tz,pz,kZ,eq_false d3k,eq_true d2k,eq_true dn,b3x,g1,g2,lwl,eq_false db];refine W2 _ _ ?_;intro u4 h4 ⟨e4,cb,ecb,lcb,madeb⟩;subst ecb;obtain⟨gY,GY,UY,NY,newY⟩:=uZ.grow nZ e4;have:=e4.n
  have tb:=madeb gY GY.un (by omega) newY;rw[List.append_nil] at tb;have GG:=GGZ.trans GY;have d2Y:=GG.hid b2 (by omega) d2;obtain⟨y0,y1,y2,y3,rfl⟩:∃y0 y1 y2 y3,cb=[y0,y1,y2,y3]:=by
   match cb,lcb with
   | [y0,y1,y2,y3],_=>exact⟨_,_,_,_,rfl⟩
  have o24:zB (h4.get b2)=some (0,[.str [],bv,.int .i64 (a:Int),tv]):=by rw[e4.get _ (by omega)];exact o2Z
  have pu:zW [.str [],bv,.int .i64 (a:Int),tv] 0 [y0,y1,y2,y3]=[y0,y1,y2,y3]:=rfl;obtain⟨h5,eh5⟩:∃h5,h5=h4.set b2 (.own 0 [y0,y1,y2,y3]):=⟨_,rfl⟩
  have k5:∀i,i≠b2->h5.get i=h4.get i:=λi hi=>by rw[eh5,zg (by omega)]
  have u5:Un gY h5:=by rw[eh5];exact UY.set d2Y _
  have n5:h5.n=h4.n:=by rw[eh5,H.n_set]
  have st5:Lst n0 lb g h gY h5:=⟨GG,by omega,λi hi hne=>by rw[k5 i (by omega),e4.get i (by omega)];exact sameZ i hi hne⟩
  have S5:LS p n0 lb b2 b3 pv l1 [y0,y1,y2,y3] (.part d (e.kids.getD 2 0).toNat env) gY h5:=⟨u5,by omega,i0,i2,i3,i23,by omega,by omega,by rw[k5 _ (by omega),e4.get _ (by omega)];exact lbZ,by rw[eh5,zl rfl],by rw[k5 _ (by omega),e4.get _ (by omega)];exact l3Z,GG.hid lb (by omega) dl,d2Y,GG.hid b3 (by omega) d3,lat.un DfC.staysU GG.un,tb,wc,by omega⟩
  simp (disch:=first|omega|simp only[zD]<;>omega|assumption) only[↓zR,↓zRM,zR,zRM,reduceAdd,reduceMul,reduceToNat,↓f184_J2,↓f184_J11,↓f184_J10,↓f184_L9,o24,pu];rw[<- eh5];exact hc _ l1 (by omega) hev' _ _ _ _ _ _ _ _ _ _ _ _ _ _ _ _ _ _ _ _ _ _ S5 st5
 case pos=>
  have hev':=hev;rw[if_pos ⟨d2k,dn,db⟩] at hev';have pb:=s.kid hkb (more':=fp) (by rw[show ((1:Nat):Int)=1 from rfl,hm1];exact db) fw;have W:=TN.w208 (β:=β) n (by omega) u1 bx tpc0 s.hd s.he (k:=0) hka pa (zaZ p g) (by simp only[List.length_nil];omega);unfold f184_J11;simp (disch:=first|omega|simp only[zD]<;>omega|assumption) only[↓zR,↓zRM,zR,zRM,reduceAdd,reduceMul,reduceToNat,↓f184_J2,↓f184_J11,↓f184_J10,↓f184_L9,zaT,cl,es,ol,sset,tset,c2,q1,b1,g0,eq_false (show ¬ (5:Int)=0 by decide),eq_false (show ¬ (5:Int)=1 by decide),eq_false (show ¬ (5:Int)=2 by decide),eq_false (show ¬ (5:Int)=3 by decide),eq_false (show ¬ (5:Int)=4 by decide)];refine W _ _ ?_;intro u h2 ⟨e2,ca,eca,la,madea⟩;subst eca;refine Exists.elim (u1.grow (gn.trans n1.symm) e2) λgX hX=>?_
  have GX:=hX.1;have UX:=hX.2.1;have NX:=hX.2.2.1;have newX:=hX.2.2.2
  have:=e2.n
  have ta:=madea gX GX.un (by omega) newX;rw[List.append_nil] at ta;have L1:=hp5 (β:=β) UX NX (lb:=lb) (by omega) (GX.hid lb (by omega) dl) (by rw[e2.get _ (by omega)];exact kl) (lat.un DfC.staysU GX.un) ta wa hleft (by omega);rw[hr1] at L1;refine L1 _ _ ?_;intro u3 h3 ⟨g3',G3,U3,N3,le3,same3,lb3,res3⟩;have k3:∀i,i<h1.n->i≠lb->h3.get i=h1.get i:=λi hi hne=>by rw[same3 i (by omega) hne,e2.get i (by omega)]
  have GG3:=GX.trans G3;refine Exists.elim (show ∃w3,_/\_/\_ from res3) λw3 res4=>?_
  have eu3:=res4.1;have hw3:=res4.2.1;have hp3:=res4.2.2
  subst eu3;have BX:=U3.box N3 (.own 0 [.int .i64 0,.int .i64 0,.nils]) (.own 0 [.int .i64 fk,.int .i64 fnm,w3]);have gZ:=BX.1;refine Exists.elim (⟨_,rfl⟩:∃hZ,hZ=(h3.push (.own 0 [.int .i64 0,.int .i64 0,.nils])).set h3.n (.own 0 [.int .i64 fk,.int .i64 fnm,w3])) λhZ ehZ=>?_
  rw[<- ehZ] at BX;have uZ:=BX.2.1;have nZ:=BX.2.2.1;have xZ:=BX.2.2.2
  have nhZ:hZ.n=h3.n+1:=by rw[ehZ,H.n_set,H.n_push]
  have kZ:(hZ.get h3.n).cells=some [.int .i64 fk,.int .i64 fnm,w3]:=by rw[ehZ,zl rfl];rfl
  have pz:zW [.int .i64 0,.int .i64 0,.nils] 0 [.int .i64 fk,.int .i64 fnm,w3]=[.int .i64 fk,.int .i64 fnm,w3]:=rfl;have tz:(h3.push (.own 0 [.int .i64 0,.int .i64 0,.nils])).set h3.n (.own 0 [.int .i64 fk,.int .i64 fnm,w3])=hZ:=ehZ.symm;have GGZ:=GG3.trans gZ;have sameZ:∀i,i<n0->i≠lb->hZ.get i=h.get i:=λi hi hne=>by rw[xZ i (by omega),k3 i (by omega) hne];exact k1 i hne
  have lbZ:hZ.get lb = .own 0 [pv,.int .i64 (l1:Int)]:=by rw[xZ _ (by omega)];exact lb3
  have o3Z:zB (h3.get b3)=some (0,[.int .i64 0,.int .i64 0,.nils]):=by rw[k3 _ (by omega) (by omega)];exact o31
  have l3Z:hZ.get b3 = .own 0 [.int .i64 0,.int .i64 0,.nils]:=by rw[xZ _ (by omega),k3 _ (by omega) (by omega),k1 _ (by omega)];exact l3
  have o2Z:zB (hZ.get b2)=some (0,[.str [],bv,.int .i64 (a:Int),tv]):=by rw[xZ _ (by omega),k3 _ (by omega) (by omega)];exact o21
  have stZ:Lst n0 lb g h (g3'.push .dead) hZ:=⟨GGZ,by omega,sameZ⟩
  have lw:=hp3.un (TPC.staysU p) gZ.un;have lwl:=lw.len (β:=β);have b3x:(h3.get eb).cells=some us:=by rw[k3 _ (by omega) ne1];exact b11
  have bxZ:InAt 4 hZ b2 0 [.str [],bv,.int .i64 (a:Int),tv]:=(InAt.own (cs:=[.str [],bv,.int .i64 (a:Int),tv]) (by omega) (by rw[xZ _ (by omega),k3 _ (by omega) (by omega),k1 _ (by omega)];exact l2):InAt 4 hZ b2 0 _)
  have W2:=TN.w208 (β:=β) n (by omega) uZ bxZ (tpc0.un GGZ.un) s.hd s.he (k:=1) hkb pb.1 lw (by omega);simp (disch:=first|omega|simp only[zD]<;>omega|assumption) only[↓zR,↓zRM,zR,zRM,reduceAdd,reduceMul,reduceToNat,↓f184_J2,↓f184_J11,↓f184_J10,↓f184_L9,zaT,tz,pz,kZ,eq_false d3k,eq_true d2k,eq_true dn,b3x,g1,g2,lwl,eq_true db];refine W2 _ _ ?_;intro u4 h4 ⟨e4,cb,ecb,lcb,madeb⟩;subst ecb;obtain⟨gY,GY,UY,NY,newY⟩:=uZ.grow nZ e4;have:=e4.n
  have tb:=madeb gY GY.un (by omega) newY;have GG:=GGZ.trans GY;have d2Y:=GG.hid b2 (by omega) d2;obtain⟨y0,y1,y2,y3,rfl⟩:∃y0 y1 y2 y3,cb=[y0,y1,y2,y3]:=by
   match cb,lcb with
   | [y0,y1,y2,y3],_=>exact⟨_,_,_,_,rfl⟩
  have o24:zB (h4.get b2)=some (0,[.str [],bv,.int .i64 (a:Int),tv]):=by rw[e4.get _ (by omega)];exact o2Z
  have pu:zW [.str [],bv,.int .i64 (a:Int),tv] 0 [y0,y1,y2,y3]=[y0,y1,y2,y3]:=rfl;obtain⟨h5,eh5⟩:∃h5,h5=h4.set b2 (.own 0 [y0,y1,y2,y3]):=⟨_,rfl⟩
  have k5:∀i,i≠b2->h5.get i=h4.get i:=λi hi=>by rw[eh5,zg (by omega)]
  have u5:Un gY h5:=by rw[eh5];exact UY.set d2Y _
  have n5:h5.n=h4.n:=by rw[eh5,H.n_set]
  have st5:Lst n0 lb g h gY h5:=⟨GG,by omega,λi hi hne=>by rw[k5 i (by omega),e4.get i (by omega)];exact sameZ i hi hne⟩
  have S5:LS p n0 lb b2 b3 pv l1 [y0,y1,y2,y3] (.part d (e.kids.getD 1 0).toNat (env++fp)) gY h5:=⟨u5,by omega,i0,i2,i3,i23,by omega,by omega,by rw[k5 _ (by omega),e4.get _ (by omega)];exact lbZ,by rw[eh5,zl rfl],by rw[k5 _ (by omega),e4.get _ (by omega)];exact l3Z,GG.hid lb (by omega) dl,d2Y,GG.hid b3 (by omega) d3,lat.un DfC.staysU GG.un,tb,pb.2,by omega⟩
  simp (disch:=first|omega|simp only[zD]<;>omega|assumption) only[↓zR,↓zRM,zR,zRM,reduceAdd,reduceMul,reduceToNat,↓f184_J2,↓f184_J11,↓f184_J10,↓f184_L9,o24,pu];rw[<- eh5];exact hc _ l1 (by omega) hev' _ _ _ _ _ _ _ _ _ _ _ _ _ _ _ _ _ _ _ _ _ _ S5 st5
end
end Am.F
end
section
namespace Am.F
open Go Am
section
variable {t:ETree}
def zho(t:ETree)(p:List Df)(N:Nat):Prop:=∀{β:Type} (n M:Nat),N<=M->1200+2*N<=n->∀{n0 lb b2 b3:Nat} {pv:AV} {left:Nat} {cs:List AV} {th:Thg} {g h:H} {k:K β} {R:Option β},left<N->LS p n0 lb b2 b3 pv left cs th g h ->
 (∀u h',zdi p (zp p N left th) n0 g h lb pv u h'->k u h'=R)->∀x1 x4 x5 x6 x7 x8 x9 x10 x11 x12 x13 x14 x15 x16 x17 x18 x19 x20 x21:AV,
 zY 22 M (.mk (f184_L9 (zb t stdI n) k (f184_J2 (zb t stdI n) k))) (.ptr lb 0) x1 (.ptr b2 0) (.ptr b3 0) x4 x5 x6 x7 x8 x9 x10 x11 x12 x13 x14 x15 x16 x17 x18 x19 x20 x21 h=R
theorem zho.look(TN:GNM t){p:List Df}{N n:Nat}(hl:zho t p N)(hn:1201+2*N<=n):zd2 t p N n:=by
 intro β g h lb pv left cs th ug gn hlb dl ll lat tpc wf hN h1000 k R hk;obtain⟨m,rfl⟩:∃m,n=m+1:=⟨n-1,by omega⟩
 have h4:=tpc.len;obtain⟨c0,c1,c2,c3,rfl⟩:∃c0 c1 c2 c3,cs=[c0,c1,c2,c3]:=by
  match cs,h4 with
  | [a0,a1,a2,a3],_=>exact⟨_,_,_,_,rfl⟩
 obtain⟨gA,uA,nA,dA⟩:=ug.hide gn (.own 0 [c0,c1,c2,c3]);obtain⟨gB,uB,nB,dB⟩:=uA.hide nA (.own 0 [.int .i64 0,.int .i64 0,.nils]);have GG:=gA.trans gB;have S:LS p h.n lb h.n (h.n+1) pv left [c0,c1,c2,c3] th ((g.push .dead).push .dead) ((h.push (.own 0 [c0,c1,c2,c3])).push (.own 0 [.int .i64 0,.int .i64 0,.nils])) :=
  ⟨uB,nB,hlb,Nat.le_refl _,Nat.le_succ _,by omega,by simp only[H.n_push];omega,by simp only[H.n_push];omega,by rw[ze (by rw[H.n_push];omega),ze (by omega)];exact ll,
   by rw[ze (by rw[H.n_push];omega),zk rfl],by rw[zk (by rw[H.n_push])],GG.hid lb (by omega) dl,gB.hid _ (by rw[nA,H.n_push];omega) dA,by rw[H.n_push] at dB;exact dB,lat.un DfC.staysU GG.un,tpc.un GG.un,wf,h1000⟩
 have bxA:∀(hh:H) (kk:K β),qBox 0 (.agg [c0,c1,c2,c3]) hh (.mk kk)=kk (.ptr hh.n 0) (hh.push (.own 0 [c0,c1,c2,c3])):=λhh kk=>zac 0 _ hh kk
 rw[TN.c184];unfold f184;simp (disch:=first|omega|simp only[zD]<;>omega|assumption) only[↓zR,↓zRM,zR,zRM,reduceAdd,reduceMul,reduceToNat,↓f184_J2,↓f184_J11,↓f184_J10,↓f184_L9,↓bxA];refine hl m m (by omega) (by omega) hN S (λu h' hp=>hk u h' ?_) _ _ _ _ _ _ _ _ _ _ _ _ _ _ _ _ _ _ _;obtain⟨g',q1,q2,q3,q4,q5,q6,q7⟩:=hp;exact⟨g',GG.trans q1,q2,q3,by simp only[H.n_push] at q4;omega,λi hi hne=>by rw[q5 i hi hne,ze (by rw[H.n_push];omega),ze (by omega)],q6,q7⟩
theorem GNM.loop(TN:GNM t)(T:GA t)(L:GI t){p:List Df}(hpm:zJ p=true):∀N,zho t p N:=by
 intro N
 induction N with
 | zero=>intro β n M _ _ n0 lb b2 b3 pv left cs th g h k R hN;omega
 | succ N ih=>
  intro β n M hM hn n0 lb b2 b3 pv left cs th g h k R hN S hk x1 x4 x5 x6 x7 x8 x9 x10 x11 x12 x13 x14 x15 x16 x17 x18 x19 x20 x21;obtain⟨M',rfl⟩:∃M',M=M'+1:=⟨M-1,by omega⟩
  have i2:=S.i2;have i3:=S.i3;have i0:=S.i0
  cases th with
  | term s=>
   have hm:mayP s=true:=by
    have wf:=S.wf;cases wf with
    | term h=>exact h
   obtain⟨u,hu⟩:∃u,tP s=some u:=by
    unfold mayP at hm;rw[zew] at hm;exact Option.isSome_iff_exists.1 hm
   have hcs:cs=[.str s,.nils,.int .i64 0,.nils]:=by
    have tpc:=S.tpc;cases tpc;rfl
   subst hcs;have hr:=zgM hu;have hev:zp p (N+1) left (.term s)=(zhw s,left):=by unfold zp;rfl
   have hrd:zhw s=if u.kind=0 then .bad 902 else .ok ⟨u.kind,u.num,u.kids.map .term⟩:=by unfold zhw;rw[hu]
   have c2:(h.get b2).cells=some [.str s,.nils,.int .i64 0,.nils]:=by rw[S.l2];rfl
   have W:=TN.w210 (β:=β) T L n (by omega) (h:=h) (lv:=.ptr lb 0) hu hr.2.1;have j3:=S.j3;have j2:=S.j2
   rw[zbR];simp (disch:=first|omega|simp only[zD]<;>omega|assumption) only[↓zR,↓zRM,zR,zRM,reduceAdd,reduceMul,reduceToNat,↓f184_L9,↓f184_J2,c2,Bool.not_true];refine W _ _ ?_;intro v h2 ⟨e2,hv⟩;obtain⟨gX,GX,UX,NX,newX⟩:=S.un.grow S.gn e2;have:=e2.n
   have o32:zB (h2.get b3)=some (0,[.int .i64 0,.int .i64 0,.nils]):=by rw[e2.get _ (by omega),S.l3];rfl
   have ll2:h2.get lb = .own 0 [pv,.int .i64 (left:Int)]:=by rw[e2.get _ (by omega)];exact S.ll
   have st2:Lst n0 lb g h gX h2:=⟨GX,by omega,λi hi hne=>e2.get i (by omega)⟩
   by_cases hu0:u.kind=0
   ·rw[if_pos hu0] at hv hrd;subst hv;simp (disch:=first|omega|simp only[zD]<;>omega|assumption) only[↓zR,↓zRM,zR,zRM,reduceAdd,reduceMul,reduceToNat,o32];exact S.fin st2 UX NX ll2 hk (by rw[hev]) (by rw[hev,hrd];exact⟨rfl,rfl,rfl,rfl,.inr rfl⟩)
   ·rw[if_neg hu0] at hv hrd;obtain⟨w,ev,hw,hp⟩:=hv;subst ev;simp (disch:=first|omega|simp only[zD]<;>omega|assumption) only[↓zR,↓zRM,zR,zRM,reduceAdd,reduceMul,reduceToNat,o32];exact S.fin st2 UX NX ll2 hk (by rw[hev]) (by rw[hev,hrd];exact⟨rfl,rfl,rfl,hw,hp p gX (by omega) newX⟩)
  | part d a env=>
   obtain⟨df,lv,e,st⟩:=S.wf.stand;have hcs:∃bv tv,cs=[.str [],bv,.int .i64 (a:Int),tv]/\bv ≠ .nils/\∀kk:VK β,zc8 .sl true bv (.mk kk)=kk (.bool true):=by
    have tpc:=S.tpc;cases tpc with
    | part hd' hb hnb rows hr hl' hen=>
     refine⟨_,_,rfl,hnb,λkk=>?_⟩;rcases hb with⟨h0,_⟩|⟨_,_,_,_,_,rfl,_⟩
     ·exact absurd h0 hnb
     ·exact zdy _ _ _ _ _ _ _
   obtain⟨bv,tv,rfl,hnb,hnil⟩:=hcs;have c2:(h.get b2).cells=some [.str [],bv,.int .i64 (a:Int),tv]:=by rw[S.l2];rfl
   have cl:(h.get lb).cells=some [pv,.int .i64 (left:Int)]:=by rw[S.ll];rfl
   have o3:zB (h.get b3)=some (0,[.int .i64 0,.int .i64 0,.nils]):=by rw[S.l3];rfl
   cases left with
   | zero=>
    have hev:zp p (N+1) 0 (.part d a env)=(.bad 901,0):=by unfold zp;rfl
    have cl0:(h.get lb).cells=some [pv,.int .i64 0]:=cl;have bz:∀kc:VK β,zn [.int .i64 0,.int .i64 0,.nils] [] [] (.mk kc)=kc zdt:=λkc=>rfl
    unfold zdt at bz;rw[zbR];simp (disch:=first|omega|simp only[zD]<;>omega|assumption) only[↓zR,↓zRM,zR,zRM,reduceAdd,reduceMul,reduceToNat,↓f184_L9,↓f184_J10,zaT,c2,cl0,↓hnil,↓bz,o3];exact S.fin ⟨Gh.refl g,Nat.le_refl _,λi _ _=>rfl⟩ S.un S.gn S.ll hk (by rw[hev]) (by rw[hev];exact⟨rfl,rfl,rfl,rfl,.inl rfl⟩)
   | succ left=>
    have hne:¬ ((left+1:Nat):Int)=0:=by omega
    have hc:∀th' left',left'<=left->zp p (N+1) (left+1) (.part d a env)=zp p N left' th'->Cont p n0 lb b2 b3 pv left' th' g h (zY 22 M' (.mk (f184_L9 (zb t stdI n) k (f184_J2 (zb t stdI n) k)))) R:=by
     intro th' left' hle heq y1 y4 y5 y6 y7 y8 y9 y10 y11 y12 y13 y14 y15 y16 y17 y18 y19 y20 y21 cs' g' h' S' st';exact ih n M' (by omega) (by omega) (by omega) S' (λu h'' hp=>hk u h'' (by rw[heq];exact st'.post hp)) _ _ _ _ _ _ _ _ _ _ _ _ _ _ _ _ _ _ _
    have lk:zd2 t p N n:=ih.look TN (by omega);have lk1:zd2 t p N (n-1):=ih.look TN (by omega);rw[zbR];simp (disch:=first|omega|simp only[zD]<;>omega|assumption) only[↓zR,↓zRM,zR,zRM,reduceAdd,reduceMul,reduceToNat,↓f184_L9,↓f184_J10,zaT,c2,cl,↓hnil,eq_false hne]
    by_cases q0:e.kind=0
    ·exact TN.look_0 n (by omega) S st q0 hk hc _ _ _ _ _ _ _ _ _ _ _ _ _ _ _ _ _ _ _
    by_cases q1:e.kind=1
    ·exact TN.look_1 n (by omega) S st q1 hk hc _ _ _ _ _ _ _ _ _ _ _ _ _ _ _ _ _ _ _
    by_cases q2:e.kind=2
    ·exact TN.look_2 n (by omega) S st q2 hpm hk hc _ _ _ _ _ _ _ _ _ _ _ _ _ _ _ _ _ _ _
    by_cases q3:e.kind=3
    ·exact TN.look_3 n (by omega) S st q3 hk hc _ _ _ _ _ _ _ _ _ _ _ _ _ _ _ _ _ _ _
    by_cases q4:e.kind=4
    ·exact TN.look_4 T n (by omega) S st q4 lk1 (by omega) hk hc _ _ _ _ _ _ _ _ _ _ _ _ _ _ _ _ _ _ _
    by_cases q5:e.kind=5
    ·exact TN.look_5 n (by omega) S st q5 hpm lk (by omega) hk hc _ _ _ _ _ _ _ _ _ _ _ _ _ _ _ _ _ _ _
    by_cases q6:e.kind=6
    ·exact TN.look_6 n (by omega) S st q6 hk hc _ _ _ _ _ _ _ _ _ _ _ _ _ _ _ _ _ _ _
    ·exact TN.look_7 n (by omega) S st ⟨q0,q1,q2,q3,q4,q5,q6⟩ hk hc _ _ _ _ _ _ _ _ _ _ _ _ _ _ _ _ _ _ _
end
end Am.F
end
section
namespace Am.F
open Go Am
def za3(p:List Df)(f:Int)(args:List (List UInt8))(fuel:Int):Prop:=zJ p=true/\0<=f/\f<(p.length:Int)/\(args.length:Int)=zaq p f/\args.all mayP=true/\0<=fuel/\fuel<=400
instance (p:List Df) (f:Int) (args:List (List UInt8)) (fuel:Int):Decidable (za3 p f args fuel):=by unfold za3;infer_instance
theorem zdA{p:List Df}{f:Int}{df:Df}(hf:p[f.toNat]?=some df):zaq p f=df.params:=by unfold zaq;rw[hf];rfl
def zdV(p:List Df)(f:Nat)(args:List (List UInt8)):Thg:=.part f ((zbt p f).length-1) (args.map .term)
def zja(f:Fnd):List UInt8:=if f.kind=3 then [33] else if f.kind=1 then Lib.itoa f.num else conP f.num (List.replicate f.parts.length [95])
def outN:Rs->List UInt8 × Int
 | .bad c=>([],c)
 | .ok g=>(zja g,0)
def zfv(p:List Df)(f:Int)(args:List (List UInt8))(fuel:Int):List UInt8 × Int :=
 if za3 p f args fuel then
  outN (zp p (fuel.toNat+1) fuel.toNat (zdV p f.toNat args)).1
 else ([],900)
theorem ziA{p:List Df}(hp:zJ p=true){i:Nat}{df:Df}(hd:p[i]?=some df):df.params<=8:=by
 obtain⟨_,_,hall⟩:=zcG hp;have hm:=(hall df (List.mem_of_getElem? hd)).1;obtain⟨lv,hlv⟩:=zbX hm;have hl:=zbL hm;obtain⟨e,he⟩:∃e,df.body[df.body.length-1]?=some e:=⟨_,List.getElem?_eq_getElem (by omega)⟩
 have h8:=(hlv.part _ e he).1;rw[hlv.last] at h8;exact h8.2
theorem zej{p:List Df}{f:Int}{args:List (List UInt8)}{fuel:Int}(h:za3 p f args fuel):∃df,p[f.toNat]?=some df/\zbt p f.toNat=df.body/\1<=df.body.length/\df.body.length<=24/\args.length<=8/\WF p (zdV p f.toNat args)/\(args.length:Int)=df.params:=by
 obtain⟨hp,h0,h1,h2,h3,_,_⟩:=h;obtain⟨df,hd⟩:∃df,p[f.toNat]?=some df:=⟨_,List.getElem?_eq_getElem (by omega)⟩
 obtain⟨_,_,hall⟩:=zcG hp;have hm:=(hall df (List.mem_of_getElem? hd)).1;obtain⟨lv,hlv⟩:=zbX hm;have hl:=zbL hm;have hb:zbt p f.toNat=df.body:=by unfold zbt;rw[hd];rfl
 rw[zdA hd] at h2;have hlast:=hlv.last;obtain⟨e,he⟩:∃e,df.body[df.body.length-1]?=some e:=⟨_,List.getElem?_eq_getElem (by omega)⟩
 have h8:=(hlv.part _ e he).1;rw[hlast] at h8;refine⟨df,hd,hb,hl.2,hl.1,by omega,?_,h2⟩;unfold zdV;rw[hb];refine .part hd hlv (by omega) (by rw[List.length_map,hlast];exact h2) λx hx=>?_
 obtain⟨s,hs,rfl⟩:=List.mem_map.1 hx;exact .term (List.all_eq_true.1 h3 s hs)
end Am.F
end
section
namespace Am.F
open Go Am
section
variable {β:Type} {t:ETree}
theorem GNM.w228(TN:GNM t)(n:Nat)(x:Nat)(hx:x<=3)(h:H)(k:K β):qCall (zb t stdI (n+2)) (.fn 228 []) [.int .u64 1,.int .u64 (x:Int)] h (.mk k)=k (.tup [.int .u64 0,.int .u64 (x:Int)]) h:=by
 have hx':x=0\/x=1\/x=2\/x=3:=by omega
 have key:∀y:Nat,y<=3->qCall (zb t stdI (n+1)) (.fn 233 []) [.int .u64 1,.int .u64 (y:Int)] h (.mk λv1 h=>
   qExt 0 v1<|.mk λv2=>qExt 1 v1<|.mk λv3=>k (.tup [v2,v3]) h)=k (.tup [.int .u64 0,.int .u64 (y:Int)]) h:=by
  intro y hy;have hy':y=0\/y=1\/y=2\/y=3:=by omega
  rw[TN.q233];rcases hy' with rfl|rfl|rfl|rfl<;>exact (rfl:_=_).trans (Eq.refl _)
 rw[TN.q228];unfold f228;simp (disch:=first|omega|simp only[zD]<;>omega|assumption) only[↓zR,↓zRM,zR,zRM,reduceAdd,reduceMul,reduceToNat,↓f228_J0];exact key x hx
theorem GNM.w211(TN:GNM t)(n:Nat)(hn:20<=n){h:H}{b:Nat}{s:List UInt8}(hb:b<h.n)(hg:h.get b = .own 0 [.str s])(x:Nat)(hx:x<=3) :
  Sp (β:=β) (zb t stdI n (.fn 211 []) [.sl b 0 1 1 none,.int .i64 (x:Int)] h) λu h'=>Ext h h'/\SlAt h' u (strs (List.replicate x s)):=by
 intro k R hk;obtain⟨m,rfl⟩:∃m,n=m+10:=⟨n-10,by omega⟩
 have hroom:room=68719476736:=rfl;have cb:(h.get b).cells=some [.str s]:=by rw[hg];rfl
 have cu1:∀kk:VK β,zah .u64 (.int .i64 1) (.mk kk)=kk (.int .u64 1):=λkk=>(zcI _ _ _ kk).trans (by rw[show IntKind.u64.wrap 1=1 from by decide])
 have cu:∀kk:VK β,zah .u64 (.int .i64 (x:Int)) (.mk kk)=kk (.int .u64 (x:Int)):=λkk=>(zcI _ _ _ kk).trans (by
  have:IntKind.u64.wrap (x:Int)=x:=by
   have:x=0\/x=1\/x=2\/x=3:=by omega
   rcases this with rfl|rfl|rfl|rfl<;>decide
  rw[this])
 have ci:∀kk:VK β,zah .i64 (.int .u64 (x:Int)) (.mk kk)=kk (.int .i64 (x:Int)):=λkk=>zam (by omega) (by omega) kk
 have mks:∀(hh:H) (kk:K β),zcD 0 [.str []] 16 (.int .i64 (x:Int)) (.int .i64 (x:Int)) hh (.mk kk)=kk (.sl hh.n 0 x x none) (hh.push (.own 0 (rep x [.str []]))):=λhh kk=>by
  show zck 0 [.str []] 16 (.int .i64 (x:Int)) (.int .i64 (x:Int)) hh kk=_;unfold zck;have hna:∀c:Nat->Option β,aNat (.int .i64 (x:Int)) c=c x:=λc=>by show frc x c=c x;rw[zDq9]
  rw[hna,hna,ble_eq,decide_eq_true (Nat.le_refl _),ble_eq,decide_eq_true (by omega),ble_eq,decide_eq_true (by omega)];simp only[cond_true];rw[zdF]
 have hxx:x=0\/x=1\/x=2\/x=3:=by omega
 have w228:=λ(hh:H) (kk:K β)=>TN.w228 (m+7) x hx hh kk
 have e1:Ext h (h.push (.own 0 (rep x [.str []]))):=(Ext.refl h).push _;rw[TN.c211];unfold f211;have l1:∀kk:VK β,qLenL (.sl b 0 1 1 none) (.mk kk)=kk (.int .i64 1):=λkk=>rfl
 have cpy:∀(hh:H) (o dl mx xo xl mx' xb:Nat) (cs us:List AV) (kk:K β),hh.get h.n = .own 0 cs->(hh.get xb).cells=some us->xo+xl<=us.length->o+dl<=cs.length->(if xl<=dl then xl else dl)≠0 ->
   qCpy 1 (.sl h.n o dl mx none) (.sl xb xo xl mx' none) hh (.mk kk)=kk (.int .i64 ((if xl<=dl then xl else dl:Nat):Int)) (hh.set h.n (.own 0 (zW cs o ((us.drop xo).take (if xl<=dl then xl else dl))))):=by
  intro hh o dl mx xo xl mx' xb cs us kk h1 h2 h3 h4 h5;show fCpy 1 (.sl h.n o dl mx none) (.sl xb xo xl mx' none) hh kk=_;unfold fCpy;have e1:(cond (decide (xl<=dl)) xl dl)=(if xl<=dl then xl else dl):=by by_cases hc:xl<=dl<;>simp[hc]
  generalize hm:(if xl<=dl then xl else dl)=mm at h5 e1;have hmm:mm<=xl/\mm<=dl:=by rw[<- hm];split<;>omega
  simp (disch:=omega) only [aLen,zDq9,e1,zjf,zae,h2,zaF,Nat.add_eq,Nat.mul_eq,Nat.mul_one,zo,ble_eq,zbr,zC,zF,aSl,beq_eq,zbZ,zcY,h1,zb6,List.length_take,List.length_drop,Nat.min_eq_left,zaz]
  try rfl
 have g0:(h.push (.own 0 (rep x [.str []]))).get b=h.get b:=ze (by omega);have g00:((h.push (.own 0 (rep x [.str []]))).get b).cells=some [.str s]:=by rw[g0];exact cb
 have gn0:(h.push (.own 0 (rep x [.str []]))).get h.n = .own 0 (rep x [.str []]):=zk rfl;have rl:(rep x [.str []]).length=x:=by rw[za6];simp
 have ll:∀(bb:Nat) (kk:VK β),qLenL (.sl bb 0 x x none) (.mk kk)=kk (.int .i64 (x:Int)):=λbb kk=>rfl
 have hxn:¬ (x:Int)<0:=by omega
 by_cases hx0:x=0
 ·have c0:∀(kk:K β),qCpy 1 (.sl h.n 0 x x none) (.sl b 0 1 1 none) (h.push (.own 0 (rep x [.str []]))) (.mk kk)=kk (.int .i64 0) (h.push (.own 0 (rep x [.str []]))):=λkk=>by
   show fCpy 1 (.sl h.n 0 x x none) (.sl b 0 1 1 none) _ kk=_;unfold fCpy;simp only[aLen,zjf,zae,g00,zaF];rw[hx0];rfl
  have hx0':¬ (0:Int)<(x:Int):=by omega
  simp (disch:=first|omega|simp only[zD]<;>omega|assumption) only[↓zR,↓zRM,zR,zRM,reduceAdd,reduceMul,reduceToNat,↓f211_J0,↓f211_J7,↓f211_L12,↓f211_J13,↓f211_J11,l1,cu1,cu,w228,ci,↓mks,c0,zbR,ll,eq_false hxn,eq_false hx0'];exact hk _ _ ⟨e1,.inr ⟨h.n,0,x,none,rep x [.str []],by rw[zao,List.length_replicate],by rw[H.n_push];omega,by rw[gn0];rfl,by rw[hx0];rfl,by rw[zao,List.length_replicate,rl];omega⟩⟩
 have c1:∀(kk:K β),qCpy 1 (.sl h.n 0 x x none) (.sl b 0 1 1 none) (h.push (.own 0 (rep x [.str []]))) (.mk kk)=kk (.int .i64 1) ((h.push (.own 0 (rep x [.str []]))).set h.n (.own 0 (zW (rep x [.str []]) 0 [.str s]))):=λkk=>by
  have:=cpy (h.push (.own 0 (rep x [.str []]))) 0 x x 0 1 1 b (rep x [.str []]) [.str s] kk gn0 g00 (by simp) (by rw[rl];omega) (by rw[if_pos (by omega)];omega)
  rw[if_pos (by omega)] at this;exact this
 obtain⟨pt1,pt2⟩:=zch (rep x [.str []]) [.str s] 0 (by rw[rl];simp;omega);have slo:∀(j:Nat) (_:j<=x) (bb:Nat) (kk:VK β),qSlL 1 true false false (.sl bb 0 x x none) [.int .i64 (j:Int)] (.mk kk)=kk (.sl bb j (x-j) (x-j) none):=λj hj bb kk=>by
  have hb:zS true false false [.int .i64 (j:Int)] x x=some (j,x,x):=by
   simp only[zS,zN,if_pos (show (0:Int)<=(j:Int) by omega),Option.bind_some,Int.toNat_natCast];rw[if_pos (by omega)]
  show pSlL 1 true false false (.sl bb 0 x x none) [.int .i64 (j:Int)] kk=_;simp only[pSlL,aSl,bnd,hb,zDq9,Nat.add_eq,Nat.mul_eq,Nat.zero_add,Nat.mul_one,Nat.sub_eq];rfl
 simp (disch:=first|omega|simp only[zD]<;>omega|assumption) only[↓zR,↓zRM,zR,zRM,reduceAdd,reduceMul,reduceToNat,↓f211_J0,↓f211_J7,l1,cu1,cu,w228,ci,↓mks,c1,eq_false hxn];refine zay 11 (m+9) _ _ (λi x0 x1 x2 x3 x4 x5 x6 x7 x8 x9 x10 h'=>Ext h h'/\h.n<h'.n/\x5 = .sl h.n 0 x x none/\∃(j:Nat) (cs:List AV),x6 = .int .i64 (j:Int)/\j+i=x/\1<=j/\h'.get h.n = .own 0 cs/\cs.length=x/\cs.take j=strs (List.replicate j s)) (x-1) (by omega) ?_ _ _ _ _ _ _ _ _ _ _ _ _
  ⟨e1.set (Nat.le_refl _) _,by rw[H.n_set,H.n_push];omega,rfl,1,zW (rep x [.str []]) 0 [.str s],rfl,by omega,Nat.le_refl _,zl rfl,by rw[pt2,rl],pt1⟩
 intro l i ih x0 x1 x2 x3 x4 x5 x6 x7 x8 x9 x10 h' ⟨f1,f0,p5,j,cs,p6,f2,f3,f4,f5,f6⟩;subst p5 p6
 by_cases hi:i=0
 ·have hj:j=x:=by omega
  have cj:¬ (j:Int)<(x:Int):=by omega
  simp (disch:=first|omega|simp only[zD]<;>omega|assumption) only[↓zR,↓zRM,zR,zRM,reduceAdd,reduceMul,reduceToNat,↓f211_J11,↓f211_J13,↓f211_L12,↓f211_J7,↓f211_J0,ll,eq_false cj];refine hk _ _ ⟨f1,.inr ⟨h.n,0,x,none,cs,by rw[zao,List.length_replicate],f0,by rw[f4];rfl,?_,by rw[zao,List.length_replicate];omega⟩⟩;rw[zao,List.length_replicate,List.drop_zero,<- hj];exact f6
 ·have cj:(j:Int)<(x:Int):=by omega
  have slo':=slo j (by omega) h.n;have shi:=λkk:VK β=>ziC (es:=1) (b:=h.n) (o:=0) (l:=x) (m:=x) (g:=none) (kd:=.i64) (i:=(j:Int)) (.inl rfl) (by omega) (by omega) kk
  rw[Int.toNat_natCast] at shi;obtain⟨mm,hmm⟩:∃mm,mm=(if j<=x-j then j else x-j):=⟨_,rfl⟩
  have hm1:mm<=j/\mm<=x-j/\1<=mm:=by rw[hmm];split<;>omega
  have c2:∀(kk:K β),qCpy 1 (.sl h.n j (x-j) (x-j) none) (.sl h.n 0 j x none) h' (.mk kk)=kk (.int .i64 (mm:Int)) (h'.set h.n (.own 0 (zW cs j (cs.take mm)))):=λkk=>by
   have:=cpy h' j (x-j) (x-j) 0 j x h.n cs cs kk f4 (by rw[f4];rfl) (by omega) (by omega) (by rw[<- hmm];omega)
   rw[<- hmm,List.drop_zero] at this;exact this
  have tl:(cs.take mm).length=mm:=by rw[List.length_take];omega
  obtain⟨q1,q2⟩:=zch cs (cs.take mm) j (by rw[tl];omega);rw[tl] at q1;have ej:(j:Int)+(mm:Int)=((j+mm:Nat):Int):=by omega
  simp (disch:=first|omega|simp only[zD]<;>omega|assumption) only[↓zR,↓zRM,zR,zRM,reduceAdd,reduceMul,reduceToNat,↓f211_J11,↓f211_J13,↓f211_L12,↓f211_J7,↓f211_J0,ll,eq_true cj,slo',shi,c2,ej];refine ih (i-mm) (by omega) _ _ _ _ _ _ _ _ _ _ _ _ ⟨f1.set (Nat.le_refl _) _,by rw[H.n_set];exact f0,rfl,j+mm,zW cs j (cs.take mm),rfl,by omega,by omega,zl rfl,by rw[q2,f5],?_⟩;rw[q1,f6];have:cs.take mm=(cs.take j).take mm:=by rw[List.take_take,Nat.min_eq_left hm1.1]
  rw[this,f6];have t2:(strs (List.replicate j s)).take mm=strs (List.replicate mm s):=by
   unfold strs;rw[<- List.map_take,List.take_replicate,Nat.min_eq_left hm1.1]
  rw[t2];unfold strs;rw[<- List.map_append,List.replicate_append_replicate]
theorem GNM.w185(TN:GNM t)(T:GA t)(L:GI t)(n:Nat)(hn:40<=n){h:H}{b:Nat}{p:List Df}{f:Fnd}(fo:FndOk p f){w:AV}(hb:b<h.n)(hc:(h.get b).cells=some [.int .i64 f.kind,.int .i64 f.num,w])(lw:∀kc:VK β,qLenL w (.mk kc)=kc (.int .i64 (f.parts.length:Int)))(cw:∀kc:VK β,za2 w w (.mk kc)=kc w) :
  Sp (β:=β) (zb t stdI n (.fn 185 []) [.ptr b 0] h) λu h'=>Ext h h'/\u = .str (zja f):=by
 intro k R hk;obtain⟨m,rfl⟩:∃m,n=m+3:=⟨n-3,by omega⟩
 have hr:=fo.2.2.2.2.1;have h3:=fo.2.2.1;unfold zja at hk
 by_cases c3:f.kind=3
 ·rw[if_pos c3] at hk;rw[TN.c185];unfold f185;simp (disch:=first|omega|simp only[zD]<;>omega|assumption) only[↓zR,↓zRM,zR,zRM,reduceAdd,reduceMul,reduceToNat,zaT,hc,eq_true c3];exact hk _ _ ⟨Ext.refl h,rfl⟩
 rw[if_neg c3] at hk
 by_cases c1:f.kind=1
 ·rw[if_pos c1] at hk;rw[TN.c185];unfold f185;simp (disch:=first|omega|simp only[zD]<;>omega|assumption) only[↓zR,↓zRM,zR,zRM,reduceAdd,reduceMul,reduceToNat,zaT,hc,eq_false c3,eq_true c1,L.w29];exact hk _ _ ⟨Ext.refl h,rfl⟩
 rw[if_neg c1] at hk;have W:=TN.w211 (β:=β) (m+2) (by omega) (h:=h.push (.own 0 [.str [95]])) (b:=h.n) (s:=[95]) (by rw[H.n_push];omega) (zk rfl) f.parts.length h3;have e0:Ext h (h.push (.own 0 [.str [95]])):=(Ext.refl h).push _;rw[TN.c185];unfold f185;simp (disch:=first|omega|simp only[zD]<;>omega|assumption) only[↓zR,↓zRM,zR,zRM,reduceAdd,reduceMul,reduceToNat,↓f185_J0,zaT,hc,eq_false c3,eq_false c1,lw,cw,zfP];refine W _ _ ?_;intro u h2 ⟨e2,hs⟩;have hc2:(h2.get b).cells=some [.int .i64 f.kind,.int .i64 f.num,w]:=by rw[e2.get _ (by rw[H.n_push];omega),e0.get _ hb];exact hc
 have hl:(Lib.join (List.replicate f.parts.length ([95]:List UInt8)) [32]).length<=140737488355328:=by
  have:f.parts.length=0\/f.parts.length=1\/f.parts.length=2\/f.parts.length=3:=by omega
  rcases this with q|q|q|q<;>rw[q]<;>simp[List.replicate,Lib.join]
 have wc:=λkk:K β=>T.w27 L m f.num (List.replicate f.parts.length [95]) u h2 hs (by omega) (by omega) (by simp;omega) hl kk
 simp (disch:=first|omega|simp only[zD]<;>omega|assumption) only[↓zR,↓zRM,zR,zRM,reduceAdd,reduceMul,reduceToNat,hc2,zfP,wc];exact hk _ _ ⟨e0.trans e2,rfl⟩
theorem ziJ{h h':H}{lo hi:Nat}{cur:AV}{cs:List AV}{rows:List (List AV)}(ho:zab h' lo hi 4 cur cs)(h8:cs=rows.flatten)(h5:∀r ∈ rows,r.length=4)(h1:h.n<=lo)(h2:hi<=h'.n):zb2 h h' cur rows:=by
 have hfl:=zbq _ h5;rcases ho with⟨q1,q2⟩|⟨b,l',q1,q2,q3,q4,q5,q6⟩
 ·refine .inl ⟨q1,?_⟩;rw[<- h8,q2,List.length_nil] at hfl;exact List.eq_nil_of_length_eq_zero (by omega)
 ·have hl':l'=rows.length:=by rw[<- h8,q5] at hfl;omega
  rw[hl'] at q1;exact .inr ⟨b,_,_,q1,by omega,by omega,by rw[q4,h8]⟩
theorem zcX:∀(xs:List (List UInt8)),∀r ∈ xs.map zbA,r.length=4:=λxs r hr=>by
 obtain⟨y,_,rfl⟩:=List.mem_map.1 hr;rfl
def NewPost(p:List Df)(f:Int)(args:List (List UInt8))(fuel:Int)(pv:AV)(h:H)(u:AV)(h':H):Prop:=Ext h h' /\
 if za3 p f args fuel then ∃lb cs,u = .tup [.ptr lb 0,.agg cs,.bool true]/\h.n<=lb/\lb<h'.n/\h'.get lb = .own 0 [pv,.int .i64 fuel]/\TPC p (h'.set lb .dead) cs (zdV p f.toNat args)
 else u = .tup [.nilp,.agg [.str [],.nils,.int .i64 0,.nils],.bool false]
theorem GNM.w181(TN:GNM t)(TC:GC t)(T:GA t)(L:GI t)(n:Nat){h:H}{pv:AV}{p:List Df}(hp:LAt 2 DfC h pv p)(hl:p.length<=9223372036854775807)(hl2:∀d ∈ p,d.body.length<=9223372036854775807){av:AV}{args:List (List UInt8)}(ha:SlAt h av (strs args))(hn:args.length+1100<=n)(f fuel:Int) :
  Sp (β:=β) (zb t stdI n (.fn 181 []) [.agg [pv],.int .i64 f,av,.int .i64 fuel] h) λu h'=>NewPost p f args fuel pv h u h':=by
 intro k R hk;obtain⟨m,rfl⟩:∃m,n=m+2:=⟨n-2,by omega⟩
 have hroom:room=68719476736:=rfl;have hbx:∀(hh:H) (kk:K β),qBox 0 (.agg [pv]) hh (.mk kk)=kk (.ptr hh.n 0) (hh.push (.own 0 [pv])):=λhh kk=>zac 0 _ hh kk
 have lp:=hp.len (β:=β);have la:∀kc:VK β,qLenL av (.mk kc)=kc (.int .i64 (args.length:Int)):=λkc=>by rw[ha.len,zao]
 obtain⟨hA,ehA⟩:∃hA,hA=(h.push (.own 0 [pv])).push (.own 0 [.str [],.nils,.int .i64 0,.nils]):=⟨_,rfl⟩
 have tA:(h.push (.own 0 [pv])).push (.own 0 [.str [],.nils,.int .i64 0,.nils])=hA:=ehA.symm;have nA:hA.n=h.n+2:=by rw[ehA];simp only[H.n_push]
 have eA:Ext h hA:=by rw[ehA];exact ((Ext.refl h).push _).push _
 have cA:(hA.get h.n).cells=some [pv]:=by rw[ehA,ze (by rw[H.n_push];omega),zk rfl];rfl
 have zA:hA.get (h.n+1) = .own 0 [.str [],.nils,.int .i64 0,.nils]:=by rw[ehA,zk (by rw[H.n_push])]
 have W:=TC.w157 (β:=β) T (m+1) (by omega) (h:=hA) (a:=.agg [pv]) ⟨pv,rfl,hp.ext DfC.stays eA⟩ hl hl2;have bz:∀kc:VK β,zn [.str [],.nils,.int .i64 0,.nils] [] [] (.mk kc)=kc (.agg [.str [],.nils,.int .i64 0,.nils]):=λkc=>rfl
 have pz:∀a b c d:AV,zW [.str [],.nils,.int .i64 0,.nils] 0 [a,b,c,d]=[a,b,c,d]:=λa b c d=>rfl
 have no:∀h',Ext hA h'->¬ za3 p f args fuel->k (.tup [.nilp,.agg [.str [],.nils,.int .i64 0,.nils],.bool false]) (h'.set (h.n+1) (.own 0 [.str [],.nils,.int .i64 0,.nils]))=R:=λh' e hno=>
  hk _ _ ⟨(eA.trans e).set (by omega) _,by rw[if_neg hno]⟩
 cases hpm:zJ p with
 | false=>
  rw[TN.c181];unfold f181;simp (disch:=first|omega|simp only[zD]<;>omega|assumption) only[↓zR,↓zRM,zR,zRM,reduceAdd,reduceMul,reduceToNat,↓hbx,tA];refine W _ _ ?_;intro u h1 ⟨e1,eu⟩;subst eu;have z1:zB (h1.get (h.n+1))=some (0,[.str [],.nils,.int .i64 0,.nils]):=by rw[e1.get _ (by omega),zA];rfl
  simp (disch:=first|omega|simp only[zD]<;>omega|assumption) only[↓zR,↓zRM,zR,zRM,reduceAdd,reduceMul,reduceToNat,hpm,↓bz,z1,pz];exact no h1 e1 (λhh=>by rw[hh.1] at hpm;cases hpm)
 | true=>
 by_cases h1:0<=f
 case neg=>
  rw[TN.c181];unfold f181;simp (disch:=first|omega|simp only[zD]<;>omega|assumption) only[↓zR,↓zRM,zR,zRM,reduceAdd,reduceMul,reduceToNat,↓hbx,tA];refine W _ _ ?_;intro u h1' ⟨e1,eu⟩;subst eu;have z1:zB (h1'.get (h.n+1))=some (0,[.str [],.nils,.int .i64 0,.nils]):=by rw[e1.get _ (by omega),zA];rfl
  have h1f:f<0:=by omega
  simp (disch:=first|omega|simp only[zD]<;>omega|assumption) only[↓zR,↓zRM,zR,zRM,reduceAdd,reduceMul,reduceToNat,hpm,↓bz,z1,pz,eq_true h1f];exact no h1' e1 (λhh=>h1 hh.2.1)
 have h1f:¬ f<0:=by omega
 by_cases h2:f<(p.length:Int)
 case neg=>
  rw[TN.c181];unfold f181;simp (disch:=first|omega|simp only[zD]<;>omega|assumption) only[↓zR,↓zRM,zR,zRM,reduceAdd,reduceMul,reduceToNat,↓hbx,tA];refine W _ _ ?_;intro u h1' ⟨e1,eu⟩;subst eu;have z1:zB (h1'.get (h.n+1))=some (0,[.str [],.nils,.int .i64 0,.nils]):=by rw[e1.get _ (by omega),zA];rfl
  have c1:(h1'.get h.n).cells=some [pv]:=by rw[e1.get _ (by omega)];exact cA
  have h2f:(p.length:Int)<=f:=by omega
  simp (disch:=first|omega|simp only[zD]<;>omega|assumption) only[↓zR,↓zRM,zR,zRM,reduceAdd,reduceMul,reduceToNat,hpm,↓bz,z1,pz,eq_false h1f,c1,lp,eq_true h2f];exact no h1' e1 (λhh=>h2 hh.2.2.1)
 have h2f:¬ (p.length:Int)<=f:=by omega
 obtain⟨df,hd⟩:∃df,p[f.toNat]?=some df:=⟨_,List.getElem?_eq_getElem (by omega)⟩
 have hpar:=zdA hd;have hnum:f=((f.toNat:Nat):Int):=by omega
 obtain⟨db,dO,dcs,q1,q2,bv,rfl,q3⟩:=hp.at (β:=β) hd;rw[<- hnum] at q1;obtain⟨dus,r1,_,_,r4⟩:=q2.get;have rg:dus[dO]?=some (.int .i64 df.params):=r4 0 _ rfl;have hdb:=q2.1
 by_cases h3:(args.length:Int)=df.params
 case neg=>
  rw[TN.c181];unfold f181;simp (disch:=first|omega|simp only[zD]<;>omega|assumption) only[↓zR,↓zRM,zR,zRM,reduceAdd,reduceMul,reduceToNat,↓hbx,tA];refine W _ _ ?_;intro u h1' ⟨e1,eu⟩;subst eu;have z1:zB (h1'.get (h.n+1))=some (0,[.str [],.nils,.int .i64 0,.nils]):=by rw[e1.get _ (by omega),zA];rfl
  have c1:(h1'.get h.n).cells=some [pv]:=by rw[e1.get _ (by omega)];exact cA
  have d1:(h1'.get db).cells=some dus:=by rw[e1.get _ (by omega),eA.get _ hdb];exact r1
  simp (disch:=first|omega|simp only[zD]<;>omega|assumption) only[↓zR,↓zRM,zR,zRM,reduceAdd,reduceMul,reduceToNat,hpm,↓bz,z1,pz,eq_false h1f,c1,lp,eq_false h2f,q1,d1,rg,la,eq_false h3];exact no h1' e1 (λhh=>h3 (by rw[<- hpar];exact hh.2.2.2.1))
 have hal2:args.length<9223372036854775807:=by have:=ziA hpm hd;omega
 have WA:∀h1',Ext hA h1'->Sp (β:=β) (zb t stdI (m+1) (.fn 26 []) [av] h1') λu h'=>Ext h1' h'/\u = .bool (args.all mayP):=λh1' e1=>T.w26 L (m+1) args av h1' (ha.ext (eA.trans e1)) (by omega) hal2
 cases hall:args.all mayP with
 | false=>
  rw[TN.c181];unfold f181;simp (disch:=first|omega|simp only[zD]<;>omega|assumption) only[↓zR,↓zRM,zR,zRM,reduceAdd,reduceMul,reduceToNat,↓hbx,tA];refine W _ _ ?_;intro u h1' ⟨e1,eu⟩;subst eu;have c1:(h1'.get h.n).cells=some [pv]:=by rw[e1.get _ (by omega)];exact cA
  have d1:(h1'.get db).cells=some dus:=by rw[e1.get _ (by omega),eA.get _ hdb];exact r1
  simp (disch:=first|omega|simp only[zD]<;>omega|assumption) only[↓zR,↓zRM,zR,zRM,reduceAdd,reduceMul,reduceToNat,hpm,eq_false h1f,c1,lp,eq_false h2f,q1,d1,rg,la,eq_true h3];refine WA h1' e1 _ _ ?_;intro u h2' ⟨e2,eu⟩;subst eu;have z2:zB (h2'.get (h.n+1))=some (0,[.str [],.nils,.int .i64 0,.nils]):=by rw[e2.get _ (by have:=e1.n;omega),e1.get _ (by omega),zA];rfl
  simp (disch:=first|omega|simp only[zD]<;>omega|assumption) only[↓zR,↓zRM,zR,zRM,reduceAdd,reduceMul,reduceToNat,hall,↓bz,z2,pz];exact no h2' (e1.trans e2) (λhh=>by rw[hh.2.2.2.2.1] at hall;cases hall)
 | true=>
 by_cases h5:0<=fuel/\fuel<=400
 case neg=>
  have no5:¬ za3 p f args fuel:=λhh=>h5 ⟨hh.2.2.2.2.2.1,hh.2.2.2.2.2.2⟩
  by_cases h6:fuel<0
  ·rw[TN.c181];unfold f181;simp (disch:=first|omega|simp only[zD]<;>omega|assumption) only[↓zR,↓zRM,zR,zRM,reduceAdd,reduceMul,reduceToNat,↓hbx,tA];refine W _ _ ?_;intro u h1' ⟨e1,eu⟩;subst eu;have c1:(h1'.get h.n).cells=some [pv]:=by rw[e1.get _ (by omega)];exact cA
   have d1:(h1'.get db).cells=some dus:=by rw[e1.get _ (by omega),eA.get _ hdb];exact r1
   simp (disch:=first|omega|simp only[zD]<;>omega|assumption) only[↓zR,↓zRM,zR,zRM,reduceAdd,reduceMul,reduceToNat,hpm,eq_false h1f,c1,lp,eq_false h2f,q1,d1,rg,la,eq_true h3];refine WA h1' e1 _ _ ?_;intro u h2' ⟨e2,eu⟩;subst eu;have z2:zB (h2'.get (h.n+1))=some (0,[.str [],.nils,.int .i64 0,.nils]):=by rw[e2.get _ (by have:=e1.n;omega),e1.get _ (by omega),zA];rfl
   simp (disch:=first|omega|simp only[zD]<;>omega|assumption) only[↓zR,↓zRM,zR,zRM,reduceAdd,reduceMul,reduceToNat,hall,↓bz,z2,pz,eq_true h6];exact no h2' (e1.trans e2) no5
  ·have h7:400<fuel:=by omega
   rw[TN.c181];unfold f181;simp (disch:=first|omega|simp only[zD]<;>omega|assumption) only[↓zR,↓zRM,zR,zRM,reduceAdd,reduceMul,reduceToNat,↓hbx,tA];refine W _ _ ?_;intro u h1' ⟨e1,eu⟩;subst eu;have c1:(h1'.get h.n).cells=some [pv]:=by rw[e1.get _ (by omega)];exact cA
   have d1:(h1'.get db).cells=some dus:=by rw[e1.get _ (by omega),eA.get _ hdb];exact r1
   simp (disch:=first|omega|simp only[zD]<;>omega|assumption) only[↓zR,↓zRM,zR,zRM,reduceAdd,reduceMul,reduceToNat,hpm,eq_false h1f,c1,lp,eq_false h2f,q1,d1,rg,la,eq_true h3];refine WA h1' e1 _ _ ?_;intro u h2' ⟨e2,eu⟩;subst eu;have z2:zB (h2'.get (h.n+1))=some (0,[.str [],.nils,.int .i64 0,.nils]):=by rw[e2.get _ (by have:=e1.n;omega),e1.get _ (by omega),zA];rfl
   simp (disch:=first|omega|simp only[zD]<;>omega|assumption) only[↓zR,↓zRM,zR,zRM,reduceAdd,reduceMul,reduceToNat,hall,↓bz,z2,pz,eq_false h6,eq_true h7];exact no h2' (e1.trans e2) no5
 have h6:¬ fuel<0:=by omega
 have h7:¬ 400<fuel:=by omega
 have hm:za3 p f args fuel:=⟨hpm,h1,h2,by rw[hpar];exact h3,hall,h5.1,h5.2⟩
 obtain⟨df',hd',hb,hb1,hb24,ha8,wf,_⟩:=zej hm;have:df'=df:=by rw[hd] at hd';cases hd';rfl
 subst this;have scp:=hp.sc;have bu:∀kc:VK β,zn [.nils,.int .i64 0] [(0,1),(1,1)] [pv,.int .i64 fuel] (.mk kc)=kc (.agg [pv,.int .i64 fuel]):=λkc=>by
  rw[zar _ _ _ _ scp _ (by simp),zau _ _ _ _ _ _ (by simp),zaS];rfl
 have hbn:∀(hh:H) (kk:K β),qBox 0 (.agg [pv,.int .i64 fuel]) hh (.mk kk)=kk (.ptr hh.n 0) (hh.push (.own 0 [pv,.int .i64 fuel])):=λhh kk=>zac 0 _ hh kk
 rw[TN.c181];unfold f181;simp (disch:=first|omega|simp only[zD]<;>omega|assumption) only[↓zR,↓zRM,zR,zRM,reduceAdd,reduceMul,reduceToNat,↓hbx,tA];refine W _ _ ?_;intro u h1' ⟨e1,eu⟩;subst eu;have c1:(h1'.get h.n).cells=some [pv]:=by rw[e1.get _ (by omega)];exact cA
 have d1:(h1'.get db).cells=some dus:=by rw[e1.get _ (by omega),eA.get _ hdb];exact r1
 simp (disch:=first|omega|simp only[zD]<;>omega|assumption) only[↓zR,↓zRM,zR,zRM,reduceAdd,reduceMul,reduceToNat,hpm,eq_false h1f,c1,lp,eq_false h2f,q1,d1,rg,la,eq_true h3];refine WA h1' e1 _ _ ?_;intro u h2' ⟨e2,eu⟩;subst eu;have e12:=e1.trans e2;have n12:=e12.n;have c2:(h2'.get h.n).cells=some [pv]:=by rw[e12.get _ (by omega)];exact cA
 have eh2:=eA.trans e12;have hs2:=ha.ext eh2;simp (disch:=first|omega|simp only[zD]<;>omega|assumption) only[↓zR,↓zRM,zR,zRM,reduceAdd,reduceMul,reduceToNat,↓f181_J2,hall,eq_false h6,eq_false h7,c2,↓bu,↓hbn,la];refine zay 18 (m+1) _ _ (λi x0 x1 x2 x3 x4 x5 x6 x7 x8 x9 x10 x11 x12 x13 x14 x15 x16 x17 h'=>Ext h2' h'/\x1 = .int .i64 f/\x6 = .ptr (h.n+1) 0/\x8 = .ptr h2'.n 0/\x12=av/\x13 = .int .i64 (args.length:Int)/\h'.get h2'.n = .own 0 [pv,.int .i64 fuel]/\∃(j lo hi:Nat) (cs:List AV),x14 = .int .i64 (j:Int)/\j+i=args.length/\h2'.n+1<=lo/\lo<=hi/\hi<=h'.n/\zab h' lo hi 4 x9 cs/\cs=((args.take j).map zbA).flatten) args.length (by omega) ?_ _ _ _ _ _ _ _ _ _ _ _ _ _ _ _ _ _ _ _
  ⟨(Ext.refl h2').push _,rfl,rfl,rfl,rfl,rfl,zk rfl,0,h2'.n+1,h2'.n+1,[],rfl,by omega,Nat.le_refl _,Nat.le_refl _,by rw[H.n_push];omega,zab.nil _ _ _ _,rfl⟩
 intro l i ih x0 x1 x2 x3 x4 x5 x6 x7 x8 x9 x10 x11 x12 x13 x14 x15 x16 x17 h' ⟨f1,p1,p6,p8,p12,p13,f0,j,lo,hi,cs,p14,f2,f3,f4,f5,f7,f8⟩;subst p1 p6 p8 p12 p13 p14;have nn:=f1.n;have csc:=f7.sc;cases i with
 | zero=>
  have hj:j=args.length:=by omega
  have cj:¬ (j:Int)<(args.length:Int):=by omega
  rw[hj,List.take_length] at f8;have hnr:zb2 (h2'.push (.own 0 [pv,.int .i64 fuel])) h' x9 (args.map zbA):=ziJ f7 f8 (zcX args) (by rw[H.n_push];omega) f5;have cl:(h'.get h2'.n).cells=some [pv,.int .i64 fuel]:=by rw[f0];rfl
  have W5:=TN.w205g (β:=β) m (Un.of (eh2.trans f1)) (lb:=h2'.n) (by omega) cl hp (f:=f.toNat) hd csc hb1 (by omega);rw[<- hnum] at W5;simp (disch:=first|omega|simp only[zD]<;>omega|assumption) only[↓zR,↓zRM,zR,zRM,reduceAdd,reduceMul,reduceToNat,↓f181_J7,↓f181_J14,↓f181_J13,↓f181_L11,↓f181_J2,eq_false cj];refine W5 _ _ ?_;intro u h3 ⟨e3,bv',eu,lat,hnb⟩;subst eu;have n3:=e3.n;have z3:zB (h3.get (h.n+1))=some (0,[.str [],.nils,.int .i64 0,.nils]):=by rw[e3.get _ (by omega),f1.get _ (by omega),e12.get _ (by omega),zA];rfl
  simp (disch:=first|omega|simp only[zD]<;>omega|assumption) only[↓zR,↓zRM,zR,zRM,reduceAdd,reduceMul,reduceToNat,↓f181_J7,↓f181_J14,↓f181_J13,↓f181_L11,↓f181_J2,z3,pz];have eF:Ext h (h3.set (h.n+1) (.own 0 [.str [],bv',.int .i64 ((df'.body.length-1:Nat):Int),x9])):=((eh2.trans f1).trans e3).set (by omega) _;refine hk _ _ ⟨eF,?_⟩;rw[if_pos hm];refine⟨h2'.n,_,rfl,by omega,by rw[H.n_set];omega,by rw[zg (by omega),e3.get _ (by omega)];exact f0,?_⟩;unfold zdV;rw[hb];obtain⟨gF,egF⟩:∃gF,gF=(h3.set (h.n+1) (.own 0 [.str [],bv',.int .i64 ((df'.body.length-1:Nat):Int),x9])).set h2'.n .dead:=⟨_,rfl⟩
  have ngF:gF.n=h3.n:=by rw[egF];simp only[H.n_set]
  have agr:∀i,i≠h2'.n->i≠h.n+1->i<h'.n->gF.get i=h'.get i:=λi q1 q2 q3=>by
   rw[egF,zg (by omega),zg (by omega),e3.get i q3]
  rw[<- egF];have uF:Un h gF:=⟨by omega,λi hi _=>by rw[agr i (by omega) (by omega) (by omega),f1.get i (by omega),eh2.get i hi]⟩
  obtain⟨rr,v1,v2,v3⟩:=(hnr.lat (C:=TPC p) (g:=gF) (xs:=args.map .term) (zcX args) (by rw[List.length_map,List.length_map]) (by omega) (λi p q=>by
   rw[H.n_push] at p;exact agr i (by omega) (by omega) q) λq r x hr hx=>by
    rw[List.getElem?_map] at hr hx;cases hq:args[q]? with
    | none=>rw[hq] at hr;cases hr
    | some y=>rw[hq] at hr hx;cases hr;cases hx;exact .term y).rows
  exact .part hd (lat.un ExC.staysU uF) hnb rr v1 v2 v3
 | succ i=>
  have hj:j<args.length:=by omega
  have hkq:args[j]?=some (args.getD j []):=by rw[List.getD_eq_getElem?_getD,List.getElem?_eq_getElem hj];rfl
  have hld:=λkc:VK β=>(hs2.ext f1).loadS (i:=(j:Int)) (kd:=.i64) (by omega) (by omega) kc
  rw[Int.toNat_natCast] at hld;generalize hky:args.getD j []=y at hkq hld;have cj:(j:Int)<(args.length:Int):=by omega
  simp (disch:=first|omega|simp only[zD]<;>omega|assumption) only[↓zR,↓zRM,zR,zRM,reduceAdd,reduceMul,reduceToNat,↓f181_J7,↓f181_J14,↓f181_J13,↓f181_L11,↓f181_J2,eq_true cj,hld];refine TN.w204 m y h' _ _ ?_;intro v h3 ⟨x1,x2⟩;subst x2;have hx1:=x1.n;have hrow:=λ(hh:H) (kc:K β)=>thRow (β:=β) (.str y) .nils (.int .i64 0) .nils hh kc
  simp (disch:=first|omega|simp only[zD]<;>omega|assumption) only[↓zR,↓zRM,zR,zRM,reduceAdd,reduceMul,reduceToNat,↓f181_J7,↓f181_J14,↓f181_J13,↓f181_L11,↓f181_J2,↓hrow];have hpu:∀i,i<h3.n->(h3.push (.own 0 (zbA y))).get i=h3.get i:=λi hi=>ze (by omega)
  have hsrc:∀c:Nat->List AV->Option β,fSrc 4 (.sl h3.n 0 1 1 none) (h3.push (.own 0 (zbA y))) c=c 1 (zbA y):=by
   intro c;have:((h3.push (.own 0 (zbA y))).get h3.n).cells=some (zbA y):=by rw[zk rfl];rfl
   show (cells _ h3.n λcs=>cond (Nat.ble (Nat.add 0 (Nat.mul 1 4)) (lenF cs)) (c 1 (za8 (Nat.mul 1 4) (zbK 0 cs))) none)=_;rw[zae,this];rfl
  have hcl:cs.length=j*4:=by rw[f8,zbq _ (zcX _),List.length_map,List.length_take];omega
  refine zgz (lo:=lo) (hi:=hi) (cs:=cs) (f7.mono (Nat.le_refl _) (Nat.le_refl _) λi p1 p2=>(hpu i (by omega)).trans (x1.get i (by omega))) (by rw[H.n_push];omega) hsrc rfl (by omega) (by omega) (by omega) (by omega) ?_;intro L' h4 z1 z2 z3 z4;rw[H.n_push] at z1 z2 z4;have hL:L'=j+1:=by rw[List.length_append,hcl] at z3;simp only[zbA,List.length_cons,List.length_nil] at z3;omega
  subst hL;have z5:∀i,i<h3.n->(i<lo\/hi<=i)->h4.get i=h3.get i:=λi p1 p2=>(z4 i (by omega) p2).trans (hpu i p1)
  simp (disch:=first|omega|simp only[zD]<;>omega|assumption) only[↓zR,↓zRM,zR,zRM,reduceAdd,reduceMul,reduceToNat,↓f181_J7,↓f181_J14,↓f181_J13,↓f181_L11,↓f181_J2];refine ih i (by omega) _ _ _ _ _ _ _ _ _ _ _ _ _ _ _ _ _ _ _ ⟨⟨by omega,λi hi=>by rw[z5 i (by omega) (.inl (by omega)),x1.get i (by omega)];exact f1.get i hi⟩,rfl,rfl,rfl,rfl,rfl,by rw[z5 _ (by omega) (.inl (by omega)),x1.get _ (by omega)];exact f0,j+1,h3.n+1,h3.n+2,cs++zbA y,zdm j,by omega,by omega,by omega,by omega,
   .inr ⟨h3.n+1,j+1,rfl,by omega,by omega,z1,z3,by omega⟩,?_⟩
  rw[f8,List.take_add_one,hkq,List.map_append,List.flatten_append];rfl
theorem GNM.w155(TN:GNM t)(TC:GC t)(T:GA t)(L:GI t)(n:Nat){h:H}{pv:AV}{p:List Df}(hp:LAt 2 DfC h pv p)(hl:p.length<=9223372036854775807)(hl2:∀d ∈ p,d.body.length<=9223372036854775807){av:AV}{args:List (List UInt8)}(ha:SlAt h av (strs args))(hn:args.length+2100<=n)(f fuel:Int) :
  Sp (β:=β) (zb t stdI n (.fn 155 []) [.agg [pv],.int .i64 f,av,.int .i64 fuel] h) λu h'=>Ext h h'/\u = .tup [.str (zfv p f args fuel).1,.int .i64 (zfv p f args fuel).2]:=by
 intro k R hk;obtain⟨m,rfl⟩:∃m,n=m+1:=⟨n-1,by omega⟩
 have hroom:room=68719476736:=rfl;have hbx:∀(hh:H) (kk:K β),qBox 0 (.agg [pv]) hh (.mk kk)=kk (.ptr hh.n 0) (hh.push (.own 0 [pv])):=λhh kk=>zac 0 _ hh kk
 have e0:Ext h (h.push (.own 0 [pv])):=(Ext.refl h).push _;have W:=TN.w181 (β:=β) TC T L m (h:=h.push (.own 0 [pv])) (hp.ext DfC.stays e0) hl hl2 (ha.ext e0) (by omega) f fuel;have c0:((h.push (.own 0 [pv])).get h.n).cells=some [pv]:=by rw[zk rfl];rfl
 have pz:∀a b c d:AV,zW [.str [],.nils,.int .i64 0,.nils] 0 [a,b,c,d]=[a,b,c,d]:=λa b c d=>rfl
 have pz3:∀a b c:AV,zW [.int .i64 0,.int .i64 0,.nils] 0 [a,b,c]=[a,b,c]:=λa b c=>rfl
 by_cases hm:za3 p f args fuel
 case neg=>
  have hN:zfv p f args fuel=([],900):=by unfold zfv;rw[if_neg hm]
  rw[hN] at hk;rw[TN.c155];unfold f155;simp (disch:=first|omega|simp only[zD]<;>omega|assumption) only[↓zR,↓zRM,zR,zRM,reduceAdd,reduceMul,reduceToNat,↓hbx,c0];refine W _ _ ?_;intro u h1 ⟨e1,eu⟩;rw[if_neg hm] at eu;subst eu;simp (disch:=first|omega|simp only[zD]<;>omega|assumption) only[↓zR,↓zRM,zR,zRM,reduceAdd,reduceMul,reduceToNat,pz];exact hk _ _ ⟨((e0.trans e1).push _).set (by have:=e1.n;rw[H.n_push] at this;omega) _,rfl⟩
 obtain⟨df,hd,hb,hb1,hb24,ha8,wf,_⟩:=zej hm;obtain⟨hpm,hf0,hf1,_,hall,hfu0,hfu1⟩:=id hm;have hfu:fuel=((fuel.toNat:Nat):Int):=by omega
 have hN:zfv p f args fuel=outN (zp p (fuel.toNat+1) fuel.toNat (zdV p f.toNat args)).1:=by unfold zfv;rw[if_pos hm]
 have hev:=zeR hpm (fuel.toNat+1) fuel.toNat _ wf;obtain⟨rs,l1,hr⟩:∃rs l1,zp p (fuel.toNat+1) fuel.toNat (zdV p f.toNat args)=(rs,l1):=⟨_,_,rfl⟩
 rw[hr] at hN hev;have LK:zd2 t p (fuel.toNat+1) m:=zho.look TN (TN.loop T L hpm (fuel.toNat+1)) (by omega);have ask:∀(h3:H) (lb:Nat) (cs:List AV) (K1:K β),Ext h h3->h.n<=lb->lb<h3.n->h3.get lb = .own 0 [pv,.int .i64 fuel]->TPC p (h3.set lb .dead) cs (zdV p f.toNat args) ->
   (∀u h4 g4,h3.n<=h4.n->(∀i,i<h3.n->i≠lb->h4.get i=h3.get i)->(match rs with
    | .bad c=>u = .tup [zdt,.int .i64 c]/\(c=901\/c=902)
    | .ok q=>∃w,u = .tup [.agg [.int .i64 q.kind,.int .i64 q.num,w],.int .i64 0]/\LAt 4 (TPC p) g4 w q.parts)->K1 u h4=R) ->
   qCall (zb t stdI m) (.fn 184 []) [.ptr lb 0,.agg cs] h3 (.mk K1)=R:=by
  intro h3 lb cs K1 e3 hlb hlb3 gl tc hK;have u3:Un (h3.set lb .dead) h3:=⟨by rw[H.n_set];exact Nat.le_refl _,λi hi hc=>by
   by_cases hi1:lb=i
   ·subst hi1;rw[zl rfl] at hc;exact absurd rfl hc
   ·rw[zg hi1]⟩
  have uh:Un h (h3.set lb .dead):=⟨by rw[H.n_set];exact e3.n,λi hi hc=>by rw[zg (by omega),e3.get i hi]⟩
  refine LK u3 (by rw[H.n_set]) hlb3 (by rw[zl rfl];rfl) (by rw[<- hfu];exact gl) (hp.un DfC.staysU uh) tc wf (by omega) (by omega) _ _ ?_;intro u h4 ⟨g4,a1,a2,a3,a4,a5,a6,a7⟩;refine hK u h4 g4 a4 a5 ?_;rw[hr] at a7;cases rs with
  | bad c=>exact a7
  | ok q=>obtain⟨w,b1,b2,b3⟩:=a7;exact⟨w,b1,b3⟩
 cases rs with
 | bad c=>
  rw[TN.c155];unfold f155;simp (disch:=first|omega|simp only[zD]<;>omega|assumption) only[↓zR,↓zRM,zR,zRM,reduceAdd,reduceMul,reduceToNat,↓hbx,c0];refine W _ _ ?_;intro u h1 ⟨e1,eu⟩;rw[if_pos hm] at eu;obtain⟨lb,cs,eu,hlb,hlb1,gl,tc⟩:=eu;have h4l:=tc.len;obtain⟨x0,x1,x2,x3,rfl⟩:∃x0 x1 x2 x3,cs=[x0,x1,x2,x3]:=by
   match cs,h4l with
   | [a0,a1,a2,a3],_=>exact⟨_,_,_,_,rfl⟩
  subst eu;rw[H.n_push] at hlb;have eh:=e0.trans e1;have n1:=eh.n;have e3:Ext h ((h1.push (.own 0 [.str [],.nils,.int .i64 0,.nils])).set h1.n (.own 0 [x0,x1,x2,x3])):=(eh.push _).set (by omega) _;have tc3:TPC p (((h1.push (.own 0 [.str [],.nils,.int .i64 0,.nils])).set h1.n (.own 0 [x0,x1,x2,x3])).set lb .dead) [x0,x1,x2,x3] (zdV p f.toNat args):=by
   refine tc.un ⟨by simp only[H.n_set,H.n_push];omega,λi hi _=>?_⟩;rw[H.n_set] at hi
   by_cases hi2:lb=i
   ·subst hi2;rw[zl rfl,zl rfl]
   ·rw[zg hi2,zg hi2,zg (by omega),ze (by omega)]
  simp (disch:=first|omega|simp only[zD]<;>omega|assumption) only[↓zR,↓zRM,zR,zRM,reduceAdd,reduceMul,reduceToNat,↓f155_J7,pz];refine ask _ lb [x0,x1,x2,x3] _ e3 (by omega) (by rw[H.n_set,H.n_push];omega) (by rw[zg (by omega),ze (by omega)];exact gl) tc3 ?_;intro u h4 g4 n4 k4 ⟨eu,hc⟩;subst eu;rw[H.n_set,H.n_push] at n4 k4;have c0':¬ c=0:=by omega
  unfold zdt;simp (disch:=first|omega|simp only[zD]<;>omega|assumption) only[↓zR,↓zRM,zR,zRM,reduceAdd,reduceMul,reduceToNat,pz3,eq_false c0'];refine hk _ _ ⟨⟨by simp only[H.n_set,H.n_push];omega,λi hi=>?_⟩,by rw[hN];rfl⟩;rw[zg (by omega),ze (by omega),k4 i (by omega) (by omega),zg (by omega),ze (by omega),eh.get i hi]
 | ok q=>
  have fo:FndOk p q:=hev;rw[TN.c155];unfold f155;simp (disch:=first|omega|simp only[zD]<;>omega|assumption) only[↓zR,↓zRM,zR,zRM,reduceAdd,reduceMul,reduceToNat,↓hbx,c0];refine W _ _ ?_;intro u h1 ⟨e1,eu⟩;rw[if_pos hm] at eu;obtain⟨lb,cs,eu,hlb,hlb1,gl,tc⟩:=eu;have h4l:=tc.len;obtain⟨x0,x1,x2,x3,rfl⟩:∃x0 x1 x2 x3,cs=[x0,x1,x2,x3]:=by
   match cs,h4l with
   | [a0,a1,a2,a3],_=>exact⟨_,_,_,_,rfl⟩
  subst eu;rw[H.n_push] at hlb;have eh:=e0.trans e1;have n1:=eh.n;have e3:Ext h ((h1.push (.own 0 [.str [],.nils,.int .i64 0,.nils])).set h1.n (.own 0 [x0,x1,x2,x3])):=(eh.push _).set (by omega) _;have tc3:TPC p (((h1.push (.own 0 [.str [],.nils,.int .i64 0,.nils])).set h1.n (.own 0 [x0,x1,x2,x3])).set lb .dead) [x0,x1,x2,x3] (zdV p f.toNat args):=by
   refine tc.un ⟨by simp only[H.n_set,H.n_push];omega,λi hi _=>?_⟩;rw[H.n_set] at hi
   by_cases hi2:lb=i
   ·subst hi2;rw[zl rfl,zl rfl]
   ·rw[zg hi2,zg hi2,zg (by omega),ze (by omega)]
  simp (disch:=first|omega|simp only[zD]<;>omega|assumption) only[↓zR,↓zRM,zR,zRM,reduceAdd,reduceMul,reduceToNat,↓f155_J7,pz];refine ask _ lb [x0,x1,x2,x3] _ e3 (by omega) (by rw[H.n_set,H.n_push];omega) (by rw[zg (by omega),ze (by omega)];exact gl) tc3 ?_;intro u h4 g4 n4 k4 ⟨w,eu,lat⟩;subst eu;rw[H.n_set,H.n_push] at n4 k4;have lw:=lat.len (β:=β);have cw:=lat.chk (β:=β);simp (disch:=first|omega|simp only[zD]<;>omega|assumption) only[↓zR,↓zRM,zR,zRM,reduceAdd,reduceMul,reduceToNat,↓f155_J13,pz3];refine TN.w185 T L m (by omega) fo (b:=h4.n) (w:=w) (by rw[H.n_set,H.n_push];omega) (by rw[zl rfl];rfl) lw cw _ _ ?_;intro u h6 ⟨e6,eu⟩;subst eu;have n6:=e6.n;rw[H.n_set,H.n_push] at n6;refine hk _ _ ⟨⟨by omega,λi hi=>?_⟩,by rw[hN];rfl⟩;rw[e6.get i (by rw[H.n_set,H.n_push];omega),zg (by omega),ze (by omega),k4 i (by omega) (by omega),zg (by omega),ze (by omega),eh.get i hi]
end
end Am.F
end
