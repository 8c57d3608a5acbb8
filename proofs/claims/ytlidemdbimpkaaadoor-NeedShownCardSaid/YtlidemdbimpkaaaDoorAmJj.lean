/- Texts that belong together: no condition. -/
import Derived.Test.YtlidemdbimpkaaaDoorAmJi
import Derived.Test.YtlidemdbimpkaaaDoorAmJg
import Derived.Test.YtlidemdbimpkaaaDoorAmJd
open Nat (reduceAdd reduceMul)
open Int (reduceToNat)
set_option maxRecDepth 100000
set_option linter.unusedVariables false
set_option linter.unusedSimpArgs false
set_option linter.defProp false
section
namespace Am.F
open Go Am
def zdR(p:List Df)(r:Rs × Nat)(n0:Nat)(g h:H)(lb:Nat)(pv:AV)(u:AV)(h':H):Prop :=
 ∃g',Gh g g'/\Un g' h'/\g'.n=h'.n/\h.n<=h'.n/\(∀i,i<n0->i≠lb->h'.get i=h.get i)/\h'.get lb = .own 0 [pv,.int .i64 (r.2:Int)] /\
  match r.1 with
  | .bad c=>u = .tup [zfk,.int .i64 c]/\(c=901\/c=902)
  | .ok f=>∃w,u = .tup [.agg [.int .i64 f.kind,.int .i64 f.num,w],.int .i64 0]/\w.sc=true/\LAt 4 (TPC p) g' w f.parts
structure Lst (n0 lb:Nat) (g h g' h':H):Prop where
 gh:Gh g g'
 n:h.n<=h'.n
 same:∀i,i<n0->i≠lb->h'.get i=h.get i
theorem Lst.trans{n0 lb:Nat}{g h g1 h1 g2 h2:H}(a:Lst n0 lb g h g1 h1)(b:Lst n0 lb g1 h1 g2 h2):Lst n0 lb g h g2 h2 :=
 ⟨a.gh.trans b.gh,Nat.le_trans a.n b.n,λi hi hne=>(b.same i hi hne).trans (a.same i hi hne)⟩
theorem Lst.post{p:List Df}{r:Rs × Nat}{n0 lb:Nat}{g h g1 h1:H}{pv u:AV}{h':H}(a:Lst n0 lb g h g1 h1)(b:zdR p r n0 g1 h1 lb pv u h'):zdR p r n0 g h lb pv u h':=by
 obtain⟨g',q1,q2,q3,q4,q5,q6⟩:=b;exact⟨g',a.gh.trans q1,q2,q3,Nat.le_trans a.n q4,λi hi hne=>(q5 i hi hne).trans (a.same i hi hne),q6⟩
structure LS (p:List Df) (n0 lb b2 b3:Nat) (pv:AV) (left:Nat) (cs:List AV) (th:Thg) (g h:H):Prop where
 un:Un g h
 gn:g.n=h.n
 i0:lb<n0
 i2:n0<=b2
 i3:n0<=b3
 i23:b2≠b3
 j2:b2<h.n
 j3:b3<h.n
 ll:h.get lb = .own 0 [pv,.int .i64 (left:Int)]
 l2:h.get b2 = .own 0 cs
 l3:h.get b3 = .own 0 [.int .i64 0,.int .i64 0,.nils]
 dl:(g.get lb).cells=none
 d2:(g.get b2).cells=none
 d3:(g.get b3).cells=none
 lat:LAt 2 DfC g pv p
 tpc:TPC p g cs th
 wf:WF p th
 left1000:left<=1000
theorem zaL{p:List Df}{N left d a:Nat}{env:List Thg}{df:Df}{lv:List Int}{e:Ex}(s:Stand p d a env df lv e):zA p (N+1) (left+1) (.part d a env) =
   (let kid:=λk:Nat=>Thg.part d (e.kids.getD k 0).toNat env
   if e.kind=0 then (.ok ⟨1,e.num,[]⟩,left)
   else if e.kind=1 then zA p N left (env.getD e.num.toNat default)
   else if e.kind=2 then zA p N left (.part e.num.toNat ((zo p e.num.toNat).length-1) (zaS d env e.kids))
   else if e.kind=3 then (.ok ⟨2,e.num,zaS d env e.kids⟩,left)
   else if e.kind=4 then
    match zA p N left (kid 0) with
    | (.bad c,l1)=>(.bad c,l1)
    | (.ok f,l1)=>if f.kind=1 then
      match zA p N l1 (kid 1) with
      | (.bad c,l2)=>(.bad c,l2)
      | (.ok g,l2)=>if g.kind=1 then (.ok ⟨1,doV e.num f.num g.num,[]⟩,l2) else (.ok zb5,l2)
     else (.ok zb5,l1)
   else if e.kind=5 then
    match zA p N left (kid 0) with
    | (.bad c,l1)=>(.bad c,l1)
    | (.ok f,l1)=>if f.kind=3 then (.ok f,l1)
     else if f.kind=2/\f.num=e.num/\(f.parts.length:Int)=e.bind then zA p N l1 (.part d (e.kids.getD 1 0).toNat (env++f.parts))
     else zA p N l1 (kid 2)
   else if e.kind=6 then zA p N left (.part d (e.kids.getD 1 0).toNat (env++[kid 0]))
   else (.ok zb5,left)):=by
 conv=>lhs;unfold zA
 rw[s.get];rfl
section
variable {β:Type} {t:ETree}
def Cont(p:List Df)(n0 lb b2 b3:Nat)(pv:AV)(left:Nat)(th:Thg)(g h:H)(l9:Cur β 22)(R:Option β):Prop :=
 ∀x1 x4 x5 x6 x7 x8 x9 x10 x11 x12 x13 x14 x15 x16 x17 x18 x19 x20 x21 cs' g' h',LS p n0 lb b2 b3 pv left cs' th g' h'->Lst n0 lb g h g' h'->l9 (.ptr lb 0) x1 (.ptr b2 0) (.ptr b3 0) x4 x5 x6 x7 x8 x9 x10 x11 x12 x13 x14 x15 x16 x17 x18 x19 x20 x21 h'=R
theorem LS.fin{p:List Df}{n0 lb b2 b3:Nat}{pv:AV}{left l3:Nat}{cs:List AV}{th:Thg}{g h g3 h3:H}{r:Rs × Nat}{k:K β}{R:Option β}(S:LS p n0 lb b2 b3 pv left cs th g h)(st:Lst n0 lb g h g3 h3)(u3:Un g3 h3)(n3:g3.n=h3.n)(hl:h3.get lb = .own 0 [pv,.int .i64 (l3:Int)])
  (hk:∀u h',zdR p r n0 g h lb pv u h'->k u h'=R) (hr:r.2=l3) {x y c:Int} {w:AV}
  (hm:match r.1 with|.bad c'=>c'=c/\x=0/\y=0/\w = .nils/\(c=901\/c=902)|.ok f=>f.kind=x/\f.num=y/\c=0/\w.sc=true/\LAt 4 (TPC p) g3 w f.parts) :
  k (.tup [.agg [.int .i64 x,.int .i64 y,w],.int .i64 c]) (h3.set b3 (.own 0 [.int .i64 x,.int .i64 y,w]))=R:=by
 have j:=S.i0;have j3:=S.i3
 have hid:=st.gh.hid b3 (by have:=S.gn;have:=S.j3;omega) S.d3;refine hk _ _ ⟨g3,st.gh,u3.set hid _,by rw[H.n_set];exact n3,by rw[H.n_set];exact st.n,λi hi hne=>by rw[ze (by omega)];exact st.same i hi hne,by rw[ze (by omega),hr];exact hl,?_⟩;obtain⟨rs,l⟩:=r;cases rs with
 | bad c'=>obtain⟨rfl,rfl,rfl,rfl,hc⟩:=hm;exact⟨rfl,hc⟩
 | ok f=>obtain⟨rfl,rfl,rfl,hw,hp⟩:=hm;exact⟨w,rfl,hw,hp⟩
theorem LS.ctx{p:List Df}{n0 lb b2 b3:Nat}{pv:AV}{left:Nat}{cs:List AV}{d a:Nat}{env:List Thg}{g h:H}(S:LS p n0 lb b2 b3 pv (left+1) cs (.part d a env) g h){df:Df}{lv:List Int}{e:Ex}(s:Stand p d a env df lv e) :
  ∃(bv tv:AV) (rows:List (List AV)) (h1:H) (eb eo:Nat) (us:List AV) (w:AV),cs=[.str [],bv,.int .i64 (a:Int),tv]/\LAt 4 ExC g bv df.body/\bv ≠ .nils/\LAt 4 RowC g tv rows/\rows.length=env.length/\(∀(j:Nat) (r:List AV) (x:Thg),rows[j]?=some r->env[j]?=some x->TPC p g r x)/\h1=h.set lb (.own 0 [pv,.int .i64 (left:Int)])/\Un g h1/\h1.n=h.n/\(∀i,i≠lb->h1.get i=h.get i)/\h1.get lb = .own 0 [pv,.int .i64 (left:Int)]/\Lst n0 lb g h g h1 /\
   (∀k:VK β,zM 4 bv (.int .i64 (a:Int)) (.mk k)=k (.ptr eb eo))/\InAt 4 g eb eo (zaJ e w)/\SlAt g w (ints e.kids)/\us[eo]?=some (.int .i64 e.kind)/\us[eo+1]?=some (.int .i64 e.num)/\us[eo+2]?=some (.int .i64 e.bind)/\us[eo+3]?=some w/\eb<h.n/\eb≠lb/\eb≠b2/\eb≠b3/\(h.get eb).cells=some us/\(h1.get eb).cells=some us /\
   (h.get lb).cells=some [pv,.int .i64 ((left+1:Nat):Int)]/\zG (h.get lb)=some (0,[pv,.int .i64 ((left+1:Nat):Int)])/\(h.get b2).cells=some [.str [],bv,.int .i64 (a:Int),tv]/\zG (h.get b3)=some (0,[.int .i64 0,.int .i64 0,.nils])/\zG (h.get b2)=some (0,[.str [],bv,.int .i64 (a:Int),tv])/\(h1.get b2).cells=some [.str [],bv,.int .i64 (a:Int),tv]/\zG (h1.get b3)=some (0,[.int .i64 0,.int .i64 0,.nils])/\zG (h1.get b2)=some (0,[.str [],bv,.int .i64 (a:Int),tv]) /\
   lb≠b2/\lb≠b3/\((left+1:Nat):Int)-1=(left:Int)/\([pv,.int .i64 ((left+1:Nat):Int)]:List AV).set 1 (.int .i64 (left:Int))=[pv,.int .i64 (left:Int)]/\h.set lb (.own 0 [pv,.int .i64 (left:Int)])=h1:=by
 obtain⟨un,gn,i0,i2,i3,i23,j2,j3,ll,l2,l3,dl,d2,d3,lat,tpc,wf,l1000⟩:=S;have S0:=LS.mk un gn i0 i2 i3 i23 j2 j3 ll l2 l3 dl d2 d3 lat tpc wf l1000;have tpc0:=tpc;cases tpc with
 | part hd' hb hnb rows hr hl' hen=>
 rename_i df' bv tv;have hd2:=s.hd;rw[hd2] at hd';cases hd';obtain⟨h1,eh1⟩:∃h1,h1=h.set lb (.own 0 [pv,.int .i64 (left:Int)]):=⟨_,rfl⟩
 have u1:Un g h1:=by rw[eh1];exact un.set dl _
 have n1:h1.n=h.n:=by rw[eh1,H.n_set]
 have k1:∀i,i≠lb->h1.get i=h.get i:=λi hi=>by rw[eh1,ze (by omega)]
 have kl:h1.get lb = .own 0 [pv,.int .i64 (left:Int)]:=by rw[eh1,zn rfl]
 have st1:Lst n0 lb g h g h1:=⟨Gh.refl g,by omega,λi hi hne=>k1 i hne⟩
 obtain⟨eb,eo,ecs,q1,q2,w,rfl,q3⟩:=hb.at (β:=β) s.he;have q20:=q2;obtain⟨us,b1,_,_,b4⟩:=q2.get;have g0:us[eo]?=some (.int .i64 e.kind):=b4 0 _ rfl;have g1:=b4 1 _ rfl;have g2:=b4 2 _ rfl;have g3:=b4 3 _ rfl
 have heb:eb<h.n:=by rw[<- gn];exact q20.1
 have neb:eb≠lb/\eb≠b2/\eb≠b3:=⟨λhh=>(by rw[hh,dl] at b1;cases b1),λhh=>(by rw[hh,d2] at b1;cases b1),λhh=>(by rw[hh,d3] at b1;cases b1)⟩
 obtain⟨ne1,ne2,ne3⟩:=neb;have b1:(h.get eb).cells=some us:=by rw[un.get eb q20.1 (by rw[b1];simp)];exact b1
 have b11:(h1.get eb).cells=some us:=by rw[k1 _ ne1];exact b1
 have cl:(h.get lb).cells=some [pv,.int .i64 ((left+1:Nat):Int)]:=by rw[ll];rfl
 have ol:zG (h.get lb)=some (0,[pv,.int .i64 ((left+1:Nat):Int)]):=by rw[ll];rfl
 have c2:(h.get b2).cells=some [.str [],bv,.int .i64 (a:Int),tv]:=by rw[l2];rfl
 have o3:zG (h.get b3)=some (0,[.int .i64 0,.int .i64 0,.nils]):=by rw[l3];rfl
 have o2:zG (h.get b2)=some (0,[.str [],bv,.int .i64 (a:Int),tv]):=by rw[l2];rfl
 have c21:(h1.get b2).cells=some [.str [],bv,.int .i64 (a:Int),tv]:=by rw[k1 _ (by omega)];exact c2
 have o31:zG (h1.get b3)=some (0,[.int .i64 0,.int .i64 0,.nils]):=by rw[k1 _ (by omega)];exact o3
 have o21:zG (h1.get b2)=some (0,[.str [],bv,.int .i64 (a:Int),tv]):=by rw[k1 _ (by omega)];exact o2
 have ne4:lb≠b2:=by omega
 have ne5:lb≠b3:=by omega
 have es:((left+1:Nat):Int)-1=(left:Int):=by omega
 have sset:([pv,.int .i64 ((left+1:Nat):Int)]:List AV).set 1 (.int .i64 (left:Int))=[pv,.int .i64 (left:Int)]:=rfl;have tset:h.set lb (.own 0 [pv,.int .i64 (left:Int)])=h1:=eh1.symm;exact⟨bv,tv,rows,h1,eb,eo,us,w,rfl,hb,hnb,hr,hl',hen,eh1,u1,n1,k1,kl,st1,q1,q20,q3,g0,g1,g2,g3,heb,ne1,ne2,ne3,b1,b11,cl,ol,c2,o3,o2,c21,o31,o21,ne4,ne5,es,sset,tset⟩
theorem GNM.look_0(TN:GNM t)(n:Nat)(hn:30<=n){p:List Df}{N n0 lb b2 b3:Nat}{pv:AV}{left:Nat}{cs:List AV}{d a:Nat}{env:List Thg}{g h:H}(S:LS p n0 lb b2 b3 pv (left+1) cs (.part d a env) g h){df:Df}{lv:List Int}{e:Ex}(s:Stand p d a env df lv e)(hq:e.kind=0){k:K β}{l9:Cur β 22}{R:Option β}
  (hk:∀u h',zdR p (zA p (N+1) (left+1) (.part d a env)) n0 g h lb pv u h'->k u h'=R)
  (hc:∀th' left',left'<=left->zA p (N+1) (left+1) (.part d a env)=zA p N left' th'->Cont p n0 lb b2 b3 pv left' th' g h l9 R)
  (x1 x4 x5 x6 x7 x8 x9 x10 x11 x12 x13 x14 x15 x16 x17 x18 x19 x20 x21:AV):f184_J11 (zd t stdI n) k l9 (.ptr lb 0) x1 (.ptr b2 0) (.ptr b3 0) x4 x5 x6 x7 x8 x9 x10 x11 x12 x13 x14 x15 x16 x17 x18 x19 x20 x21 h=R:=by
 have hev:=zaL (N:=N) (left:=left) s;have S0:=S;obtain⟨un,gn,i0,i2,i3,i23,j2,j3,ll,l2,l3,dl,d2,d3,lat,tpc,wf,l1000⟩:=S;have tpc0:=tpc;obtain⟨bv,tv,rows,h1,eb,eo,us,w,rfl,hb,hnb,hr,hl',hen,eh1,u1,n1,k1,kl,st1,q1,q20,q3,g0,g1,g2,g3,heb,ne1,ne2,ne3,b1,b11,cl,ol,c2,o3,o2,c21,o31,o21,ne4,ne5,es,sset,tset⟩:=S0.ctx (β:=β) s;have hev:zA p (N+1) (left+1) (.part d a env)=(.ok ⟨1,e.num,[]⟩,left):=by rw[hev];simp only;rw[if_pos hq]
 rw[hq] at g0;have bz2:∀(x y:Int) (kc:VK β),zp [.int .i64 0,.int .i64 0,.nils] [(0,1),(1,1)] [.int .i64 x,.int .i64 y] (.mk kc)=kc (.agg [.int .i64 x,.int .i64 y,.nils]):=λx y kc=>rfl
 unfold f184_J11;simp (disch:=first|omega|simp only[zD]<;>omega|assumption) only[↓zR,↓zRM,zR,zRM,reduceAdd,reduceMul,reduceToNat,↓f184_J2,↓f184_J11,↓f184_J10,↓f184_L9,zbx,cl,es,ol,sset,tset,c2,q1,b1,g0,g1,o3,↓bz2];exact S0.fin st1 u1 (by rw[n1];exact gn) kl hk (by rw[hev]) (by rw[hev];exact⟨rfl,rfl,rfl,rfl,.inl ⟨rfl,rfl⟩⟩)
theorem GNM.look_3(TN:GNM t)(n:Nat)(hn:30<=n){p:List Df}{N n0 lb b2 b3:Nat}{pv:AV}{left:Nat}{cs:List AV}{d a:Nat}{env:List Thg}{g h:H}(S:LS p n0 lb b2 b3 pv (left+1) cs (.part d a env) g h){df:Df}{lv:List Int}{e:Ex}(s:Stand p d a env df lv e)(hq:e.kind=3){k:K β}{l9:Cur β 22}{R:Option β}
  (hk:∀u h',zdR p (zA p (N+1) (left+1) (.part d a env)) n0 g h lb pv u h'->k u h'=R)
  (hc:∀th' left',left'<=left->zA p (N+1) (left+1) (.part d a env)=zA p N left' th'->Cont p n0 lb b2 b3 pv left' th' g h l9 R)
  (x1 x4 x5 x6 x7 x8 x9 x10 x11 x12 x13 x14 x15 x16 x17 x18 x19 x20 x21:AV):f184_J11 (zd t stdI n) k l9 (.ptr lb 0) x1 (.ptr b2 0) (.ptr b3 0) x4 x5 x6 x7 x8 x9 x10 x11 x12 x13 x14 x15 x16 x17 x18 x19 x20 x21 h=R:=by
 have hev:=zaL (N:=N) (left:=left) s;have S0:=S;obtain⟨un,gn,i0,i2,i3,i23,j2,j3,ll,l2,l3,dl,d2,d3,lat,tpc,wf,l1000⟩:=S;have tpc0:=tpc;obtain⟨bv,tv,rows,h1,eb,eo,us,w,rfl,hb,hnb,hr,hl',hen,eh1,u1,n1,k1,kl,st1,q1,q20,q3,g0,g1,g2,g3,heb,ne1,ne2,ne3,b1,b11,cl,ol,c2,o3,o2,c21,o31,o21,ne4,ne5,es,sset,tset⟩:=S0.ctx (β:=β) s;have hev:zA p (N+1) (left+1) (.part d a env)=(.ok ⟨2,e.num,zaS d env e.kids⟩,left):=by rw[hev];simp only;rw[if_neg (by omega),if_neg (by omega),if_neg (by omega),if_pos hq]
 rw[hq] at g0;have bx:InAt 4 h1 b2 0 [.str [],bv,.int .i64 (a:Int),tv]:=(InAt.own (cs:=[.str [],bv,.int .i64 (a:Int),tv]) (by omega) ((k1 b2 (by omega)).trans l2):InAt 4 h1 b2 0 _)
 have bk:=s.part.kidsLen;have be:=s.env8;have W:=TN.w206 (β:=β) n u1 bx tpc0 s.hd s.he (s.kidsWf (by omega) (by omega)).1 (by omega) (by omega) (by omega);unfold f184_J11;simp (disch:=first|omega|simp only[zD]<;>omega|assumption) only[↓zR,↓zRM,zR,zRM,reduceAdd,reduceMul,reduceToNat,↓f184_J2,↓f184_J11,↓f184_J10,↓f184_L9,zbx,cl,es,ol,sset,tset,c2,q1,b1,g0,g1,eq_false (show ¬ (3:Int)=0 by decide),eq_false (show ¬ (3:Int)=1 by decide),eq_false (show ¬ (3:Int)=2 by decide)];refine W _ _ ?_;intro u h2 ⟨e2,usc,made⟩;obtain⟨gX,GX,UX,NX,newX⟩:=u1.grow (by rw[n1];exact gn) e2;have:=e2.n
 have b2x:(h2.get eb).cells=some us:=by rw[e2.get _ (by omega)];exact b11
 have o32:zG (h2.get b3)=some (0,[.int .i64 0,.int .i64 0,.nils]):=by rw[e2.get _ (by omega)];exact o31
 have bz3:∀(x y:Int) (kc:VK β),zp [.int .i64 0,.int .i64 0,.nils] [(0,1),(1,1),(2,1)] [.int .i64 x,.int .i64 y,u] (.mk kc)=kc (.agg [.int .i64 x,.int .i64 y,u]):=λx y kc=>by
  rw[zbc _ _ _ _ _ _ (by simp),zbc _ _ _ _ _ _ (by simp),zaY _ _ _ _ usc _ (by simp),zbJ];rfl
 have st2:Lst n0 lb g h gX h2:=⟨GX,by omega,λi hi hne=>by rw[e2.get i (by omega)];exact k1 i hne⟩
 simp (disch:=first|omega|simp only[zD]<;>omega|assumption) only[↓zR,↓zRM,zR,zRM,reduceAdd,reduceMul,reduceToNat,↓f184_J2,↓f184_J11,↓f184_J10,↓f184_L9,b2x,g1,zbH,↓bz3,o32];exact S0.fin st2 UX NX (by rw[e2.get _ (by omega)];exact kl) hk (by rw[hev]) (by rw[hev];exact⟨rfl,rfl,rfl,usc,made gX GX.un (by omega) newX⟩)
theorem GNM.look_7(TN:GNM t)(n:Nat)(hn:30<=n){p:List Df}{N n0 lb b2 b3:Nat}{pv:AV}{left:Nat}{cs:List AV}{d a:Nat}{env:List Thg}{g h:H}(S:LS p n0 lb b2 b3 pv (left+1) cs (.part d a env) g h){df:Df}{lv:List Int}{e:Ex}(s:Stand p d a env df lv e)(hq:e.kind≠0/\e.kind≠1/\e.kind≠2/\e.kind≠3/\e.kind≠4/\e.kind≠5/\e.kind≠6){k:K β}{l9:Cur β 22}{R:Option β}
  (hk:∀u h',zdR p (zA p (N+1) (left+1) (.part d a env)) n0 g h lb pv u h'->k u h'=R)
  (hc:∀th' left',left'<=left->zA p (N+1) (left+1) (.part d a env)=zA p N left' th'->Cont p n0 lb b2 b3 pv left' th' g h l9 R)
  (x1 x4 x5 x6 x7 x8 x9 x10 x11 x12 x13 x14 x15 x16 x17 x18 x19 x20 x21:AV):f184_J11 (zd t stdI n) k l9 (.ptr lb 0) x1 (.ptr b2 0) (.ptr b3 0) x4 x5 x6 x7 x8 x9 x10 x11 x12 x13 x14 x15 x16 x17 x18 x19 x20 x21 h=R:=by
 have hev:=zaL (N:=N) (left:=left) s;have S0:=S;obtain⟨un,gn,i0,i2,i3,i23,j2,j3,ll,l2,l3,dl,d2,d3,lat,tpc,wf,l1000⟩:=S;have tpc0:=tpc;obtain⟨bv,tv,rows,h1,eb,eo,us,w,rfl,hb,hnb,hr,hl',hen,eh1,u1,n1,k1,kl,st1,q1,q20,q3,g0,g1,g2,g3,heb,ne1,ne2,ne3,b1,b11,cl,ol,c2,o3,o2,c21,o31,o21,ne4,ne5,es,sset,tset⟩:=S0.ctx (β:=β) s;obtain⟨c0,cA,cB,cC,cD,cE,cF⟩:=hq;have hev:zA p (N+1) (left+1) (.part d a env)=(.ok zb5,left):=by rw[hev];simp only;rw[if_neg c0,if_neg cA,if_neg cB,if_neg cC,if_neg cD,if_neg cE,if_neg cF]
 obtain⟨m,rfl⟩:∃m,n=m+1:=⟨n-1,by omega⟩
 have W:=TN.w209 (β:=β) m h1;unfold f184_J11;simp (disch:=first|omega|simp only[zD]<;>omega|assumption) only[↓zR,↓zRM,zR,zRM,reduceAdd,reduceMul,reduceToNat,↓f184_J2,↓f184_J11,↓f184_J10,↓f184_L9,zbx,cl,es,ol,sset,tset,c2,q1,b1,g0,eq_false c0,eq_false cA,eq_false cB,eq_false cC,eq_false cD,eq_false cE,eq_false cF];refine W _ _ ?_;intro u h2 ⟨e2,eu⟩;subst eu;obtain⟨gX,GX,UX,NX,newX⟩:=u1.grow (by rw[n1];exact gn) e2;have:=e2.n
 have o32:zG (h2.get b3)=some (0,[.int .i64 0,.int .i64 0,.nils]):=by rw[e2.get _ (by omega)];exact o31
 have st2:Lst n0 lb g h gX h2:=⟨GX,by omega,λi hi hne=>by rw[e2.get i (by omega)];exact k1 i hne⟩
 simp (disch:=first|omega|simp only[zD]<;>omega|assumption) only[↓zR,↓zRM,zR,zRM,reduceAdd,reduceMul,reduceToNat,↓f184_J2,↓f184_J11,↓f184_J10,↓f184_L9,o32];exact S0.fin st2 UX NX (by rw[e2.get _ (by omega)];exact kl) hk (by rw[hev]) (by rw[hev];exact⟨rfl,rfl,rfl,rfl,.inl ⟨rfl,rfl⟩⟩)
theorem GNM.look_1(TN:GNM t)(n:Nat)(hn:30<=n){p:List Df}{N n0 lb b2 b3:Nat}{pv:AV}{left:Nat}{cs:List AV}{d a:Nat}{env:List Thg}{g h:H}(S:LS p n0 lb b2 b3 pv (left+1) cs (.part d a env) g h){df:Df}{lv:List Int}{e:Ex}(s:Stand p d a env df lv e)(hq:e.kind=1){k:K β}{l9:Cur β 22}{R:Option β}
  (hk:∀u h',zdR p (zA p (N+1) (left+1) (.part d a env)) n0 g h lb pv u h'->k u h'=R)
  (hc:∀th' left',left'<=left->zA p (N+1) (left+1) (.part d a env)=zA p N left' th'->Cont p n0 lb b2 b3 pv left' th' g h l9 R)
  (x1 x4 x5 x6 x7 x8 x9 x10 x11 x12 x13 x14 x15 x16 x17 x18 x19 x20 x21:AV):f184_J11 (zd t stdI n) k l9 (.ptr lb 0) x1 (.ptr b2 0) (.ptr b3 0) x4 x5 x6 x7 x8 x9 x10 x11 x12 x13 x14 x15 x16 x17 x18 x19 x20 x21 h=R:=by
 have hev:=zaL (N:=N) (left:=left) s;have S0:=S;obtain⟨un,gn,i0,i2,i3,i23,j2,j3,ll,l2,l3,dl,d2,d3,lat,tpc,wf,l1000⟩:=S;have tpc0:=tpc;obtain⟨bv,tv,rows,h1,eb,eo,us,w,rfl,hb,hnb,hr,hl',hen,eh1,u1,n1,k1,kl,st1,q1,q20,q3,g0,g1,g2,g3,heb,ne1,ne2,ne3,b1,b11,cl,ol,c2,o3,o2,c21,o31,o21,ne4,ne5,es,sset,tset⟩:=S0.ctx (β:=β) s;have hev:zA p (N+1) (left+1) (.part d a env)=zA p N left (env.getD e.num.toNat default):=by rw[hev];simp only;rw[if_neg (by omega),if_pos hq]
 rw[hq] at g0;have bx:InAt 4 h1 b2 0 [.str [],bv,.int .i64 (a:Int),tv]:=(InAt.own (cs:=[.str [],bv,.int .i64 (a:Int),tv]) (by omega) ((k1 b2 (by omega)).trans l2):InAt 4 h1 b2 0 _)
 have bk:=s.part.kidsLen;have be:=s.env8;obtain⟨y0,y1⟩:=bk.2.2.2.2.1 hq;have hl2:=s.hl;obtain⟨j,hj⟩:∃j:Nat,e.num=j:=⟨e.num.toNat,by omega⟩
 have hjt:e.num.toNat=j:=by omega
 rw[hj] at g1;obtain⟨x,hx⟩:∃x,env[j]?=some x:=⟨_,List.getElem?_eq_getElem (by omega)⟩
 obtain⟨r,hrr⟩:∃r,rows[j]?=some r:=⟨_,List.getElem?_eq_getElem (by omega)⟩
 have ht:=hen j r x hrr hx;have hgd:env.getD e.num.toNat default=x:=by rw[hjt,List.getD_eq_getElem?_getD,hx];rfl
 rw[hgd] at hev;have r4:=ht.len;obtain⟨tb,to,tcs,t1,t2,t3,_⟩:=hr.at (β:=β) hrr;subst t3;obtain⟨t20,tus,t4,t5,t6⟩:=t2;have tne:tb≠lb:=λhh=>(by rw[hh,dl] at t4;cases t4)
 have t7:(h.get tb).cells=some tus:=by rw[un.get tb t20 (by rw[t4];simp)];exact t4
 obtain⟨r0,r1,r2,r3,rfl⟩:∃r0 r1 r2 r3,tcs=[r0,r1,r2,r3]:=by
  match tcs,r4 with
  | [r0,r1,r2,r3],_=>exact⟨_,_,_,_,rfl⟩
 have tl:([r0,r1,r2,r3]:List AV).length=4:=rfl;have pu:zac [.str [],bv,.int .i64 (a:Int),tv] 0 [r0,r1,r2,r3]=[r0,r1,r2,r3]:=rfl;obtain⟨h2,eh2⟩:∃h2,h2=h1.set b2 (.own 0 [r0,r1,r2,r3]):=⟨_,rfl⟩
 have k2:∀i,i≠b2->h2.get i=h1.get i:=λi hi=>by rw[eh2,ze (by omega)]
 have u2:Un g h2:=by rw[eh2];exact u1.set d2 _
 have n2:h2.n=h1.n:=by rw[eh2,H.n_set]
 have st2:Lst n0 lb g h g h2:=⟨Gh.refl g,by omega,λi hi hne=>by rw[k2 i (by omega)];exact k1 i hne⟩
 have wx:WF p x:=s.wf x (List.mem_of_getElem? hx);have S2:LS p n0 lb b2 b3 pv left [r0,r1,r2,r3] x g h2:=⟨u2,by omega,i0,i2,i3,i23,by omega,by omega,by rw[k2 _ (by omega)];exact kl,by rw[eh2,zn rfl],by rw[k2 _ (by omega),k1 _ (by omega)];exact l3,dl,d2,d3,lat,ht,wx,by omega⟩
 unfold f184_J11;simp (disch:=first|omega|simp only[zD]<;>omega|assumption) only[↓zR,↓zRM,zR,zRM,reduceAdd,reduceMul,reduceToNat,↓f184_J2,↓f184_J11,↓f184_J10,↓f184_L9,zbx,cl,es,ol,sset,tset,c2,q1,b1,g0,g1,t1,t7,t6,tl,o2,pu,eq_false (show ¬ (1:Int)=0 by decide)];rw[<- eh2];exact hc x left (Nat.le_refl _) hev _ _ _ _ _ _ _ _ _ _ _ _ _ _ _ _ _ _ _ _ _ _ S2 st2
theorem GNM.w205g(TN:GNM t)(n:Nat){g h:H}(ug:Un g h){lb:Nat}{pv left:AV}(hlb:lb<h.n)(hl:(h.get lb).cells=some [pv,left]){p:List Df}(hp:LAt 2 DfC g pv p){f:Nat}{df:Df}(hf:p[f]?=some df){tv:AV}(htv:tv.sc=true)(hbl:1<=df.body.length)(hbl2:df.body.length<=9223372036854775807) :
  Sp (β:=β) (zd t stdI (n+1) (.fn 205 []) [.ptr lb 0,.int .i64 (f:Int),tv] h) λu h'=>Ext h h'/\∃bv,u = .agg [.str [],bv,.int .i64 ((df.body.length-1:Nat):Int),tv]/\LAt 4 ExC g bv df.body/\bv ≠ .nils:=by
 intro kk R hkk;obtain⟨b,o,cs,a1,a2,bv,rfl,a3⟩:=hp.at (β:=β) hf;obtain⟨us,b1,b2,b3,b4⟩:=a2.get;have g1:=b4 1 _ rfl;have hb:b<h.n:=Nat.lt_of_lt_of_le a2.1 ug.n;have b1:(h.get b).cells=some us:=by rw[ug.get b a2.1 (by rw[b1];simp)];exact b1
 have lbv:=a3.len (β:=β);have bsc:=a3.sc;have hnb:bv ≠ .nils:=by
  rcases a3 with⟨_,h0⟩|⟨_,_,_,_,_,rfl,_⟩
  ·rw[h0] at hbl;simp at hbl
  ·intro hh;cases hh
 have e:(df.body.length:Int)-1=((df.body.length-1:Nat):Int):=by omega
 have bu:∀kc:VK β,zp [.str [],.nils,.int .i64 0,.nils] [(1,1),(2,1),(3,1)] [bv,.int .i64 ((df.body.length:Int)-1),tv] (.mk kc)=kc (.agg [.str [],bv,.int .i64 ((df.body.length:Int)-1),tv]):=λkc=>by
  rw[zaY _ _ _ _ bsc _ (by simp),zbc _ _ _ _ _ _ (by simp),zaY _ _ _ _ htv _ (by simp),zbJ];rfl
 rw[TN.c205];unfold f205;simp (disch:=first|omega|simp only[zD]<;>omega|assumption) only[↓zR,↓zRM,zR,zRM,reduceAdd,reduceMul,reduceToNat,zbx,hl,a1,b1,g1,lbv,↓bu];exact hkk _ _ ⟨((Ext.refl h).push _).set (Nat.le_refl _) _,bv,by rw[e],a3,hnb⟩
theorem GNM.look_2(TN:GNM t)(n:Nat)(hn:30<=n){p:List Df}{N n0 lb b2 b3:Nat}{pv:AV}{left:Nat}{cs:List AV}{d a:Nat}{env:List Thg}{g h:H}(S:LS p n0 lb b2 b3 pv (left+1) cs (.part d a env) g h){df:Df}{lv:List Int}{e:Ex}(s:Stand p d a env df lv e)(hq:e.kind=2)(hpm:zt p=true){k:K β}{l9:Cur β 22}{R:Option β}
  (hk:∀u h',zdR p (zA p (N+1) (left+1) (.part d a env)) n0 g h lb pv u h'->k u h'=R)
  (hc:∀th' left',left'<=left->zA p (N+1) (left+1) (.part d a env)=zA p N left' th'->Cont p n0 lb b2 b3 pv left' th' g h l9 R)
  (x1 x4 x5 x6 x7 x8 x9 x10 x11 x12 x13 x14 x15 x16 x17 x18 x19 x20 x21:AV):f184_J11 (zd t stdI n) k l9 (.ptr lb 0) x1 (.ptr b2 0) (.ptr b3 0) x4 x5 x6 x7 x8 x9 x10 x11 x12 x13 x14 x15 x16 x17 x18 x19 x20 x21 h=R:=by
 have hev:=zaL (N:=N) (left:=left) s;have S0:=S;obtain⟨un,gn,i0,i2,i3,i23,j2,j3,ll,l2,l3,dl,d2,d3,lat,tpc,wf,l1000⟩:=S;have tpc0:=tpc;obtain⟨bv,tv,rows,h1,eb,eo,us,w,rfl,hb,hnb,hr,hl',hen,eh1,u1,n1,k1,kl,st1,q1,q20,q3,g0,g1,g2,g3,heb,ne1,ne2,ne3,b1,b11,cl,ol,c2,o3,o2,c21,o31,o21,ne4,ne5,es,sset,tset⟩:=S0.ctx (β:=β) s;have hev:zA p (N+1) (left+1) (.part d a env)=zA p N left (.part e.num.toNat ((zo p e.num.toNat).length-1) (zaS d env e.kids)):=by rw[hev];simp only;rw[if_neg (by omega),if_neg (by omega),if_pos hq]
 rw[hq] at g0;have bx:InAt 4 h1 b2 0 [.str [],bv,.int .i64 (a:Int),tv]:=(InAt.own (cs:=[.str [],bv,.int .i64 (a:Int),tv]) (by omega) ((k1 b2 (by omega)).trans l2):InAt 4 h1 b2 0 _)
 have bk:=s.part.kidsLen;have be:=s.env8;obtain⟨df',z1,z2,z3,z4,z5,z6⟩:=s.call hpm hq;rw[z6] at hev;obtain⟨f,hf⟩:∃f:Nat,e.num=f:=⟨e.num.toNat,by omega⟩
 have hft:e.num.toNat=f:=by omega
 rw[hft] at hev z1 z5;rw[hf] at g1;obtain⟨m,rfl⟩:∃m,n=m+1:=⟨n-1,by omega⟩
 have W:=TN.w206 (β:=β) (m+1) u1 bx tpc0 s.hd s.he (s.kidsWf (by omega) (by omega)).1 (by omega) (by omega) (by omega);unfold f184_J11;simp (disch:=first|omega|simp only[zD]<;>omega|assumption) only[↓zR,↓zRM,zR,zRM,reduceAdd,reduceMul,reduceToNat,↓f184_J2,↓f184_J11,↓f184_J10,↓f184_L9,zbx,cl,es,ol,sset,tset,c2,q1,b1,g0,g1,eq_false (show ¬ (2:Int)=0 by decide),eq_false (show ¬ (2:Int)=1 by decide)];refine W _ _ ?_;intro u h2 ⟨e2,usc,made⟩;obtain⟨gX,GX,UX,NX,newX⟩:=u1.grow (by rw[n1];exact gn) e2;have:=e2.n
 have b2x:(h2.get eb).cells=some us:=by rw[e2.get _ (by omega)];exact b11
 have cl2:h2.get lb = .own 0 [pv,.int .i64 (left:Int)]:=by rw[e2.get _ (by omega)];exact kl
 have W2:=TN.w205g (β:=β) (lb:=lb) m UX (by omega) (by rw[cl2];rfl) (lat.un DfC.staysU GX.un) z1 usc z3 (by omega);simp (disch:=first|omega|simp only[zD]<;>omega|assumption) only[↓zR,↓zRM,zR,zRM,reduceAdd,reduceMul,reduceToNat,↓f184_J2,↓f184_J11,↓f184_J10,↓f184_L9,b2x,g1,zbH];refine W2 _ _ ?_;intro u3 h3 ⟨e3,bv',eu3,lbv',hnb'⟩;subst eu3;obtain⟨gY,GY,UY,NY,newY⟩:=UX.grow NX e3;have:=e3.n
 have e23:=e2.trans e3;have o23:zG (h3.get b2)=some (0,[.str [],bv,.int .i64 (a:Int),tv]):=by rw[e23.get _ (by omega)];exact o21
 have pu:zac [.str [],bv,.int .i64 (a:Int),tv] 0 [.str [],bv',.int .i64 ((df'.body.length-1:Nat):Int),u]=[.str [],bv',.int .i64 ((df'.body.length-1:Nat):Int),u]:=rfl;have GG:=GX.trans GY;have d2Y:=GG.hid b2 (by omega) d2;obtain⟨h4,eh4⟩:∃h4,h4=h3.set b2 (.own 0 [.str [],bv',.int .i64 ((df'.body.length-1:Nat):Int),u]):=⟨_,rfl⟩
 have k4:∀i,i≠b2->h4.get i=h3.get i:=λi hi=>by rw[eh4,ze (by omega)]
 have u4:Un gY h4:=by rw[eh4];exact UY.set d2Y _
 have n4:h4.n=h3.n:=by rw[eh4,H.n_set]
 have lk:=made gX GX.un (by omega) newX;obtain⟨rws,r1,r2,r3⟩:=lk.rows;have tp:TPC p gY [.str [],bv',.int .i64 ((df'.body.length-1:Nat):Int),u] (.part f (df'.body.length-1) (zaS d env e.kids)):=.part z1 (lbv'.un ExC.staysU GY.un) hnb' rws (r1.un RowC.staysU GY.un) r2 λj r x hr hx=>(r3 j r x hr hx).un GY.un
 have st4:Lst n0 lb g h gY h4:=⟨GG,by omega,λi hi hne=>by rw[k4 i (by omega),e23.get i (by omega)];exact k1 i hne⟩
 have S4:LS p n0 lb b2 b3 pv left [.str [],bv',.int .i64 ((df'.body.length-1:Nat):Int),u] (.part f (df'.body.length-1) (zaS d env e.kids)) gY h4:=⟨u4,by omega,i0,i2,i3,i23,by omega,by omega,by rw[k4 _ (by omega),e23.get _ (by omega)];exact kl,by rw[eh4,zn rfl],by rw[k4 _ (by omega),e23.get _ (by omega),k1 _ (by omega)];exact l3,GG.hid lb (by omega) dl,d2Y,GG.hid b3 (by omega) d3,lat.un DfC.staysU GG.un,tp,z5,by omega⟩
 simp (disch:=first|omega|simp only[zD]<;>omega|assumption) only[↓zR,↓zRM,zR,zRM,reduceAdd,reduceMul,reduceToNat,↓f184_J2,↓f184_J11,↓f184_J10,↓f184_L9,o23,pu];rw[<- eh4];exact hc _ left (Nat.le_refl _) hev _ _ _ _ _ _ _ _ _ _ _ _ _ _ _ _ _ _ _ _ _ _ S4 st4
theorem zbl(p:List Df)(g:H):LAt 4 (TPC p) g .nils []:=.inl ⟨rfl,rfl⟩
theorem GNM.look_4(TN:GNM t)(TL:GA t)(n:Nat)(hn:30<=n){p:List Df}{N n0 lb b2 b3:Nat}{pv:AV}{left:Nat}{cs:List AV}{d a:Nat}{env:List Thg}{g h:H}(S:LS p n0 lb b2 b3 pv (left+1) cs (.part d a env) g h){df:Df}{lv:List Int}{e:Ex}(s:Stand p d a env df lv e)(hq:e.kind=4)(hp5:zfj t p N (n-1))(hleft:left<N){k:K β}{l9:Cur β 22}{R:Option β}
  (hk:∀u h',zdR p (zA p (N+1) (left+1) (.part d a env)) n0 g h lb pv u h'->k u h'=R)
  (hc:∀th' left',left'<=left->zA p (N+1) (left+1) (.part d a env)=zA p N left' th'->Cont p n0 lb b2 b3 pv left' th' g h l9 R)
  (x1 x4 x5 x6 x7 x8 x9 x10 x11 x12 x13 x14 x15 x16 x17 x18 x19 x20 x21:AV):f184_J11 (zd t stdI n) k l9 (.ptr lb 0) x1 (.ptr b2 0) (.ptr b3 0) x4 x5 x6 x7 x8 x9 x10 x11 x12 x13 x14 x15 x16 x17 x18 x19 x20 x21 h=R:=by
 have hev:=zaL (N:=N) (left:=left) s;have S0:=S;obtain⟨un,gn,i0,i2,i3,i23,j2,j3,ll,l2,l3,dl,d2,d3,lat,tpc,wf,l1000⟩:=S;have tpc0:=tpc;obtain⟨bv,tv,rows,h1,eb,eo,us,w,rfl,hb,hnb,hr,hl',hen,eh1,u1,n1,k1,kl,st1,q1,q20,q3,g0,g1,g2,g3,heb,ne1,ne2,ne3,b1,b11,cl,ol,c2,o3,o2,c21,o31,o21,ne4,ne5,es,sset,tset⟩:=S0.ctx (β:=β) s;have hev:zA p (N+1) (left+1) (.part d a env)=zc7 p N left e.num (.part d (e.kids.getD 0 0).toNat env) (.part d (e.kids.getD 1 0).toNat env):=by rw[hev];simp only;rw[if_neg (by omega),if_neg (by omega),if_neg (by omega),if_neg (by omega),if_pos hq];rfl
 rw[hq] at g0;have bx:InAt 4 h1 b2 0 [.str [],bv,.int .i64 (a:Int),tv]:=(InAt.own (cs:=[.str [],bv,.int .i64 (a:Int),tv]) (by omega) ((k1 b2 (by omega)).trans l2):InAt 4 h1 b2 0 _)
 have bk:=s.part.kidsLen;have be:=s.env8;obtain⟨bk4,bk5,bk6,bk3,bk1,bkk,bkb,bkn⟩:=bk;have hk2:=bk4 hq;have hm0:more e 0=0:=by unfold more;simp[hq]
 have hm1:more e 1=0:=by unfold more;simp[hq]
 have hka:e.kids[0]?=some (e.kids.getD 0 0):=getD_some (by omega);have hkb:e.kids[1]?=some (e.kids.getD 1 0):=getD_some (by omega);obtain⟨pa,wa⟩:=s.kid0 hka hm0;obtain⟨pb,wb⟩:=s.kid0 hkb hm1;obtain⟨m,rfl⟩:∃m,n=m+1:=⟨n-1,by omega⟩
 have W:=TN.w208 (β:=β) (m+1) (by omega) u1 bx tpc0 s.hd s.he (k:=0) hka pa (zbl p g) (by simp only[List.length_nil];omega);unfold f184_J11;simp (disch:=first|omega|simp only[zD]<;>omega|assumption) only[↓zR,↓zRM,zR,zRM,reduceAdd,reduceMul,reduceToNat,↓f184_J2,↓f184_J11,↓f184_J10,↓f184_L9,zbx,cl,es,ol,sset,tset,c2,q1,b1,g0,g1,eq_false (show ¬ (4:Int)=0 by decide),eq_false (show ¬ (4:Int)=1 by decide),eq_false (show ¬ (4:Int)=2 by decide),eq_false (show ¬ (4:Int)=3 by decide)];refine W _ _ ?_;intro u h2 ⟨e2,ca,eca,la,madea⟩;subst eca;obtain⟨gX,GX,UX,NX,newX⟩:=u1.grow (by rw[n1];exact gn) e2;have:=e2.n
 have b2x:(h2.get eb).cells=some us:=by rw[e2.get _ (by omega)];exact b11
 have ta:=madea gX GX.un (by omega) newX;rw[List.append_nil] at ta;have bx2:InAt 4 h2 b2 0 [.str [],bv,.int .i64 (a:Int),tv]:=bx.ext e2;have W2:=TN.w208 (β:=β) (m+1) (by omega) UX bx2 (tpc0.un GX.un) s.hd s.he (k:=1) hkb pb (zbl p gX) (by simp only[List.length_nil];omega);simp (disch:=first|omega|simp only[zD]<;>omega|assumption) only[↓zR,↓zRM,zR,zRM,reduceAdd,reduceMul,reduceToNat,↓f184_J2,↓f184_J11,↓f184_J10,↓f184_L9,b2x,g1,zbH];refine W2 _ _ ?_;intro u3 h3 ⟨e3,cb,ecb,lb3,madeb⟩;subst ecb;obtain⟨gY,GY,UY,NY,newY⟩:=UX.grow NX e3;have:=e3.n
 have e23:=e2.trans e3;have b3x:(h3.get eb).cells=some us:=by rw[e23.get _ (by omega)];exact b11
 have tb:=madeb gY GY.un (by omega) newY;rw[List.append_nil] at tb;have GG:=GX.trans GY;have st3:Lst n0 lb g h gY h3:=⟨GG,by omega,λi hi hne=>by rw[e23.get i (by omega)];exact k1 i hne⟩
 have W3:=TN.w207 (β:=β) TL m (by omega) hp5 (lb:=lb) UY NY (by omega) (GG.hid lb (by omega) dl) (by rw[e23.get _ (by omega)];exact kl) (lat.un DfC.staysU GG.un) (op:=e.num) (bkn hq) (ta.un GY.un) tb wa wb hleft (by omega);simp (disch:=first|omega|simp only[zD]<;>omega|assumption) only[↓zR,↓zRM,zR,zRM,reduceAdd,reduceMul,reduceToNat,↓f184_J2,↓f184_J11,↓f184_J10,↓f184_L9,b3x,g1,zbH];refine W3 _ _ ?_;intro u4 h4 ⟨g4,G4,U4,N4,le4,same4,lb4,res4⟩;have o34:zG (h4.get b3)=some (0,[.int .i64 0,.int .i64 0,.nils]):=by rw[same4 _ (by omega) (by omega),e23.get _ (by omega)];exact o31
 have st4:Lst n0 lb g h g4 h4:=⟨GG.trans G4,by omega,λi hi hne=>by rw[same4 i (by omega) hne,e23.get i (by omega)];exact k1 i hne⟩
 generalize hr:zc7 p N left e.num (.part d (e.kids.getD 0 0).toNat env) (.part d (e.kids.getD 1 0).toNat env)=r at res4 lb4 hev;obtain⟨rs,l4⟩:=r;cases rs with
 | bad c=>
  obtain⟨rfl,hcc⟩:=res4;unfold zfk;simp (disch:=first|omega|simp only[zD]<;>omega|assumption) only[↓zR,↓zRM,zR,zRM,reduceAdd,reduceMul,reduceToNat,↓f184_J2,↓f184_J11,↓f184_J10,↓f184_L9,o34];exact S0.fin st4 U4 N4 lb4 hk (by rw[hev]) (by rw[hev];exact⟨rfl,rfl,rfl,rfl,hcc⟩)
 | ok fd=>
  obtain⟨w4,rfl,hw4,hp4⟩:=res4;simp (disch:=first|omega|simp only[zD]<;>omega|assumption) only[↓zR,↓zRM,zR,zRM,reduceAdd,reduceMul,reduceToNat,↓f184_J2,↓f184_J11,↓f184_J10,↓f184_L9,o34];exact S0.fin st4 U4 N4 lb4 hk (by rw[hev]) (by rw[hev];exact⟨rfl,rfl,rfl,hw4,hp4⟩)
theorem GNM.look_6(TN:GNM t)(n:Nat)(hn:30<=n){p:List Df}{N n0 lb b2 b3:Nat}{pv:AV}{left:Nat}{cs:List AV}{d a:Nat}{env:List Thg}{g h:H}(S:LS p n0 lb b2 b3 pv (left+1) cs (.part d a env) g h){df:Df}{lv:List Int}{e:Ex}(s:Stand p d a env df lv e)(hq:e.kind=6){k:K β}{l9:Cur β 22}{R:Option β}
  (hk:∀u h',zdR p (zA p (N+1) (left+1) (.part d a env)) n0 g h lb pv u h'->k u h'=R)
  (hc:∀th' left',left'<=left->zA p (N+1) (left+1) (.part d a env)=zA p N left' th'->Cont p n0 lb b2 b3 pv left' th' g h l9 R)
  (x1 x4 x5 x6 x7 x8 x9 x10 x11 x12 x13 x14 x15 x16 x17 x18 x19 x20 x21:AV):f184_J11 (zd t stdI n) k l9 (.ptr lb 0) x1 (.ptr b2 0) (.ptr b3 0) x4 x5 x6 x7 x8 x9 x10 x11 x12 x13 x14 x15 x16 x17 x18 x19 x20 x21 h=R:=by
 have hev:=zaL (N:=N) (left:=left) s;have S0:=S;obtain⟨un,gn,i0,i2,i3,i23,j2,j3,ll,l2,l3,dl,d2,d3,lat,tpc,wf,l1000⟩:=S;have tpc0:=tpc;obtain⟨bv,tv,rows,h1,eb,eo,us,w,rfl,hb,hnb,hr,hl',hen,eh1,u1,n1,k1,kl,st1,q1,q20,q3,g0,g1,g2,g3,heb,ne1,ne2,ne3,b1,b11,cl,ol,c2,o3,o2,c21,o31,o21,ne4,ne5,es,sset,tset⟩:=S0.ctx (β:=β) s;have hev:zA p (N+1) (left+1) (.part d a env)=zA p N left (.part d (e.kids.getD 1 0).toNat (env++[.part d (e.kids.getD 0 0).toNat env])):=by rw[hev];simp only;rw[if_neg (by omega),if_neg (by omega),if_neg (by omega),if_neg (by omega),if_neg (by omega),if_neg (by omega),if_pos hq]
 rw[hq] at g0;have bx:InAt 4 h1 b2 0 [.str [],bv,.int .i64 (a:Int),tv]:=(InAt.own (cs:=[.str [],bv,.int .i64 (a:Int),tv]) (by omega) ((k1 b2 (by omega)).trans l2):InAt 4 h1 b2 0 _)
 have bk:=s.part.kidsLen;have be:=s.env8;obtain⟨bk4,bk5,bk6,bk3,bk1,bkk,bkb,bkn⟩:=bk;have hk2:=bk6 hq;have hm0:more e 0=0:=by unfold more;simp[hq]
 have hm1:more e 1=1:=by unfold more;simp[hq]
 have hka:e.kids[0]?=some (e.kids.getD 0 0):=getD_some (by omega);have hkb:e.kids[1]?=some (e.kids.getD 1 0):=getD_some (by omega);obtain⟨pa,wa⟩:=s.kid0 hka hm0;obtain⟨pb,wb⟩:=s.kid hkb (more':=[.part d (e.kids.getD 0 0).toNat env]) (by simp only[List.length_cons,List.length_nil];rw[show ((1:Nat):Int)=1 from rfl] at *;omega) (λx hx=>by simp only[List.mem_cons,List.not_mem_nil,or_false] at hx;subst hx;exact wa);have W:=TN.w208 (β:=β) n (by omega) u1 bx tpc0 s.hd s.he (k:=0) hka pa (zbl p g) (by simp only[List.length_nil];omega);unfold f184_J11;simp (disch:=first|omega|simp only[zD]<;>omega|assumption) only[↓zR,↓zRM,zR,zRM,reduceAdd,reduceMul,reduceToNat,↓f184_J2,↓f184_J11,↓f184_J10,↓f184_L9,zbx,cl,es,ol,sset,tset,c2,q1,b1,g0,g1,eq_false (show ¬ (6:Int)=0 by decide),eq_false (show ¬ (6:Int)=1 by decide),eq_false (show ¬ (6:Int)=2 by decide),eq_false (show ¬ (6:Int)=3 by decide),eq_false (show ¬ (6:Int)=4 by decide),eq_false (show ¬ (6:Int)=5 by decide)];refine W _ _ ?_;intro u h2 ⟨e2,ca,eca,la,madea⟩;subst eca;obtain⟨h3,eh3⟩:∃h3,h3=h2.push (.own 0 ca):=⟨_,rfl⟩
 have e3:Ext h1 h3:=by rw[eh3];exact e2.push _
 have n3:h3.n=h2.n+1:=by rw[eh3,H.n_push]
 obtain⟨gX,GX,UX,NX,newX⟩:=u1.grow (by rw[n1];exact gn) e3;have:=e2.n
 have ta:=madea gX GX.un (by omega) λi h1' h2'=>by rw[newX i h1' (by omega),eh3,zc (by omega)]
 rw[List.append_nil] at ta;have bx3:InAt 4 h3 b2 0 [.str [],bv,.int .i64 (a:Int),tv]:=bx.ext e3;have lm:LAt 4 (TPC p) gX (.sl h2.n 0 1 1 none) [.part d (e.kids.getD 0 0).toNat env]:=.inr ⟨h2.n,0,1,none,ca,rfl,by omega,by rw[newX _ (by omega) (by omega),eh3,zf rfl];rfl,by simp only[List.length_cons,List.length_nil];omega,λj x hx=>by
  match j,hx with
  | 0,hx=>
   cases hx;have:(ca.drop (0+0*4)).take 4=ca:=by rw[show 0+0*4=0 from rfl,List.drop_zero,List.take_of_length_le (by omega)]
   rw[this];exact ta⟩
 have W2:=TN.w208 (β:=β) n (by omega) UX bx3 (tpc0.un GX.un) s.hd s.he (k:=1) hkb pb lm (by simp only[List.length_cons,List.length_nil];omega);simp (disch:=first|omega|simp only[zD]<;>omega|assumption) only[↓zR,↓zRM,zR,zRM,reduceAdd,reduceMul,reduceToNat,↓f184_J2,↓f184_J11,↓f184_J10,↓f184_L9,↓thRow' la,<- eh3];refine W2 _ _ ?_;intro u4 h4 ⟨e4,cb,ecb,lcb,madeb⟩;subst ecb;obtain⟨gY,GY,UY,NY,newY⟩:=UX.grow NX e4;have:=e4.n
 have e24:=e3.trans e4;have tb:=madeb gY GY.un (by omega) newY;have GG:=GX.trans GY;have d2Y:=GG.hid b2 (by omega) d2;obtain⟨y0,y1,y2,y3,rfl⟩:∃y0 y1 y2 y3,cb=[y0,y1,y2,y3]:=by
  match cb,lcb with
  | [y0,y1,y2,y3],_=>exact⟨_,_,_,_,rfl⟩
 have o24:zG (h4.get b2)=some (0,[.str [],bv,.int .i64 (a:Int),tv]):=by rw[e24.get _ (by omega)];exact o21
 have pu:zac [.str [],bv,.int .i64 (a:Int),tv] 0 [y0,y1,y2,y3]=[y0,y1,y2,y3]:=rfl;obtain⟨h5,eh5⟩:∃h5,h5=h4.set b2 (.own 0 [y0,y1,y2,y3]):=⟨_,rfl⟩
 have k5:∀i,i≠b2->h5.get i=h4.get i:=λi hi=>by rw[eh5,ze (by omega)]
 have u5:Un gY h5:=by rw[eh5];exact UY.set d2Y _
 have n5:h5.n=h4.n:=by rw[eh5,H.n_set]
 have st5:Lst n0 lb g h gY h5:=⟨GG,by omega,λi hi hne=>by rw[k5 i (by omega),e24.get i (by omega)];exact k1 i hne⟩
 have S5:LS p n0 lb b2 b3 pv left [y0,y1,y2,y3] (.part d (e.kids.getD 1 0).toNat (env++[.part d (e.kids.getD 0 0).toNat env])) gY h5:=⟨u5,by omega,i0,i2,i3,i23,by omega,by omega,by rw[k5 _ (by omega),e24.get _ (by omega)];exact kl,by rw[eh5,zn rfl],by rw[k5 _ (by omega),e24.get _ (by omega),k1 _ (by omega)];exact l3,GG.hid lb (by omega) dl,d2Y,GG.hid b3 (by omega) d3,lat.un DfC.staysU GG.un,tb,wb,by omega⟩
 simp (disch:=first|omega|simp only[zD]<;>omega|assumption) only[↓zR,↓zRM,zR,zRM,reduceAdd,reduceMul,reduceToNat,↓f184_J2,↓f184_J11,↓f184_J10,↓f184_L9,o24,pu];rw[<- eh5];exact hc _ left (Nat.le_refl _) hev _ _ _ _ _ _ _ _ _ _ _ _ _ _ _ _ _ _ _ _ _ _ S5 st5
end
end Am.F
end
section
namespace Am.F
open Go Am
section
variable {β:Type} {t:ETree}
set_option maxHeartbeats 0 in
theorem GNM.look_5(TN:GNM t)(n:Nat)(hn:30<=n){p:List Df}{N n0 lb b2 b3:Nat}{pv:AV}{left:Nat}{cs:List AV}{d a:Nat}{env:List Thg}{g h:H}(S:LS p n0 lb b2 b3 pv (left+1) cs (.part d a env) g h){df:Df}{lv:List Int}{e:Ex}(s:Stand p d a env df lv e)(hq:e.kind=5)(hpm:zt p=true)(hp5:zfj t p N n)(hleft:left<N){k:K β}{l9:Cur β 22}{R:Option β}
  (hk:∀u h',zdR p (zA p (N+1) (left+1) (.part d a env)) n0 g h lb pv u h'->k u h'=R)
  (hc:∀th' left',left'<=left->zA p (N+1) (left+1) (.part d a env)=zA p N left' th'->Cont p n0 lb b2 b3 pv left' th' g h l9 R)
  (x1 x4 x5 x6 x7 x8 x9 x10 x11 x12 x13 x14 x15 x16 x17 x18 x19 x20 x21:AV):f184_J11 (zd t stdI n) k l9 (.ptr lb 0) x1 (.ptr b2 0) (.ptr b3 0) x4 x5 x6 x7 x8 x9 x10 x11 x12 x13 x14 x15 x16 x17 x18 x19 x20 x21 h=R:=by
 have hev:=zaL (N:=N) (left:=left) s;have S0:=S;obtain⟨un,gn,i0,i2,i3,i23,j2,j3,ll,l2,l3,dl,d2,d3,lat,tpc,wf,l1000⟩:=S;have tpc0:=tpc;obtain⟨bv,tv,rows,h1,eb,eo,us,w,rfl,hb,hnb,hr,hl',hen,eh1,u1,n1,k1,kl,st1,q1,q20,q3,g0,g1,g2,g3,heb,ne1,ne2,ne3,b1,b11,cl,ol,c2,o3,o2,c21,o31,o21,ne4,ne5,es,sset,tset⟩:=S0.ctx (β:=β) s;rw[if_neg (by omega),if_neg (by omega),if_neg (by omega),if_neg (by omega),if_neg (by omega),if_pos hq] at hev;rw[hq] at g0;have bx:InAt 4 h1 b2 0 [.str [],bv,.int .i64 (a:Int),tv]:=(InAt.own (cs:=[.str [],bv,.int .i64 (a:Int),tv]) (by omega) ((k1 b2 (by omega)).trans l2):InAt 4 h1 b2 0 _)
 have bk:=s.part.kidsLen;have be:=s.env8;obtain⟨bk4,bk5,bk6,bk3,bk1,bkk,bkb,bkn⟩:=bk;have hk3:=bk5 hq;have hm0:more e 0=0:=by unfold more;simp[hq]
 have hm1:more e 1=e.bind:=by unfold more;simp[hq]
 have hm2:more e 2=0:=by unfold more;simp[hq]
 have hka:e.kids[0]?=some (e.kids.getD 0 0):=getD_some (by omega);have hkb:e.kids[1]?=some (e.kids.getD 1 0):=getD_some (by omega);have hkc:e.kids[2]?=some (e.kids.getD 2 0):=getD_some (by omega);obtain⟨pa,wa⟩:=s.kid0 hka hm0;obtain⟨pc,wc⟩:=s.kid0 hkc hm2;have hok:=ziO hpm N left _ wa;have hle:=zfL p N left (.part d (e.kids.getD 0 0).toNat env);obtain⟨rs,l1,hr1⟩:∃rs l1,zA p N left (.part d (e.kids.getD 0 0).toNat env)=(rs,l1):=⟨_,_,rfl⟩
 rw[hr1] at hok hle hev;have hle:l1<=left:=hle;cases rs with
 | bad c=>
  have hev':zA p (N+1) (left+1) (.part d a env)=(.bad c,l1):=hev;have W:=TN.w208 (β:=β) n (by omega) u1 bx tpc0 s.hd s.he (k:=0) hka pa (zbl p g) (by simp only[List.length_nil];omega);unfold f184_J11;simp (disch:=first|omega|simp only[zD]<;>omega|assumption) only[↓zR,↓zRM,zR,zRM,reduceAdd,reduceMul,reduceToNat,↓f184_J2,↓f184_J11,↓f184_J10,↓f184_L9,zbx,cl,es,ol,sset,tset,c2,q1,b1,g0,eq_false (show ¬ (5:Int)=0 by decide),eq_false (show ¬ (5:Int)=1 by decide),eq_false (show ¬ (5:Int)=2 by decide),eq_false (show ¬ (5:Int)=3 by decide),eq_false (show ¬ (5:Int)=4 by decide)];refine W _ _ ?_;intro u h2 ⟨e2,ca,eca,la,madea⟩;subst eca;refine Exists.elim (u1.grow (gn.trans n1.symm) e2) λgX hX=>?_
  have GX:=hX.1;have UX:=hX.2.1;have NX:=hX.2.2.1;have newX:=hX.2.2.2
  have:=e2.n
  have ta:=madea gX GX.un (by omega) newX;rw[List.append_nil] at ta;have L1:=hp5 (β:=β) UX NX (lb:=lb) (by omega) (GX.hid lb (by omega) dl) (by rw[e2.get _ (by omega)];exact kl) (lat.un DfC.staysU GX.un) ta wa hleft (by omega);rw[hr1] at L1;refine L1 _ _ ?_;intro u3 h3 ⟨g3',G3,U3,N3,le3,same3,lb3,res3⟩;have k3:∀i,i<h1.n->i≠lb->h3.get i=h1.get i:=λi hi hne=>by rw[same3 i (by omega) hne,e2.get i (by omega)]
  have GG3:=GX.trans G3;have eu3:=(show _/\_ from res3).1;have hcc:=(show _/\_ from res3).2;subst eu3;have c0:¬ c=0:=by omega
  have BX:=U3.box N3 (.own 0 [.int .i64 0,.int .i64 0,.nils]) (.own 0 [.int .i64 0,.int .i64 0,.nils]);have gZ:=BX.1;have uZ:=BX.2.1;have nZ:=BX.2.2.1;have xZ:=BX.2.2.2
  have o33:zG (h3.get b3)=some (0,[.int .i64 0,.int .i64 0,.nils]):=by rw[k3 _ (by omega) (by omega)];exact o31
  have st3:Lst n0 lb g h (g3'.push .dead) ((h3.push (.own 0 [.int .i64 0,.int .i64 0,.nils])).set h3.n (.own 0 [.int .i64 0,.int .i64 0,.nils])):=⟨GG3.trans gZ,by rw[H.n_set,H.n_push];omega,λi hi hne=>by rw[xZ i (by omega),k3 i (by omega) hne];exact k1 i hne⟩
  have pz:zac [.int .i64 0,.int .i64 0,.nils] 0 [.int .i64 0,.int .i64 0,.nils]=[.int .i64 0,.int .i64 0,.nils]:=rfl;unfold zfk;simp (disch:=first|omega|simp only[zD]<;>omega|assumption) only[↓zR,↓zRM,zR,zRM,reduceAdd,reduceMul,reduceToNat,↓f184_J2,↓f184_J11,↓f184_J10,↓f184_L9,eq_false c0,o33,pz];exact S0.fin st3 uZ nZ (by rw[xZ _ (by omega)];exact lb3) hk (by rw[hev']) (by rw[hev'];exact⟨rfl,rfl,rfl,rfl,hcc⟩)
 | ok f=>
 obtain⟨fk,fnm,fp⟩:=f;obtain⟨fw,_,fl,_⟩:=hok;have fl:fp.length<=3:=fl;simp only at hev
 by_cases d3k:fk=3
 case pos=>
  have hev':=hev;rw[if_pos d3k] at hev';have W:=TN.w208 (β:=β) n (by omega) u1 bx tpc0 s.hd s.he (k:=0) hka pa (zbl p g) (by simp only[List.length_nil];omega);unfold f184_J11;simp (disch:=first|omega|simp only[zD]<;>omega|assumption) only[↓zR,↓zRM,zR,zRM,reduceAdd,reduceMul,reduceToNat,↓f184_J2,↓f184_J11,↓f184_J10,↓f184_L9,zbx,cl,es,ol,sset,tset,c2,q1,b1,g0,eq_false (show ¬ (5:Int)=0 by decide),eq_false (show ¬ (5:Int)=1 by decide),eq_false (show ¬ (5:Int)=2 by decide),eq_false (show ¬ (5:Int)=3 by decide),eq_false (show ¬ (5:Int)=4 by decide)];refine W _ _ ?_;intro u h2 ⟨e2,ca,eca,la,madea⟩;subst eca;refine Exists.elim (u1.grow (gn.trans n1.symm) e2) λgX hX=>?_
  have GX:=hX.1;have UX:=hX.2.1;have NX:=hX.2.2.1;have newX:=hX.2.2.2
  have:=e2.n
  have ta:=madea gX GX.un (by omega) newX;rw[List.append_nil] at ta;have L1:=hp5 (β:=β) UX NX (lb:=lb) (by omega) (GX.hid lb (by omega) dl) (by rw[e2.get _ (by omega)];exact kl) (lat.un DfC.staysU GX.un) ta wa hleft (by omega);rw[hr1] at L1;refine L1 _ _ ?_;intro u3 h3 ⟨g3',G3,U3,N3,le3,same3,lb3,res3⟩;have k3:∀i,i<h1.n->i≠lb->h3.get i=h1.get i:=λi hi hne=>by rw[same3 i (by omega) hne,e2.get i (by omega)]
  have GG3:=GX.trans G3;refine Exists.elim (show ∃w3,_/\_/\_ from res3) λw3 res4=>?_
  have eu3:=res4.1;have hw3:=res4.2.1;have hp3:=res4.2.2
  subst eu3;have BX:=U3.box N3 (.own 0 [.int .i64 0,.int .i64 0,.nils]) (.own 0 [.int .i64 fk,.int .i64 fnm,w3]);have gZ:=BX.1;refine Exists.elim (⟨_,rfl⟩:∃hZ,hZ=(h3.push (.own 0 [.int .i64 0,.int .i64 0,.nils])).set h3.n (.own 0 [.int .i64 fk,.int .i64 fnm,w3])) λhZ ehZ=>?_
  rw[<- ehZ] at BX;have uZ:=BX.2.1;have nZ:=BX.2.2.1;have xZ:=BX.2.2.2
  have nhZ:hZ.n=h3.n+1:=by rw[ehZ,H.n_set,H.n_push]
  have kZ:(hZ.get h3.n).cells=some [.int .i64 fk,.int .i64 fnm,w3]:=by rw[ehZ,zn rfl];rfl
  have pz:zac [.int .i64 0,.int .i64 0,.nils] 0 [.int .i64 fk,.int .i64 fnm,w3]=[.int .i64 fk,.int .i64 fnm,w3]:=rfl;have tz:(h3.push (.own 0 [.int .i64 0,.int .i64 0,.nils])).set h3.n (.own 0 [.int .i64 fk,.int .i64 fnm,w3])=hZ:=ehZ.symm;have GGZ:=GG3.trans gZ;have sameZ:∀i,i<n0->i≠lb->hZ.get i=h.get i:=λi hi hne=>by rw[xZ i (by omega),k3 i (by omega) hne];exact k1 i hne
  have lbZ:hZ.get lb = .own 0 [pv,.int .i64 (l1:Int)]:=by rw[xZ _ (by omega)];exact lb3
  have o3Z:zG (h3.get b3)=some (0,[.int .i64 0,.int .i64 0,.nils]):=by rw[k3 _ (by omega) (by omega)];exact o31
  have l3Z:hZ.get b3 = .own 0 [.int .i64 0,.int .i64 0,.nils]:=by rw[xZ _ (by omega),k3 _ (by omega) (by omega),k1 _ (by omega)];exact l3
  have o2Z:zG (hZ.get b2)=some (0,[.str [],bv,.int .i64 (a:Int),tv]):=by rw[xZ _ (by omega),k3 _ (by omega) (by omega)];exact o21
  have stZ:Lst n0 lb g h (g3'.push .dead) hZ:=⟨GGZ,by omega,sameZ⟩
  have lw:=hp3.un (TPC.staysU p) gZ.un;have lwl:=lw.len (β:=β);have b3x:(h3.get eb).cells=some us:=by rw[k3 _ (by omega) ne1];exact b11
  have bxZ:InAt 4 hZ b2 0 [.str [],bv,.int .i64 (a:Int),tv]:=(InAt.own (cs:=[.str [],bv,.int .i64 (a:Int),tv]) (by omega) (by rw[xZ _ (by omega),k3 _ (by omega) (by omega),k1 _ (by omega)];exact l2):InAt 4 hZ b2 0 _)
  simp (disch:=first|omega|simp only[zD]<;>omega|assumption) only[↓zR,↓zRM,zR,zRM,reduceAdd,reduceMul,reduceToNat,↓f184_J2,↓f184_J11,↓f184_J10,↓f184_L9,tz,pz,kZ,eq_true d3k,o3Z];exact S0.fin stZ uZ nZ lbZ hk (by rw[hev']) (by rw[hev'];exact⟨rfl,rfl,rfl,hw3,lw⟩)
 case neg=>
 rw[if_neg d3k] at hev
 by_cases d2k:fk=2
 case neg=>
  have hev':=hev;rw[if_neg (λhh=>d2k hh.1)] at hev';have W:=TN.w208 (β:=β) n (by omega) u1 bx tpc0 s.hd s.he (k:=0) hka pa (zbl p g) (by simp only[List.length_nil];omega);unfold f184_J11;simp (disch:=first|omega|simp only[zD]<;>omega|assumption) only[↓zR,↓zRM,zR,zRM,reduceAdd,reduceMul,reduceToNat,↓f184_J2,↓f184_J11,↓f184_J10,↓f184_L9,zbx,cl,es,ol,sset,tset,c2,q1,b1,g0,eq_false (show ¬ (5:Int)=0 by decide),eq_false (show ¬ (5:Int)=1 by decide),eq_false (show ¬ (5:Int)=2 by decide),eq_false (show ¬ (5:Int)=3 by decide),eq_false (show ¬ (5:Int)=4 by decide)];refine W _ _ ?_;intro u h2 ⟨e2,ca,eca,la,madea⟩;subst eca;refine Exists.elim (u1.grow (gn.trans n1.symm) e2) λgX hX=>?_
  have GX:=hX.1;have UX:=hX.2.1;have NX:=hX.2.2.1;have newX:=hX.2.2.2
  have:=e2.n
  have ta:=madea gX GX.un (by omega) newX;rw[List.append_nil] at ta;have L1:=hp5 (β:=β) UX NX (lb:=lb) (by omega) (GX.hid lb (by omega) dl) (by rw[e2.get _ (by omega)];exact kl) (lat.un DfC.staysU GX.un) ta wa hleft (by omega);rw[hr1] at L1;refine L1 _ _ ?_;intro u3 h3 ⟨g3',G3,U3,N3,le3,same3,lb3,res3⟩;have k3:∀i,i<h1.n->i≠lb->h3.get i=h1.get i:=λi hi hne=>by rw[same3 i (by omega) hne,e2.get i (by omega)]
  have GG3:=GX.trans G3;refine Exists.elim (show ∃w3,_/\_/\_ from res3) λw3 res4=>?_
  have eu3:=res4.1;have hw3:=res4.2.1;have hp3:=res4.2.2
  subst eu3;have BX:=U3.box N3 (.own 0 [.int .i64 0,.int .i64 0,.nils]) (.own 0 [.int .i64 fk,.int .i64 fnm,w3]);have gZ:=BX.1;refine Exists.elim (⟨_,rfl⟩:∃hZ,hZ=(h3.push (.own 0 [.int .i64 0,.int .i64 0,.nils])).set h3.n (.own 0 [.int .i64 fk,.int .i64 fnm,w3])) λhZ ehZ=>?_
  rw[<- ehZ] at BX;have uZ:=BX.2.1;have nZ:=BX.2.2.1;have xZ:=BX.2.2.2
  have nhZ:hZ.n=h3.n+1:=by rw[ehZ,H.n_set,H.n_push]
  have kZ:(hZ.get h3.n).cells=some [.int .i64 fk,.int .i64 fnm,w3]:=by rw[ehZ,zn rfl];rfl
  have pz:zac [.int .i64 0,.int .i64 0,.nils] 0 [.int .i64 fk,.int .i64 fnm,w3]=[.int .i64 fk,.int .i64 fnm,w3]:=rfl;have tz:(h3.push (.own 0 [.int .i64 0,.int .i64 0,.nils])).set h3.n (.own 0 [.int .i64 fk,.int .i64 fnm,w3])=hZ:=ehZ.symm;have GGZ:=GG3.trans gZ;have sameZ:∀i,i<n0->i≠lb->hZ.get i=h.get i:=λi hi hne=>by rw[xZ i (by omega),k3 i (by omega) hne];exact k1 i hne
  have lbZ:hZ.get lb = .own 0 [pv,.int .i64 (l1:Int)]:=by rw[xZ _ (by omega)];exact lb3
  have o3Z:zG (h3.get b3)=some (0,[.int .i64 0,.int .i64 0,.nils]):=by rw[k3 _ (by omega) (by omega)];exact o31
  have l3Z:hZ.get b3 = .own 0 [.int .i64 0,.int .i64 0,.nils]:=by rw[xZ _ (by omega),k3 _ (by omega) (by omega),k1 _ (by omega)];exact l3
  have o2Z:zG (hZ.get b2)=some (0,[.str [],bv,.int .i64 (a:Int),tv]):=by rw[xZ _ (by omega),k3 _ (by omega) (by omega)];exact o21
  have stZ:Lst n0 lb g h (g3'.push .dead) hZ:=⟨GGZ,by omega,sameZ⟩
  have lw:=hp3.un (TPC.staysU p) gZ.un;have lwl:=lw.len (β:=β);have b3x:(h3.get eb).cells=some us:=by rw[k3 _ (by omega) ne1];exact b11
  have bxZ:InAt 4 hZ b2 0 [.str [],bv,.int .i64 (a:Int),tv]:=(InAt.own (cs:=[.str [],bv,.int .i64 (a:Int),tv]) (by omega) (by rw[xZ _ (by omega),k3 _ (by omega) (by omega),k1 _ (by omega)];exact l2):InAt 4 hZ b2 0 _)
  have W2:=TN.w208 (β:=β) n (by omega) uZ bxZ (tpc0.un GGZ.un) s.hd s.he (k:=2) hkc pc (zbl p _) (by simp only[List.length_nil];omega);simp (disch:=first|omega|simp only[zD]<;>omega|assumption) only[↓zR,↓zRM,zR,zRM,reduceAdd,reduceMul,reduceToNat,↓f184_J2,↓f184_J11,↓f184_J10,↓f184_L9,zbx,tz,pz,kZ,eq_false d3k,eq_false d2k];refine W2 _ _ ?_;intro u4 h4 ⟨e4,cb,ecb,lcb,madeb⟩;subst ecb;obtain⟨gY,GY,UY,NY,newY⟩:=uZ.grow nZ e4;have:=e4.n
  have tb:=madeb gY GY.un (by omega) newY;rw[List.append_nil] at tb;have GG:=GGZ.trans GY;have d2Y:=GG.hid b2 (by omega) d2;obtain⟨y0,y1,y2,y3,rfl⟩:∃y0 y1 y2 y3,cb=[y0,y1,y2,y3]:=by
   match cb,lcb with
   | [y0,y1,y2,y3],_=>exact⟨_,_,_,_,rfl⟩
  have o24:zG (h4.get b2)=some (0,[.str [],bv,.int .i64 (a:Int),tv]):=by rw[e4.get _ (by omega)];exact o2Z
  have pu:zac [.str [],bv,.int .i64 (a:Int),tv] 0 [y0,y1,y2,y3]=[y0,y1,y2,y3]:=rfl;obtain⟨h5,eh5⟩:∃h5,h5=h4.set b2 (.own 0 [y0,y1,y2,y3]):=⟨_,rfl⟩
  have k5:∀i,i≠b2->h5.get i=h4.get i:=λi hi=>by rw[eh5,ze (by omega)]
  have u5:Un gY h5:=by rw[eh5];exact UY.set d2Y _
  have n5:h5.n=h4.n:=by rw[eh5,H.n_set]
  have st5:Lst n0 lb g h gY h5:=⟨GG,by omega,λi hi hne=>by rw[k5 i (by omega),e4.get i (by omega)];exact sameZ i hi hne⟩
  have S5:LS p n0 lb b2 b3 pv l1 [y0,y1,y2,y3] (.part d (e.kids.getD 2 0).toNat env) gY h5:=⟨u5,by omega,i0,i2,i3,i23,by omega,by omega,by rw[k5 _ (by omega),e4.get _ (by omega)];exact lbZ,by rw[eh5,zn rfl],by rw[k5 _ (by omega),e4.get _ (by omega)];exact l3Z,GG.hid lb (by omega) dl,d2Y,GG.hid b3 (by omega) d3,lat.un DfC.staysU GG.un,tb,wc,by omega⟩
  simp (disch:=first|omega|simp only[zD]<;>omega|assumption) only[↓zR,↓zRM,zR,zRM,reduceAdd,reduceMul,reduceToNat,↓f184_J2,↓f184_J11,↓f184_J10,↓f184_L9,o24,pu];rw[<- eh5];exact hc _ l1 (by omega) hev' _ _ _ _ _ _ _ _ _ _ _ _ _ _ _ _ _ _ _ _ _ _ S5 st5
 case pos=>
 by_cases dn:fnm=e.num
 case neg=>
  have hev':=hev;rw[if_neg (λhh=>dn hh.2.1)] at hev';have W:=TN.w208 (β:=β) n (by omega) u1 bx tpc0 s.hd s.he (k:=0) hka pa (zbl p g) (by simp only[List.length_nil];omega);unfold f184_J11;simp (disch:=first|omega|simp only[zD]<;>omega|assumption) only[↓zR,↓zRM,zR,zRM,reduceAdd,reduceMul,reduceToNat,↓f184_J2,↓f184_J11,↓f184_J10,↓f184_L9,zbx,cl,es,ol,sset,tset,c2,q1,b1,g0,eq_false (show ¬ (5:Int)=0 by decide),eq_false (show ¬ (5:Int)=1 by decide),eq_false (show ¬ (5:Int)=2 by decide),eq_false (show ¬ (5:Int)=3 by decide),eq_false (show ¬ (5:Int)=4 by decide)];refine W _ _ ?_;intro u h2 ⟨e2,ca,eca,la,madea⟩;subst eca;refine Exists.elim (u1.grow (gn.trans n1.symm) e2) λgX hX=>?_
  have GX:=hX.1;have UX:=hX.2.1;have NX:=hX.2.2.1;have newX:=hX.2.2.2
  have:=e2.n
  have ta:=madea gX GX.un (by omega) newX;rw[List.append_nil] at ta;have L1:=hp5 (β:=β) UX NX (lb:=lb) (by omega) (GX.hid lb (by omega) dl) (by rw[e2.get _ (by omega)];exact kl) (lat.un DfC.staysU GX.un) ta wa hleft (by omega);rw[hr1] at L1;refine L1 _ _ ?_;intro u3 h3 ⟨g3',G3,U3,N3,le3,same3,lb3,res3⟩;have k3:∀i,i<h1.n->i≠lb->h3.get i=h1.get i:=λi hi hne=>by rw[same3 i (by omega) hne,e2.get i (by omega)]
  have GG3:=GX.trans G3;refine Exists.elim (show ∃w3,_/\_/\_ from res3) λw3 res4=>?_
  have eu3:=res4.1;have hw3:=res4.2.1;have hp3:=res4.2.2
  subst eu3;have BX:=U3.box N3 (.own 0 [.int .i64 0,.int .i64 0,.nils]) (.own 0 [.int .i64 fk,.int .i64 fnm,w3]);have gZ:=BX.1;refine Exists.elim (⟨_,rfl⟩:∃hZ,hZ=(h3.push (.own 0 [.int .i64 0,.int .i64 0,.nils])).set h3.n (.own 0 [.int .i64 fk,.int .i64 fnm,w3])) λhZ ehZ=>?_
  rw[<- ehZ] at BX;have uZ:=BX.2.1;have nZ:=BX.2.2.1;have xZ:=BX.2.2.2
  have nhZ:hZ.n=h3.n+1:=by rw[ehZ,H.n_set,H.n_push]
  have kZ:(hZ.get h3.n).cells=some [.int .i64 fk,.int .i64 fnm,w3]:=by rw[ehZ,zn rfl];rfl
  have pz:zac [.int .i64 0,.int .i64 0,.nils] 0 [.int .i64 fk,.int .i64 fnm,w3]=[.int .i64 fk,.int .i64 fnm,w3]:=rfl;have tz:(h3.push (.own 0 [.int .i64 0,.int .i64 0,.nils])).set h3.n (.own 0 [.int .i64 fk,.int .i64 fnm,w3])=hZ:=ehZ.symm;have GGZ:=GG3.trans gZ;have sameZ:∀i,i<n0->i≠lb->hZ.get i=h.get i:=λi hi hne=>by rw[xZ i (by omega),k3 i (by omega) hne];exact k1 i hne
  have lbZ:hZ.get lb = .own 0 [pv,.int .i64 (l1:Int)]:=by rw[xZ _ (by omega)];exact lb3
  have o3Z:zG (h3.get b3)=some (0,[.int .i64 0,.int .i64 0,.nils]):=by rw[k3 _ (by omega) (by omega)];exact o31
  have l3Z:hZ.get b3 = .own 0 [.int .i64 0,.int .i64 0,.nils]:=by rw[xZ _ (by omega),k3 _ (by omega) (by omega),k1 _ (by omega)];exact l3
  have o2Z:zG (hZ.get b2)=some (0,[.str [],bv,.int .i64 (a:Int),tv]):=by rw[xZ _ (by omega),k3 _ (by omega) (by omega)];exact o21
  have stZ:Lst n0 lb g h (g3'.push .dead) hZ:=⟨GGZ,by omega,sameZ⟩
  have lw:=hp3.un (TPC.staysU p) gZ.un;have lwl:=lw.len (β:=β);have b3x:(h3.get eb).cells=some us:=by rw[k3 _ (by omega) ne1];exact b11
  have bxZ:InAt 4 hZ b2 0 [.str [],bv,.int .i64 (a:Int),tv]:=(InAt.own (cs:=[.str [],bv,.int .i64 (a:Int),tv]) (by omega) (by rw[xZ _ (by omega),k3 _ (by omega) (by omega),k1 _ (by omega)];exact l2):InAt 4 hZ b2 0 _)
  have W2:=TN.w208 (β:=β) n (by omega) uZ bxZ (tpc0.un GGZ.un) s.hd s.he (k:=2) hkc pc (zbl p _) (by simp only[List.length_nil];omega);simp (disch:=first|omega|simp only[zD]<;>omega|assumption) only[↓zR,↓zRM,zR,zRM,reduceAdd,reduceMul,reduceToNat,↓f184_J2,↓f184_J11,↓f184_J10,↓f184_L9,zbx,tz,pz,kZ,eq_false d3k,eq_true d2k,eq_false dn,b3x,g1];refine W2 _ _ ?_;intro u4 h4 ⟨e4,cb,ecb,lcb,madeb⟩;subst ecb;obtain⟨gY,GY,UY,NY,newY⟩:=uZ.grow nZ e4;have:=e4.n
  have tb:=madeb gY GY.un (by omega) newY;rw[List.append_nil] at tb;have GG:=GGZ.trans GY;have d2Y:=GG.hid b2 (by omega) d2;obtain⟨y0,y1,y2,y3,rfl⟩:∃y0 y1 y2 y3,cb=[y0,y1,y2,y3]:=by
   match cb,lcb with
   | [y0,y1,y2,y3],_=>exact⟨_,_,_,_,rfl⟩
  have o24:zG (h4.get b2)=some (0,[.str [],bv,.int .i64 (a:Int),tv]):=by rw[e4.get _ (by omega)];exact o2Z
  have pu:zac [.str [],bv,.int .i64 (a:Int),tv] 0 [y0,y1,y2,y3]=[y0,y1,y2,y3]:=rfl;obtain⟨h5,eh5⟩:∃h5,h5=h4.set b2 (.own 0 [y0,y1,y2,y3]):=⟨_,rfl⟩
  have k5:∀i,i≠b2->h5.get i=h4.get i:=λi hi=>by rw[eh5,ze (by omega)]
  have u5:Un gY h5:=by rw[eh5];exact UY.set d2Y _
  have n5:h5.n=h4.n:=by rw[eh5,H.n_set]
  have st5:Lst n0 lb g h gY h5:=⟨GG,by omega,λi hi hne=>by rw[k5 i (by omega),e4.get i (by omega)];exact sameZ i hi hne⟩
  have S5:LS p n0 lb b2 b3 pv l1 [y0,y1,y2,y3] (.part d (e.kids.getD 2 0).toNat env) gY h5:=⟨u5,by omega,i0,i2,i3,i23,by omega,by omega,by rw[k5 _ (by omega),e4.get _ (by omega)];exact lbZ,by rw[eh5,zn rfl],by rw[k5 _ (by omega),e4.get _ (by omega)];exact l3Z,GG.hid lb (by omega) dl,d2Y,GG.hid b3 (by omega) d3,lat.un DfC.staysU GG.un,tb,wc,by omega⟩
  simp (disch:=first|omega|simp only[zD]<;>omega|assumption) only[↓zR,↓zRM,zR,zRM,reduceAdd,reduceMul,reduceToNat,↓f184_J2,↓f184_J11,↓f184_J10,↓f184_L9,o24,pu];rw[<- eh5];exact hc _ l1 (by omega) hev' _ _ _ _ _ _ _ _ _ _ _ _ _ _ _ _ _ _ _ _ _ _ S5 st5
 case pos=>
 by_cases db:(fp.length:Int)=e.bind
 case neg=>
  have hev':=hev;rw[if_neg (λhh=>db hh.2.2)] at hev';have W:=TN.w208 (β:=β) n (by omega) u1 bx tpc0 s.hd s.he (k:=0) hka pa (zbl p g) (by simp only[List.length_nil];omega);unfold f184_J11;simp (disch:=first|omega|simp only[zD]<;>omega|assumption) only[↓zR,↓zRM,zR,zRM,reduceAdd,reduceMul,reduceToNat,↓f184_J2,↓f184_J11,↓f184_J10,↓f184_L9,zbx,cl,es,ol,sset,tset,c2,q1,b1,g0,eq_false (show ¬ (5:Int)=0 by decide),eq_false (show ¬ (5:Int)=1 by decide),eq_false (show ¬ (5:Int)=2 by decide),eq_false (show ¬ (5:Int)=3 by decide),eq_false (show ¬ (5:Int)=4 by decide)];refine W _ _ ?_;intro u h2 ⟨e2,ca,eca,la,madea⟩;subst eca;refine Exists.elim (u1.grow (gn.trans n1.symm) e2) λgX hX=>?_
  have GX:=hX.1;have UX:=hX.2.1;have NX:=hX.2.2.1;have newX:=hX.2.2.2
  have:=e2.n
  have ta:=madea gX GX.un (by omega) newX;rw[List.append_nil] at ta;have L1:=hp5 (β:=β) UX NX (lb:=lb) (by omega) (GX.hid lb (by omega) dl) (by rw[e2.get _ (by omega)];exact kl) (lat.un DfC.staysU GX.un) ta wa hleft (by omega);rw[hr1] at L1;refine L1 _ _ ?_;intro u3 h3 ⟨g3',G3,U3,N3,le3,same3,lb3,res3⟩;have k3:∀i,i<h1.n->i≠lb->h3.get i=h1.get i:=λi hi hne=>by rw[same3 i (by omega) hne,e2.get i (by omega)]
  have GG3:=GX.trans G3;refine Exists.elim (show ∃w3,_/\_/\_ from res3) λw3 res4=>?_
  have eu3:=res4.1;have hw3:=res4.2.1;have hp3:=res4.2.2
  subst eu3;have BX:=U3.box N3 (.own 0 [.int .i64 0,.int .i64 0,.nils]) (.own 0 [.int .i64 fk,.int .i64 fnm,w3]);have gZ:=BX.1;refine Exists.elim (⟨_,rfl⟩:∃hZ,hZ=(h3.push (.own 0 [.int .i64 0,.int .i64 0,.nils])).set h3.n (.own 0 [.int .i64 fk,.int .i64 fnm,w3])) λhZ ehZ=>?_
  rw[<- ehZ] at BX;have uZ:=BX.2.1;have nZ:=BX.2.2.1;have xZ:=BX.2.2.2
  have nhZ:hZ.n=h3.n+1:=by rw[ehZ,H.n_set,H.n_push]
  have kZ:(hZ.get h3.n).cells=some [.int .i64 fk,.int .i64 fnm,w3]:=by rw[ehZ,zn rfl];rfl
  have pz:zac [.int .i64 0,.int .i64 0,.nils] 0 [.int .i64 fk,.int .i64 fnm,w3]=[.int .i64 fk,.int .i64 fnm,w3]:=rfl;have tz:(h3.push (.own 0 [.int .i64 0,.int .i64 0,.nils])).set h3.n (.own 0 [.int .i64 fk,.int .i64 fnm,w3])=hZ:=ehZ.symm;have GGZ:=GG3.trans gZ;have sameZ:∀i,i<n0->i≠lb->hZ.get i=h.get i:=λi hi hne=>by rw[xZ i (by omega),k3 i (by omega) hne];exact k1 i hne
  have lbZ:hZ.get lb = .own 0 [pv,.int .i64 (l1:Int)]:=by rw[xZ _ (by omega)];exact lb3
  have o3Z:zG (h3.get b3)=some (0,[.int .i64 0,.int .i64 0,.nils]):=by rw[k3 _ (by omega) (by omega)];exact o31
  have l3Z:hZ.get b3 = .own 0 [.int .i64 0,.int .i64 0,.nils]:=by rw[xZ _ (by omega),k3 _ (by omega) (by omega),k1 _ (by omega)];exact l3
  have o2Z:zG (hZ.get b2)=some (0,[.str [],bv,.int .i64 (a:Int),tv]):=by rw[xZ _ (by omega),k3 _ (by omega) (by omega)];exact o21
  have stZ:Lst n0 lb g h (g3'.push .dead) hZ:=⟨GGZ,by omega,sameZ⟩
  have lw:=hp3.un (TPC.staysU p) gZ.un;have lwl:=lw.len (β:=β);have b3x:(h3.get eb).cells=some us:=by rw[k3 _ (by omega) ne1];exact b11
  have bxZ:InAt 4 hZ b2 0 [.str [],bv,.int .i64 (a:Int),tv]:=(InAt.own (cs:=[.str [],bv,.int .i64 (a:Int),tv]) (by omega) (by rw[xZ _ (by omega),k3 _ (by omega) (by omega),k1 _ (by omega)];exact l2):InAt 4 hZ b2 0 _)
  have W2:=TN.w208 (β:=β) n (by omega) uZ bxZ (tpc0.un GGZ.un) s.hd s.he (k:=2) hkc pc (zbl p _) (by simp only[List.length_nil];omega);simp (disch:=first|omega|simp only[zD]<;>omega|assumption) only[↓zR,↓zRM,zR,zRM,reduceAdd,reduceMul,reduceToNat,↓f184_J2,↓f184_J11,↓f184_J10,↓f184_L9,zbx,tz,pz,kZ,eq_false d3k,eq_true d2k,eq_true dn,b3x,g1,g2,lwl,eq_false db];refine W2 _ _ ?_;intro u4 h4 ⟨e4,cb,ecb,lcb,madeb⟩;subst ecb;obtain⟨gY,GY,UY,NY,newY⟩:=uZ.grow nZ e4;have:=e4.n
  have tb:=madeb gY GY.un (by omega) newY;rw[List.append_nil] at tb;have GG:=GGZ.trans GY;have d2Y:=GG.hid b2 (by omega) d2;obtain⟨y0,y1,y2,y3,rfl⟩:∃y0 y1 y2 y3,cb=[y0,y1,y2,y3]:=by
   match cb,lcb with
   | [y0,y1,y2,y3],_=>exact⟨_,_,_,_,rfl⟩
  have o24:zG (h4.get b2)=some (0,[.str [],bv,.int .i64 (a:Int),tv]):=by rw[e4.get _ (by omega)];exact o2Z
  have pu:zac [.str [],bv,.int .i64 (a:Int),tv] 0 [y0,y1,y2,y3]=[y0,y1,y2,y3]:=rfl;obtain⟨h5,eh5⟩:∃h5,h5=h4.set b2 (.own 0 [y0,y1,y2,y3]):=⟨_,rfl⟩
  have k5:∀i,i≠b2->h5.get i=h4.get i:=λi hi=>by rw[eh5,ze (by omega)]
  have u5:Un gY h5:=by rw[eh5];exact UY.set d2Y _
  have n5:h5.n=h4.n:=by rw[eh5,H.n_set]
  have st5:Lst n0 lb g h gY h5:=⟨GG,by omega,λi hi hne=>by rw[k5 i (by omega),e4.get i (by omega)];exact sameZ i hi hne⟩
  have S5:LS p n0 lb b2 b3 pv l1 [y0,y1,y2,y3] (.part d (e.kids.getD 2 0).toNat env) gY h5:=⟨u5,by omega,i0,i2,i3,i23,by omega,by omega,by rw[k5 _ (by omega),e4.get _ (by omega)];exact lbZ,by rw[eh5,zn rfl],by rw[k5 _ (by omega),e4.get _ (by omega)];exact l3Z,GG.hid lb (by omega) dl,d2Y,GG.hid b3 (by omega) d3,lat.un DfC.staysU GG.un,tb,wc,by omega⟩
  simp (disch:=first|omega|simp only[zD]<;>omega|assumption) only[↓zR,↓zRM,zR,zRM,reduceAdd,reduceMul,reduceToNat,↓f184_J2,↓f184_J11,↓f184_J10,↓f184_L9,o24,pu];rw[<- eh5];exact hc _ l1 (by omega) hev' _ _ _ _ _ _ _ _ _ _ _ _ _ _ _ _ _ _ _ _ _ _ S5 st5
 case pos=>
  have hev':=hev;rw[if_pos ⟨d2k,dn,db⟩] at hev';have pb:=s.kid hkb (more':=fp) (by rw[show ((1:Nat):Int)=1 from rfl,hm1];exact db) fw;have W:=TN.w208 (β:=β) n (by omega) u1 bx tpc0 s.hd s.he (k:=0) hka pa (zbl p g) (by simp only[List.length_nil];omega);unfold f184_J11;simp (disch:=first|omega|simp only[zD]<;>omega|assumption) only[↓zR,↓zRM,zR,zRM,reduceAdd,reduceMul,reduceToNat,↓f184_J2,↓f184_J11,↓f184_J10,↓f184_L9,zbx,cl,es,ol,sset,tset,c2,q1,b1,g0,eq_false (show ¬ (5:Int)=0 by decide),eq_false (show ¬ (5:Int)=1 by decide),eq_false (show ¬ (5:Int)=2 by decide),eq_false (show ¬ (5:Int)=3 by decide),eq_false (show ¬ (5:Int)=4 by decide)];refine W _ _ ?_;intro u h2 ⟨e2,ca,eca,la,madea⟩;subst eca;refine Exists.elim (u1.grow (gn.trans n1.symm) e2) λgX hX=>?_
  have GX:=hX.1;have UX:=hX.2.1;have NX:=hX.2.2.1;have newX:=hX.2.2.2
  have:=e2.n
  have ta:=madea gX GX.un (by omega) newX;rw[List.append_nil] at ta;have L1:=hp5 (β:=β) UX NX (lb:=lb) (by omega) (GX.hid lb (by omega) dl) (by rw[e2.get _ (by omega)];exact kl) (lat.un DfC.staysU GX.un) ta wa hleft (by omega);rw[hr1] at L1;refine L1 _ _ ?_;intro u3 h3 ⟨g3',G3,U3,N3,le3,same3,lb3,res3⟩;have k3:∀i,i<h1.n->i≠lb->h3.get i=h1.get i:=λi hi hne=>by rw[same3 i (by omega) hne,e2.get i (by omega)]
  have GG3:=GX.trans G3;refine Exists.elim (show ∃w3,_/\_/\_ from res3) λw3 res4=>?_
  have eu3:=res4.1;have hw3:=res4.2.1;have hp3:=res4.2.2
  subst eu3;have BX:=U3.box N3 (.own 0 [.int .i64 0,.int .i64 0,.nils]) (.own 0 [.int .i64 fk,.int .i64 fnm,w3]);have gZ:=BX.1;refine Exists.elim (⟨_,rfl⟩:∃hZ,hZ=(h3.push (.own 0 [.int .i64 0,.int .i64 0,.nils])).set h3.n (.own 0 [.int .i64 fk,.int .i64 fnm,w3])) λhZ ehZ=>?_
  rw[<- ehZ] at BX;have uZ:=BX.2.1;have nZ:=BX.2.2.1;have xZ:=BX.2.2.2
  have nhZ:hZ.n=h3.n+1:=by rw[ehZ,H.n_set,H.n_push]
  have kZ:(hZ.get h3.n).cells=some [.int .i64 fk,.int .i64 fnm,w3]:=by rw[ehZ,zn rfl];rfl
  have pz:zac [.int .i64 0,.int .i64 0,.nils] 0 [.int .i64 fk,.int .i64 fnm,w3]=[.int .i64 fk,.int .i64 fnm,w3]:=rfl;have tz:(h3.push (.own 0 [.int .i64 0,.int .i64 0,.nils])).set h3.n (.own 0 [.int .i64 fk,.int .i64 fnm,w3])=hZ:=ehZ.symm;have GGZ:=GG3.trans gZ;have sameZ:∀i,i<n0->i≠lb->hZ.get i=h.get i:=λi hi hne=>by rw[xZ i (by omega),k3 i (by omega) hne];exact k1 i hne
  have lbZ:hZ.get lb = .own 0 [pv,.int .i64 (l1:Int)]:=by rw[xZ _ (by omega)];exact lb3
  have o3Z:zG (h3.get b3)=some (0,[.int .i64 0,.int .i64 0,.nils]):=by rw[k3 _ (by omega) (by omega)];exact o31
  have l3Z:hZ.get b3 = .own 0 [.int .i64 0,.int .i64 0,.nils]:=by rw[xZ _ (by omega),k3 _ (by omega) (by omega),k1 _ (by omega)];exact l3
  have o2Z:zG (hZ.get b2)=some (0,[.str [],bv,.int .i64 (a:Int),tv]):=by rw[xZ _ (by omega),k3 _ (by omega) (by omega)];exact o21
  have stZ:Lst n0 lb g h (g3'.push .dead) hZ:=⟨GGZ,by omega,sameZ⟩
  have lw:=hp3.un (TPC.staysU p) gZ.un;have lwl:=lw.len (β:=β);have b3x:(h3.get eb).cells=some us:=by rw[k3 _ (by omega) ne1];exact b11
  have bxZ:InAt 4 hZ b2 0 [.str [],bv,.int .i64 (a:Int),tv]:=(InAt.own (cs:=[.str [],bv,.int .i64 (a:Int),tv]) (by omega) (by rw[xZ _ (by omega),k3 _ (by omega) (by omega),k1 _ (by omega)];exact l2):InAt 4 hZ b2 0 _)
  have W2:=TN.w208 (β:=β) n (by omega) uZ bxZ (tpc0.un GGZ.un) s.hd s.he (k:=1) hkb pb.1 lw (by omega);simp (disch:=first|omega|simp only[zD]<;>omega|assumption) only[↓zR,↓zRM,zR,zRM,reduceAdd,reduceMul,reduceToNat,↓f184_J2,↓f184_J11,↓f184_J10,↓f184_L9,zbx,tz,pz,kZ,eq_false d3k,eq_true d2k,eq_true dn,b3x,g1,g2,lwl,eq_true db];refine W2 _ _ ?_;intro u4 h4 ⟨e4,cb,ecb,lcb,madeb⟩;subst ecb;obtain⟨gY,GY,UY,NY,newY⟩:=uZ.grow nZ e4;have:=e4.n
  have tb:=madeb gY GY.un (by omega) newY;have GG:=GGZ.trans GY;have d2Y:=GG.hid b2 (by omega) d2;obtain⟨y0,y1,y2,y3,rfl⟩:∃y0 y1 y2 y3,cb=[y0,y1,y2,y3]:=by
   match cb,lcb with
   | [y0,y1,y2,y3],_=>exact⟨_,_,_,_,rfl⟩
  have o24:zG (h4.get b2)=some (0,[.str [],bv,.int .i64 (a:Int),tv]):=by rw[e4.get _ (by omega)];exact o2Z
  have pu:zac [.str [],bv,.int .i64 (a:Int),tv] 0 [y0,y1,y2,y3]=[y0,y1,y2,y3]:=rfl;obtain⟨h5,eh5⟩:∃h5,h5=h4.set b2 (.own 0 [y0,y1,y2,y3]):=⟨_,rfl⟩
  have k5:∀i,i≠b2->h5.get i=h4.get i:=λi hi=>by rw[eh5,ze (by omega)]
  have u5:Un gY h5:=by rw[eh5];exact UY.set d2Y _
  have n5:h5.n=h4.n:=by rw[eh5,H.n_set]
  have st5:Lst n0 lb g h gY h5:=⟨GG,by omega,λi hi hne=>by rw[k5 i (by omega),e4.get i (by omega)];exact sameZ i hi hne⟩
  have S5:LS p n0 lb b2 b3 pv l1 [y0,y1,y2,y3] (.part d (e.kids.getD 1 0).toNat (env++fp)) gY h5:=⟨u5,by omega,i0,i2,i3,i23,by omega,by omega,by rw[k5 _ (by omega),e4.get _ (by omega)];exact lbZ,by rw[eh5,zn rfl],by rw[k5 _ (by omega),e4.get _ (by omega)];exact l3Z,GG.hid lb (by omega) dl,d2Y,GG.hid b3 (by omega) d3,lat.un DfC.staysU GG.un,tb,pb.2,by omega⟩
  simp (disch:=first|omega|simp only[zD]<;>omega|assumption) only[↓zR,↓zRM,zR,zRM,reduceAdd,reduceMul,reduceToNat,↓f184_J2,↓f184_J11,↓f184_J10,↓f184_L9,o24,pu];rw[<- eh5];exact hc _ l1 (by omega) hev' _ _ _ _ _ _ _ _ _ _ _ _ _ _ _ _ _ _ _ _ _ _ S5 st5
end
end Am.F
end
section
namespace Am.F
open Go Am
section
variable {t:ETree}
def zlz(t:ETree)(p:List Df)(N:Nat):Prop:=∀{β:Type} (n M:Nat),N<=M->1200+2*N<=n->∀{n0 lb b2 b3:Nat} {pv:AV} {left:Nat} {cs:List AV} {th:Thg} {g h:H} {k:K β} {R:Option β},left<N->LS p n0 lb b2 b3 pv left cs th g h ->
 (∀u h',zdR p (zA p N left th) n0 g h lb pv u h'->k u h'=R)->∀x1 x4 x5 x6 x7 x8 x9 x10 x11 x12 x13 x14 x15 x16 x17 x18 x19 x20 x21:AV,
 zaE 22 M (.mk (f184_L9 (zd t stdI n) k (f184_J2 (zd t stdI n) k))) (.ptr lb 0) x1 (.ptr b2 0) (.ptr b3 0) x4 x5 x6 x7 x8 x9 x10 x11 x12 x13 x14 x15 x16 x17 x18 x19 x20 x21 h=R
theorem zlz.look(TN:GNM t){p:List Df}{N n:Nat}(hl:zlz t p N)(hn:1201+2*N<=n):zfj t p N n:=by
 intro β g h lb pv left cs th ug gn hlb dl ll lat tpc wf hN h1000 k R hk;obtain⟨m,rfl⟩:∃m,n=m+1:=⟨n-1,by omega⟩
 have h4:=tpc.len;obtain⟨c0,c1,c2,c3,rfl⟩:∃c0 c1 c2 c3,cs=[c0,c1,c2,c3]:=by
  match cs,h4 with
  | [a0,a1,a2,a3],_=>exact⟨_,_,_,_,rfl⟩
 obtain⟨gA,uA,nA,dA⟩:=ug.hide gn (.own 0 [c0,c1,c2,c3]);obtain⟨gB,uB,nB,dB⟩:=uA.hide nA (.own 0 [.int .i64 0,.int .i64 0,.nils]);have GG:=gA.trans gB;have S:LS p h.n lb h.n (h.n+1) pv left [c0,c1,c2,c3] th ((g.push .dead).push .dead) ((h.push (.own 0 [c0,c1,c2,c3])).push (.own 0 [.int .i64 0,.int .i64 0,.nils])) :=
  ⟨uB,nB,hlb,Nat.le_refl _,Nat.le_succ _,by omega,by simp only[H.n_push];omega,by simp only[H.n_push];omega,by rw[zc (by rw[H.n_push];omega),zc (by omega)];exact ll,
   by rw[zc (by rw[H.n_push];omega),zf rfl],by rw[zf (by rw[H.n_push])],GG.hid lb (by omega) dl,gB.hid _ (by rw[nA,H.n_push];omega) dA,by rw[H.n_push] at dB;exact dB,lat.un DfC.staysU GG.un,tpc.un GG.un,wf,h1000⟩
 have bxA:∀(hh:H) (kk:K β),qBox 0 (.agg [c0,c1,c2,c3]) hh (.mk kk)=kk (.ptr hh.n 0) (hh.push (.own 0 [c0,c1,c2,c3])):=λhh kk=>zU 0 _ hh kk
 rw[TN.c184];unfold f184;simp (disch:=first|omega|simp only[zD]<;>omega|assumption) only[↓zR,↓zRM,zR,zRM,reduceAdd,reduceMul,reduceToNat,↓f184_J2,↓f184_J11,↓f184_J10,↓f184_L9,↓bxA];refine hl m m (by omega) (by omega) hN S (λu h' hp=>hk u h' ?_) _ _ _ _ _ _ _ _ _ _ _ _ _ _ _ _ _ _ _;obtain⟨g',q1,q2,q3,q4,q5,q6,q7⟩:=hp;exact⟨g',GG.trans q1,q2,q3,by simp only[H.n_push] at q4;omega,λi hi hne=>by rw[q5 i hi hne,zc (by rw[H.n_push];omega),zc (by omega)],q6,q7⟩
theorem GNM.loop(TN:GNM t)(T:GA t)(L:GI t){p:List Df}(hpm:zt p=true):∀N,zlz t p N:=by
 intro N
 induction N with
 | zero=>intro β n M _ _ n0 lb b2 b3 pv left cs th g h k R hN;omega
 | succ N ih=>
  intro β n M hM hn n0 lb b2 b3 pv left cs th g h k R hN S hk x1 x4 x5 x6 x7 x8 x9 x10 x11 x12 x13 x14 x15 x16 x17 x18 x19 x20 x21;obtain⟨M',rfl⟩:∃M',M=M'+1:=⟨M-1,by omega⟩
  have i2:=S.i2;have i3:=S.i3;have i0:=S.i0
  cases th with
  | term s=>
   have hm:mayP s=true:=by
    have wf:=S.wf;cases wf with
    | term h=>exact h
   obtain⟨u,hu⟩:∃u,tP s=some u:=by
    unfold mayP at hm;rw[zfn] at hm;exact Option.isSome_iff_exists.1 hm
   have hcs:cs=[.str s,.nils,.int .i64 0,.nils]:=by
    have tpc:=S.tpc;cases tpc;rfl
   subst hcs;have hr:=zh3 hu;have hev:zA p (N+1) left (.term s)=(zjg s,left):=by unfold zA;rfl
   have hrd:zjg s=if u.kind=0 then .bad 902 else .ok ⟨u.kind,u.num,u.kids.map .term⟩:=by unfold zjg;rw[hu]
   have c2:(h.get b2).cells=some [.str s,.nils,.int .i64 0,.nils]:=by rw[S.l2];rfl
   have W:=TN.w210 (β:=β) T L n (by omega) (h:=h) (lv:=.ptr lb 0) hu hr.2.1;have j3:=S.j3;have j2:=S.j2
   rw[zcr];simp (disch:=first|omega|simp only[zD]<;>omega|assumption) only[↓zR,↓zRM,zR,zRM,reduceAdd,reduceMul,reduceToNat,↓f184_L9,↓f184_J2,c2,Bool.not_true];refine W _ _ ?_;intro v h2 ⟨e2,hv⟩;obtain⟨gX,GX,UX,NX,newX⟩:=S.un.grow S.gn e2;have:=e2.n
   have o32:zG (h2.get b3)=some (0,[.int .i64 0,.int .i64 0,.nils]):=by rw[e2.get _ (by omega),S.l3];rfl
   have ll2:h2.get lb = .own 0 [pv,.int .i64 (left:Int)]:=by rw[e2.get _ (by omega)];exact S.ll
   have st2:Lst n0 lb g h gX h2:=⟨GX,by omega,λi hi hne=>e2.get i (by omega)⟩
   by_cases hu0:u.kind=0
   ·rw[if_pos hu0] at hv hrd;subst hv;simp (disch:=first|omega|simp only[zD]<;>omega|assumption) only[↓zR,↓zRM,zR,zRM,reduceAdd,reduceMul,reduceToNat,o32];exact S.fin st2 UX NX ll2 hk (by rw[hev]) (by rw[hev,hrd];exact⟨rfl,rfl,rfl,rfl,.inr rfl⟩)
   ·rw[if_neg hu0] at hv hrd;obtain⟨w,ev,hw,hp⟩:=hv;subst ev;simp (disch:=first|omega|simp only[zD]<;>omega|assumption) only[↓zR,↓zRM,zR,zRM,reduceAdd,reduceMul,reduceToNat,o32];exact S.fin st2 UX NX ll2 hk (by rw[hev]) (by rw[hev,hrd];exact⟨rfl,rfl,rfl,hw,hp p gX (by omega) newX⟩)
  | part d a env=>
   obtain⟨df,lv,e,st⟩:=S.wf.stand;have hcs:∃bv tv,cs=[.str [],bv,.int .i64 (a:Int),tv]/\bv ≠ .nils/\∀kk:VK β,zdH .sl true bv (.mk kk)=kk (.bool true):=by
    have tpc:=S.tpc;cases tpc with
    | part hd' hb hnb rows hr hl' hen=>
     refine⟨_,_,rfl,hnb,λkk=>?_⟩;rcases hb with⟨h0,_⟩|⟨_,_,_,_,_,rfl,_⟩
     ·exact absurd h0 hnb
     ·exact zei _ _ _ _ _ _ _
   obtain⟨bv,tv,rfl,hnb,hnil⟩:=hcs;have c2:(h.get b2).cells=some [.str [],bv,.int .i64 (a:Int),tv]:=by rw[S.l2];rfl
   have cl:(h.get lb).cells=some [pv,.int .i64 (left:Int)]:=by rw[S.ll];rfl
   have o3:zG (h.get b3)=some (0,[.int .i64 0,.int .i64 0,.nils]):=by rw[S.l3];rfl
   cases left with
   | zero=>
    have hev:zA p (N+1) 0 (.part d a env)=(.bad 901,0):=by unfold zA;rfl
    have cl0:(h.get lb).cells=some [pv,.int .i64 0]:=cl;have bz:∀kc:VK β,zp [.int .i64 0,.int .i64 0,.nils] [] [] (.mk kc)=kc zfk:=λkc=>rfl
    unfold zfk at bz;rw[zcr];simp (disch:=first|omega|simp only[zD]<;>omega|assumption) only[↓zR,↓zRM,zR,zRM,reduceAdd,reduceMul,reduceToNat,↓f184_L9,↓f184_J10,zbx,c2,cl0,↓hnil,↓bz,o3];exact S.fin ⟨Gh.refl g,Nat.le_refl _,λi _ _=>rfl⟩ S.un S.gn S.ll hk (by rw[hev]) (by rw[hev];exact⟨rfl,rfl,rfl,rfl,.inl rfl⟩)
   | succ left=>
    have hne:¬ ((left+1:Nat):Int)=0:=by omega
    have hc:∀th' left',left'<=left->zA p (N+1) (left+1) (.part d a env)=zA p N left' th'->Cont p n0 lb b2 b3 pv left' th' g h (zaE 22 M' (.mk (f184_L9 (zd t stdI n) k (f184_J2 (zd t stdI n) k)))) R:=by
     intro th' left' hle heq y1 y4 y5 y6 y7 y8 y9 y10 y11 y12 y13 y14 y15 y16 y17 y18 y19 y20 y21 cs' g' h' S' st';exact ih n M' (by omega) (by omega) (by omega) S' (λu h'' hp=>hk u h'' (by rw[heq];exact st'.post hp)) _ _ _ _ _ _ _ _ _ _ _ _ _ _ _ _ _ _ _
    have lk:zfj t p N n:=ih.look TN (by omega);have lk1:zfj t p N (n-1):=ih.look TN (by omega);rw[zcr];simp (disch:=first|omega|simp only[zD]<;>omega|assumption) only[↓zR,↓zRM,zR,zRM,reduceAdd,reduceMul,reduceToNat,↓f184_L9,↓f184_J10,zbx,c2,cl,↓hnil,eq_false hne]
    by_cases q0:e.kind=0
    ·exact TN.look_0 n (by omega) S st q0 hk hc _ _ _ _ _ _ _ _ _ _ _ _ _ _ _ _ _ _ _
    by_cases q1:e.kind=1
    ·exact TN.look_1 n (by omega) S st q1 hk hc _ _ _ _ _ _ _ _ _ _ _ _ _ _ _ _ _ _ _
    by_cases q2:e.kind=2
    ·exact TN.look_2 n (by omega) S st q2 hpm hk hc _ _ _ _ _ _ _ _ _ _ _ _ _ _ _ _ _ _ _
    by_cases q3:e.kind=3
    ·exact TN.look_3 n (by omega) S st q3 hk hc _ _ _ _ _ _ _ _ _ _ _ _ _ _ _ _ _ _ _
    by_cases q4:e.kind=4
    ·exact TN.look_4 T n (by omega) S st q4 lk1 (by omega) hk hc _ _ _ _ _ _ _ _ _ _ _ _ _ _ _ _ _ _ _
    by_cases q5:e.kind=5
    ·exact TN.look_5 n (by omega) S st q5 hpm lk (by omega) hk hc _ _ _ _ _ _ _ _ _ _ _ _ _ _ _ _ _ _ _
    by_cases q6:e.kind=6
    ·exact TN.look_6 n (by omega) S st q6 hk hc _ _ _ _ _ _ _ _ _ _ _ _ _ _ _ _ _ _ _
    ·exact TN.look_7 n (by omega) S st ⟨q0,q1,q2,q3,q4,q5,q6⟩ hk hc _ _ _ _ _ _ _ _ _ _ _ _ _ _ _ _ _ _ _
end
end Am.F
end
section
namespace Am.F
open Go Am
def zir(p:List Df)(f:Int)(args:List (List UInt8))(fuel:Int):Prop:=zt p=true/\0<=f/\f<(p.length:Int)/\(args.length:Int)=zan p f/\args.all mayP=true/\0<=fuel/\fuel<=400
instance (p:List Df) (f:Int) (args:List (List UInt8)) (fuel:Int):Decidable (zir p f args fuel):=by unfold zir;infer_instance
end Am.F
end
section
namespace Am.F
open Go Am
section
variable {β:Type} {t:ETree}
end
end Am.F
end
