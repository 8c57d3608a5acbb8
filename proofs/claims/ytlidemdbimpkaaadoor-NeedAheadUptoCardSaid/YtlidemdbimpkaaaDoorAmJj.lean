/- Texts that belong together: no condition. -/
import Derived.Test.YtlidemdbimpkaaaDoorAmJi
import Derived.Test.YtlidemdbimpkaaaDoorAmJg
import Derived.Test.YtlidemdbimpkaaaDoorAmJd
open Nat (reduceAdd reduceMul)
open Int (reduceToNat)
set_option maxRecDepth 100000
set_option linter.unusedVariables false
set_option linter.unusedSimpArgs false
set_option linter.defProp false
section
namespace Am.F
open Go Am
def LPost(p:List Df)(r:Rs × Nat)(n0:Nat)(g h:H)(lb:Nat)(pv:AV)(u:AV)(h':H):Prop :=
 ∃g',Gh g g'/\Un g' h'/\g'.n=h'.n/\h.n<=h'.n/\(∀i,i<n0->i≠lb->h'.get i=h.get i)/\h'.get lb = .own 0 [pv,.int .i64 (r.2:Int)] /\
  match r.1 with
  | .bad c=>u = .tup [zeroF,.int .i64 c]/\(c=901\/c=902)
  | .ok f=>∃w,u = .tup [.agg [.int .i64 f.kind,.int .i64 f.num,w],.int .i64 0]/\w.sc=true/\LAt 4 (TPC p) g' w f.parts
structure Lst (n0 lb:Nat) (g h g' h':H):Prop where
 gh:Gh g g'
 n:h.n<=h'.n
 same:∀i,i<n0->i≠lb->h'.get i=h.get i
theorem Lst.trans{n0 lb:Nat}{g h g1 h1 g2 h2:H}(a:Lst n0 lb g h g1 h1)(b:Lst n0 lb g1 h1 g2 h2):Lst n0 lb g h g2 h2 :=
 ⟨a.gh.trans b.gh,Nat.le_trans a.n b.n,λi hi hne=>(b.same i hi hne).trans (a.same i hi hne)⟩
theorem Lst.post{p:List Df}{r:Rs × Nat}{n0 lb:Nat}{g h g1 h1:H}{pv u:AV}{h':H}(a:Lst n0 lb g h g1 h1)(b:LPost p r n0 g1 h1 lb pv u h'):LPost p r n0 g h lb pv u h':=by
 obtain⟨g',q1,q2,q3,q4,q5,q6⟩:=b;exact⟨g',a.gh.trans q1,q2,q3,Nat.le_trans a.n q4,λi hi hne=>(q5 i hi hne).trans (a.same i hi hne),q6⟩
structure LS (p:List Df) (n0 lb b2 b3:Nat) (pv:AV) (left:Nat) (cs:List AV) (th:Thg) (g h:H):Prop where
 un:Un g h
 gn:g.n=h.n
 i0:lb<n0
 i2:n0<=b2
 i3:n0<=b3
 i23:b2≠b3
 j2:b2<h.n
 j3:b3<h.n
 ll:h.get lb = .own 0 [pv,.int .i64 (left:Int)]
 l2:h.get b2 = .own 0 cs
 l3:h.get b3 = .own 0 [.int .i64 0,.int .i64 0,.nils]
 dl:(g.get lb).cells=none
 d2:(g.get b2).cells=none
 d3:(g.get b3).cells=none
 lat:LAt 2 DfC g pv p
 tpc:TPC p g cs th
 wf:WF p th
 left1000:left<=1000
section
variable {β:Type} {t:ETree}
theorem LS.fin{p:List Df}{n0 lb b2 b3:Nat}{pv:AV}{left l3:Nat}{cs:List AV}{th:Thg}{g h g3 h3:H}{r:Rs × Nat}{k:K β}{R:Option β}(S:LS p n0 lb b2 b3 pv left cs th g h)(st:Lst n0 lb g h g3 h3)(u3:Un g3 h3)(n3:g3.n=h3.n)(hl:h3.get lb = .own 0 [pv,.int .i64 (l3:Int)])
  (hk:∀u h',LPost p r n0 g h lb pv u h'->k u h'=R) (hr:r.2=l3) {x y c:Int} {w:AV}
  (hm:match r.1 with|.bad c'=>c'=c/\x=0/\y=0/\w = .nils/\(c=901\/c=902)|.ok f=>f.kind=x/\f.num=y/\c=0/\w.sc=true/\LAt 4 (TPC p) g3 w f.parts) :
  k (.tup [.agg [.int .i64 x,.int .i64 y,w],.int .i64 c]) (h3.set b3 (.own 0 [.int .i64 x,.int .i64 y,w]))=R:=by
 have j:=S.i0;have j3:=S.i3
 have hid:=st.gh.hid b3 (by have:=S.gn;have:=S.j3;omega) S.d3;refine hk _ _ ⟨g3,st.gh,u3.set hid _,by rw[H.n_set];exact n3,by rw[H.n_set];exact st.n,λi hi hne=>by rw[zg (by omega)];exact st.same i hi hne,by rw[zg (by omega),hr];exact hl,?_⟩;obtain⟨rs,l⟩:=r;cases rs with
 | bad c'=>obtain⟨rfl,rfl,rfl,rfl,hc⟩:=hm;exact⟨rfl,hc⟩
 | ok f=>obtain⟨rfl,rfl,rfl,hw,hp⟩:=hm;exact⟨w,rfl,hw,hp⟩
end
end Am.F
end
section
namespace Am.F
open Go Am
section
variable {β:Type} {t:ETree}
end
end Am.F
end
section
namespace Am.F
open Go Am
section
variable {t:ETree}
def LoopOk(t:ETree)(p:List Df)(N:Nat):Prop:=∀{β:Type} (n M:Nat),N<=M->1200+2*N<=n->∀{n0 lb b2 b3:Nat} {pv:AV} {left:Nat} {cs:List AV} {th:Thg} {g h:H} {k:K β} {R:Option β},left<N->LS p n0 lb b2 b3 pv left cs th g h ->
 (∀u h',LPost p (zeC p N left th) n0 g h lb pv u h'->k u h'=R)->∀x1 x4 x5 x6 x7 x8 x9 x10 x11 x12 x13 x14 x15 x16 x17 x18 x19 x20 x21:AV,
 zaR 22 M (.mk (f184_L9 (ze t stdI n) k (f184_J2 (ze t stdI n) k))) (.ptr lb 0) x1 (.ptr b2 0) (.ptr b3 0) x4 x5 x6 x7 x8 x9 x10 x11 x12 x13 x14 x15 x16 x17 x18 x19 x20 x21 h=R
theorem LoopOk.look(TN:GNM t){p:List Df}{N n:Nat}(hl:LoopOk t p N)(hn:1201+2*N<=n):LookOk t p N n:=by
 intro β g h lb pv left cs th ug gn hlb dl ll lat tpc wf hN h1000 k R hk;obtain⟨m,rfl⟩:∃m,n=m+1:=⟨n-1,by omega⟩
 have h4:=tpc.len;obtain⟨c0,c1,c2,c3,rfl⟩:∃c0 c1 c2 c3,cs=[c0,c1,c2,c3]:=by
  match cs,h4 with
  | [a0,a1,a2,a3],_=>exact⟨_,_,_,_,rfl⟩
 obtain⟨gA,uA,nA,dA⟩:=ug.hide gn (.own 0 [c0,c1,c2,c3]);obtain⟨gB,uB,nB,dB⟩:=uA.hide nA (.own 0 [.int .i64 0,.int .i64 0,.nils]);have GG:=gA.trans gB;have S:LS p h.n lb h.n (h.n+1) pv left [c0,c1,c2,c3] th ((g.push .dead).push .dead) ((h.push (.own 0 [c0,c1,c2,c3])).push (.own 0 [.int .i64 0,.int .i64 0,.nils])) :=
  ⟨uB,nB,hlb,Nat.le_refl _,Nat.le_succ _,by omega,by simp only[H.n_push];omega,by simp only[H.n_push];omega,by rw[zc (by rw[H.n_push];omega),zc (by omega)];exact ll,
   by rw[zc (by rw[H.n_push];omega),zf rfl],by rw[zf (by rw[H.n_push])],GG.hid lb (by omega) dl,gB.hid _ (by rw[nA,H.n_push];omega) dA,by rw[H.n_push] at dB;exact dB,lat.un DfC.staysU GG.un,tpc.un GG.un,wf,h1000⟩
 have bxA:∀(hh:H) (kk:K β),qBox 0 (.agg [c0,c1,c2,c3]) hh (.mk kk)=kk (.ptr hh.n 0) (hh.push (.own 0 [c0,c1,c2,c3])):=λhh kk=>zr 0 _ hh kk
 rw[TN.c184];unfold f184;simp (disch:=first|omega|simp only[zD]<;>omega|assumption) only[↓zR,↓zRM,zR,zRM,reduceAdd,reduceMul,reduceToNat,↓f184_J2,↓f184_J11,↓f184_J10,↓f184_L9,↓bxA];refine hl m m (by omega) (by omega) hN S (λu h' hp=>hk u h' ?_) _ _ _ _ _ _ _ _ _ _ _ _ _ _ _ _ _ _ _;obtain⟨g',q1,q2,q3,q4,q5,q6,q7⟩:=hp;exact⟨g',GG.trans q1,q2,q3,by simp only[H.n_push] at q4;omega,λi hi hne=>by rw[q5 i hi hne,zc (by rw[H.n_push];omega),zc (by omega)],q6,q7⟩
end
end Am.F
end
section
namespace Am.F
open Go Am
def zh9(p:List Df)(f:Int)(args:List (List UInt8))(fuel:Int):Prop:=zo p=true/\0<=f/\f<(p.length:Int)/\(args.length:Int)=zE p f/\args.all mayP=true/\0<=fuel/\fuel<=400
instance (p:List Df) (f:Int) (args:List (List UInt8)) (fuel:Int):Decidable (zh9 p f args fuel):=by unfold zh9;infer_instance
theorem zha{p:List Df}{f:Int}{df:Df}(hf:p[f.toNat]?=some df):zE p f=df.params:=by unfold zE;rw[hf];rfl
theorem zj5{p:List Df}(hp:zo p=true){i:Nat}{df:Df}(hd:p[i]?=some df):df.params<=8:=by
 obtain⟨_,_,hall⟩:=zaC hp;have hm:=(hall df (List.mem_of_getElem? hd)).1;obtain⟨lv,hlv⟩:=zaU hm;have hl:=zaK hm;obtain⟨e,he⟩:∃e,df.body[df.body.length-1]?=some e:=⟨_,List.getElem?_eq_getElem (by omega)⟩
 have h8:=(hlv.part _ e he).1;rw[hlv.last] at h8;exact h8.2
theorem zks:mayP [95]=true:=(zc4 _).2 ⟨_,tP_hole⟩
end Am.F
end
section
namespace Am.F
open Go Am
section
variable {β:Type} {t:ETree}
end
end Am.F
end
