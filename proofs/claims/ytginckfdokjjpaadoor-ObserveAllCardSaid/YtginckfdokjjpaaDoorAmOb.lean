/- Walks: observe.Of,and what it adds to;the reference's. -/
import Derived.Test.YtginckfdokjjpaaDoorAmGO23W
import Derived.Test.YtginckfdokjjpaaDoorAmGR23W
import Derived.Test.YtginckfdokjjpaaDoorAmTr2
import Derived.Test.YtginckfdokjjpaaDoorAmJh
import Derived.Test.YtginckfdokjjpaaDoorAmJi
open Nat (reduceAdd reduceMul)
open Int (reduceToNat)
set_option linter.unusedSimpArgs false
set_option linter.unusedVariables false
namespace Am.F
open Go Am
def ins(acc:List (List UInt8))(s:List UInt8):List (List UInt8):=if s ∈ acc then acc else acc++[s]
def zb0(f:Int)(acc:List (List UInt8))(x:Nd):List (List UInt8):=if x.fn=f then ins acc (zT x) else acc
def obsO(f:Int)(ns:List Nd):List (List UInt8):=ns.foldl (zb0 f) []
theorem zbb(f:Int){ns:List Nd}{j:Nat}{x:Nd}(hx:ns[j]?=some x):obsO f (ns.take (j+1))=zb0 f (obsO f (ns.take j)) x:=by
 unfold obsO;rw[List.take_add_one,hx,List.foldl_append];rfl
theorem ins_len(acc:List (List UInt8))(s:List UInt8):acc.length<=(ins acc s).length/\(ins acc s).length<=acc.length+1:=by
 unfold ins;split<;>simp
theorem zin(f:Int)(acc:List (List UInt8))(x:Nd):acc.length<=(zb0 f acc x).length/\(zb0 f acc x).length<=acc.length+1:=by
 unfold zb0;split
 ·exact ins_len _ _
 ·omega
theorem zew(f:Int):∀(ns:List Nd) (j:Nat),j<=ns.length->(obsO f (ns.take j)).length<=j
 | ns,0,_=>by simp[obsO]
 | ns,j+1,h=>by
  have ih:=zew f ns j (by omega);rw[zbb f (List.getElem?_eq_getElem (show j<ns.length by omega))];have:=(zin f (obsO f (ns.take j)) ns[j]).2
  omega
theorem ins_mem{acc:List (List UInt8)}{s y:List UInt8}:y ∈ ins acc s↔y ∈ acc\/y=s:=by
 unfold ins;split
 ·rename_i h;exact⟨.inl,λh'=>h'.elim id λe=>e ▸ h⟩
 ·simp
theorem zev(f:Int){y:List UInt8}:∀(ns:List Nd) (j:Nat),j<=ns.length->y ∈ obsO f (ns.take j)->∃x ∈ ns,y=zT x
 | ns,0,_,h=>by simp[obsO] at h
 | ns,j+1,hj,h=>by
  rw[zbb f (List.getElem?_eq_getElem (show j<ns.length by omega))] at h;unfold zb0 at h;split at h
  ·rcases ins_mem.1 h with h|h
   ·exact zev f ns j (by omega) h
   ·exact⟨_,List.getElem_mem (by omega),h⟩
  ·exact zev f ns j (by omega) h
def zej(acc:List (List UInt8)):List (List UInt8 × AV):=acc.map λs=>(s,.bool true)
theorem zfD(s:List UInt8):∀acc,zU s (zej acc)=if s ∈ acc then some (.bool true) else none
 | []=>rfl
 | a::acc=>by
  have ih:=zfD s acc;show (if (s==a)=true then some (AV.bool true) else zU s (zej acc))=_;rw[ih]
  by_cases h:s=a
  ·subst h;rw[if_pos (by simp),if_pos (by simp)]
  ·rw[if_neg (by simpa using h)]
   by_cases h2:s ∈ acc
   ·rw[if_pos h2,if_pos (by simp[h2])]
   ·rw[if_neg h2,if_neg (by simp[h,h2])]
theorem zgW(s:List UInt8):∀acc,¬ s ∈ acc->zaM s (.bool true) (zej acc)=zej (acc++[s])
 | [],_=>rfl
 | a::acc,h=>by
  have ih:=zgW s acc λh'=>h (List.mem_cons_of_mem _ h')
  show (if (s==a)=true then (a,AV.bool true)::zej acc else (a,.bool true)::zaM s (.bool true) (zej acc))=_;rw[if_neg (by intro h';exact h (by rw[eq_of_beq h'];exact List.mem_cons_self)),ih];rfl
section
variable {β:Type} {t:ETree}
theorem q_Mkmap(h:H)(k:K β):qMkmap h (.mk k)=k (.mp h.n) (h.push (.map [] 0)):=by
 show zfE h k=_;unfold zfE;rw[zaf]
theorem q_Lookup{h:H}{m:Nat}{es:List (List UInt8 × AV)}{ck:Nat}(hm:h.get m = .map es ck)(z:AV)(s:List UInt8)(k:VK β):zep false z (.mp m) (.str s) h (.mk k)=k ((zU s es).getD z):=by
 show zeH false z (.mp m) (.str s) h k=_;show mapd h m (λes _=>match zh6 s es with|some v=>k v|none=>k z)=_;unfold mapd;rw[hm];show (match zh6 s es with|some v=>k v|none=>k z)=_;rw[zeF];cases zU s es<;>rfl
theorem q_MapSet{h:H}{m:Nat}{es:List (List UInt8 × AV)}{ck:Nat}(hm:h.get m = .map es ck)(s:List UInt8){v:AV}(hv:v.sc=true)(k:H->Option β):zgi (.mp m) (.str s) v h (.mk k)=k (h.set m (.map (zaM s v es) ck)):=by
 show zeG (.mp m) (.str s) v h k=_;show cond v.sc (mapd h m λes ck=>k (h.set m (.map (zhH s v es) ck))) none=_;rw[hv];unfold mapd;rw[hm];show k (h.set m (.map (zhH s v es) ck))=_;rw[zei]
def ObS(lo:Nat)(h:H)(b m:Nat)(acc:List (List UInt8)):Prop:=∃row ck hi,h.get b = .own 0 [row,.mp m]/\h.get m = .map (zej acc) ck/\b<lo/\m<lo/\b≠m/\lo<=hi/\hi<=h.n/\zL h lo hi 1 row (strs acc)
theorem ObS.ext{lo:Nat}{h h':H}{b m:Nat}{acc:List (List UInt8)}(s:ObS lo h b m acc)(e:Ext h h'):ObS lo h' b m acc:=by
 obtain⟨row,ck,hi,h1,h2,h3,h4,h5,h6,h7,h8⟩:=s;have:=e.n
 exact⟨row,ck,hi,by rw[e.get _ (by omega)];exact h1,by rw[e.get _ (by omega)];exact h2,h3,h4,h5,h6,by omega,h8.ext e h7⟩
theorem GO23.w274(TO:GO23 t)(n:Nat){lo:Nat}{h:H}{b m:Nat}{acc:List (List UInt8)}(st:ObS lo h b m acc)(s:List UInt8)(hr:acc.length+1<room)(k:K β)(R:Option β)
  (hk:∀h',ObS lo h' b m (ins acc s)->h.n<=h'.n->(∀i,i<lo->i≠b->i≠m->h'.get i=h.get i)->k (.tup []) h'=R):za t stdI (n+1) (.fn 274 []) [.ptr b 0,.str s] h k=R:=by
 have hroom:room=68719476736:=rfl;obtain⟨row,ck,hi,h1,h2,h3,h4,h5,h6,h7,h8⟩:=id st;have hb:(h.get b).cells=some [row,.mp m]:=by rw[h1];rfl
 have lk:=λkk:VK β=>q_Lookup (β:=β) h2 (.bool false) s kk
 rw[zfD] at lk
 by_cases hs:s ∈ acc
 ·have lk':∀kk:VK β,zep false (.bool false) (.mp m) (.str s) h (.mk kk)=kk (.bool true):=λkk=>by rw[lk kk,if_pos hs];rfl
  have fin:=hk h (by unfold ins;rw[if_pos hs];exact st) (Nat.le_refl _) λi _ _ _=>rfl
  rw[TO.c274];unfold f274;simp (disch:=first|omega|simp only[zD]<;>omega|assumption) only[↓zR,↓zRM,zR,zRM,reduceAdd,reduceMul,reduceToNat,nil_q,hb,↓lk'];exact fin
 ·have lk':∀kk:VK β,zep false (.bool false) (.mp m) (.str s) h (.mk kk)=kk (.bool false):=λkk=>by rw[lk kk,if_neg hs];rfl
  obtain⟨h9,hh9⟩:∃h9,h9=h.set m (.map (zej (acc++[s])) ck):=⟨_,rfl⟩
  have ms:∀kk:H->Option β,zgi (.mp m) (.str s) (.bool true) h (.mk kk)=kk h9:=λkk=>by rw[q_MapSet h2 s rfl,zgW s acc hs,hh9]
  have n9:h9.n=h.n:=by rw[hh9,H.n_set]
  have g9:∀i,i≠m->h9.get i=h.get i:=λi hi=>by rw[hh9,zk (λe=>hi e.symm)]
  have m9:h9.get m = .map (zej (acc++[s])) ck:=by rw[hh9,zaj rfl]
  have hb9:(h9.get b).cells=some [row,.mp m]:=by rw[g9 b h5];exact hb
  have o9:zL h9 lo hi 1 row (strs acc):=h8.mono (Nat.le_refl _) (Nat.le_refl _) λi p1 p2=>g9 i (by omega)
  have psc:=o9.sc;rw[TO.c274];unfold f274;simp (disch:=first|omega|simp only[zD]<;>omega|assumption) only[↓zR,↓zRM,zR,zRM,reduceAdd,reduceMul,reduceToNat,nil_q,hb,↓lk',↓ms,hb9];refine zeJ (lo:=lo) (hi:=hi) (cs:=strs acc) (o9.ext ((Ext.refl h9).push _) (by omega)) (zc rfl) ⟨by rw[H.n_push];omega,by rw[H.n_push];omega,by rw[zZ];omega,by omega⟩ ?_;intro v' h10 q1 q2 q3;rw[H.n_push] at q2 q3;have low:∀i,i<lo->h10.get i=h9.get i:=λi hi=>by rw[q3 i (by omega) (.inl hi),zd (by omega)]
  have ob:zfg (h10.get b)=some (0,[row,.mp m]):=by rw[low b h3,g9 b h5,h1];rfl
  have vsc:=q1.sc;simp (disch:=first|omega|simp only[zD]<;>omega|assumption) only[↓zR,↓zRM,zR,zRM,reduceAdd,reduceMul,reduceToNat,nil_q,ob];refine hk _ ⟨v',ck,h10.n,zaj rfl,?_,h3,h4,h5,by omega,by rw[H.n_set];exact Nat.le_refl _,?_⟩ (by rw[H.n_set];omega) λi p1 p2 p3=>?_
  ·rw[zk (λe=>h5 e),low m h4,m9];unfold ins;rw[if_neg hs]
  ·have:=q1.set (i:=b) (.inl h3) (.own 0 [v',.mp m])
   unfold ins;rw[if_neg hs];rw[show strs (acc++[s])=strs acc++[.str s] by simp[strs]];exact this
  ·rw[zk (λe=>p2 e.symm),low i p1,g9 i p3]
def zeX(h h':H)(v:AV)(xs:List (List UInt8)):Prop:=∃lo hi,h.n<=lo/\hi<=h'.n/\zL h' lo hi 1 v (strs xs)
def zi0(ns:List Nd)(f:Int):Prop:=zcx ns/\0<=f/\f<8
set_option maxHeartbeats 1000000 in
theorem GO23.w266(TO:GO23 t)(TC:GC t)(TB:GB t)(T:GA t)(L:GI t)(n:Nat){h:H}{v:AV}{ns:List Nd}(hn:ns.length+1300<=n)(hv:LAt 4 NdC h v ns)(hf:∀x ∈ ns,zgP x)(hl:ns.length<=9223372036854775807)(f:Int) :
  Sp (β:=β) (za t stdI n (.fn 266 []) [v,.int .i64 f] h) λu h'=>Ext h h'/\((zi0 ns f->∃w,u = .tup [w,.int .i64 0]/\zeX h h' w (obsO f ns))/\(¬ zi0 ns f->u = .tup [.nils,.int .i64 2300])):=by
 intro k R hk;have hroom:room=68719476736:=rfl;obtain⟨m,rfl⟩:∃m,n=m+2:=⟨n-2,by omega⟩
 have W:=TC.w261 (β:=β) TB T L (m+1) (by omega) hv hf hl;have lv:=hv.len (β:=β);have emp:∀kk:VK β,zW [.nils,.nilm] [(1,1)] [.mp h.n] (.mk kk)=kk (.agg [.nils,.mp h.n]):=λkk=>rfl
 rw[TO.c266];unfold f266;simp (disch:=first|omega|simp only[zD]<;>omega|assumption) only[↓zR,↓zRM,zR,zRM,reduceAdd,reduceMul,reduceToNat];refine W _ _ ?_;intro u h1 ⟨e1,eu⟩;subst eu
 by_cases hT:zcx ns
 case neg=>
  have fin:=hk (.tup [.nils,.int .i64 2300]) h1 ⟨e1,λhh=>absurd hh.1 hT,λ_=>rfl⟩;rw[zcB hT];simp (disch:=first|omega|simp only[zD]<;>omega|assumption) only[↓zR,↓zRM,zR,zRM,reduceAdd,reduceMul,reduceToNat];exact fin
 rw[zgv hT]
 by_cases f0:f<0
 ·have fin:=hk (.tup [.nils,.int .i64 2300]) h1 ⟨e1,λhh=>absurd hh.2.1 (by omega),λ_=>rfl⟩;simp (disch:=first|omega|simp only[zD]<;>omega|assumption) only[↓zR,↓zRM,zR,zRM,reduceAdd,reduceMul,reduceToNat,eq_true f0];exact fin
 by_cases f8:f>=8
 ·have fin:=hk (.tup [.nils,.int .i64 2300]) h1 ⟨e1,λhh=>absurd hh.2.2 (by omega),λ_=>rfl⟩;simp (disch:=first|omega|simp only[zD]<;>omega|assumption) only[↓zR,↓zRM,zR,zRM,reduceAdd,reduceMul,reduceToNat,eq_false f0,eq_true f8];exact fin
 have l512:ns.length<=512:=by
  refine Nat.le_of_not_lt λhlt=>?_
  have:=(hT.2 512 _ (List.getElem?_eq_getElem (by omega))).1
  omega
 have hbld:∀(mm:Nat) (kk:VK β),zW [.nils,.nilm] [(1,1)] [.mp mm] (.mk kk)=kk (.agg [.nils,.mp mm]):=λmm kk=>rfl
 have hbx:∀(mm:Nat) (hh:H) (kk:K β),qBox 0 (.agg [.nils,.mp mm]) hh (.mk kk)=kk (.ptr hh.n 0) (hh.push (.own 0 [.nils,.mp mm])):=λmm hh kk=>zbR 0 _ hh kk
 have hmk:=λ(hh:H) (kk:K β)=>q_Mkmap (β:=β) hh kk
 have hh2:((h1.push (.map [] 0)).push (.own 0 [.nils,.mp h1.n])).n=h1.n+2:=by rw[H.n_push,H.n_push]
 have ob0:ObS (h1.n+2) ((h1.push (.map [] 0)).push (.own 0 [.nils,.mp h1.n])) (h1.n+1) h1.n [] :=
  ⟨.nils,0,h1.n+2,zc (by rw[H.n_push]),by rw[zd (by rw[H.n_push];omega),zc rfl];rfl,by omega,by omega,by omega,Nat.le_refl _,by omega,zL.nil _ _ _ _⟩
 have e2:Ext h1 ((h1.push (.map [] 0)).push (.own 0 [.nils,.mp h1.n])):=((Ext.refl h1).push _).push _;have n2:(h1.push (.map [] 0)).n=h1.n+1:=by rw[H.n_push]
 simp (disch:=first|omega|simp only[zD]<;>omega|assumption) only[↓zR,↓zRM,zR,zRM,reduceAdd,reduceMul,reduceToNat,eq_false f0,eq_false f8,↓f266_J0,↓hmk,↓hbld,↓hbx,lv,n2];generalize (h1.push (.map [] 0)).push (.own 0 [.nils,.mp h1.n])=h2 at hh2 ob0 e2 ⊢;refine zae 15 (m+1) _ _ (λi x0 x1 x2 x3 x4 x5 x6 x7 x8 x9 x10 x11 x12 x13 x14 h'=>x1 = .int .i64 f/\x4 = .ptr (h1.n+1) 0/\x7=v/\x8 = .int .i64 (ns.length:Int)/\(∀i,i<h1.n->h'.get i=h1.get i)/\h1.n+2<=h'.n/\∃q:Nat,x9 = .int .i64 (q:Int)/\q+i=ns.length/\ObS (h1.n+2) h' (h1.n+1) h1.n (obsO f (ns.take q))) ns.length (by omega) ?_ _ _ _ _ _ _ _ _ _ _ _ _ _ _ _ _
  ⟨rfl,rfl,rfl,rfl,λi hi=>e2.get i hi,by omega,0,rfl,by omega,ob0⟩
 intro l i ih x0 x1 x2 x3 x4 x5 x6 x7 x8 x9 x10 x11 x12 x13 x14 h' ⟨p0,p1,p2,p3,low,hn',q,p4,hq,ob⟩;rw[p0,p1,p2,p3,p4];clear p0 p1 p2 p3 p4;have e1':Ext h1 h':=⟨by omega,low⟩
 cases i with
 | zero=>
  have hqe:q=ns.length:=by omega
  subst hqe;rw[List.take_length] at ob;refine Exists.elim ob λrow ob=>Exists.elim ob λck ob=>Exists.elim ob λhi ob=>?_
  have hc:(h'.get (h1.n+1)).cells=some [row,.mp h1.n]:=by rw[ob.1];rfl
  have fin:=hk (.tup [row,.int .i64 0]) h' ⟨e1.trans e1',λ_=>⟨row,rfl,h1.n+2,hi,by have:=e1.n;omega,ob.2.2.2.2.2.2.1,ob.2.2.2.2.2.2.2⟩,λhh=>absurd ⟨hT,by omega,by omega⟩ hh⟩;simp (disch:=first|omega|simp only[zD]<;>omega|assumption) only[↓zR,↓zRM,zR,zRM,reduceAdd,reduceMul,reduceToNat,↓f266_L9,↓f266_J4,nil_q,hc];exact fin
 | succ i=>
  have hql:q<ns.length:=by omega
  refine Exists.elim ⟨ns[q],List.getElem?_eq_getElem hql⟩ λ(x:Nd) (hx:ns[q]?=some x)=>?_
  have hxm:=List.mem_of_getElem? hx;have hmay:=(hT.2 q x hx).2.1;refine Exists.elim ((hv.ext NdC.stays (e1.trans e1')).at (β:=β) hx) λb hat=>Exists.elim hat λo hat=>Exists.elim hat λcs hat=>?_
  refine Exists.elim hat.2.2 λw hw=>?_
  have a1:=hat.1;refine Exists.elim hat.2.1.get λus hg=>?_
  have hbn:=hat.2.1.1;have hld:∀kk:VK β,zM 4 (.ptr b o) h' (.mk kk)=kk (.agg (zu x w)):=λkk=>by
   rw[zeq,hg.1];show (cond (decide (o+4<=us.length)) (kk (.agg ((us.drop o).take 4))) none)=_;rw[decide_eq_true hg.2.1,hg.2.2.1,hw.1];rfl
  have hst:∀kk:H->Option β,zP 4 (.ptr h'.n 0) (.agg (zu x w)) (h'.push (.own 0 [.int .i64 0,.int .i64 0,.nils,.str []])) (.mk kk)=kk ((h'.push (.own 0 [.int .i64 0,.int .i64 0,.nils,.str []])).set h'.n (.own 0 (zu x w))):=λkk=>by
   rw[zg3,zc rfl];rfl
  have e3:Ext h' ((h'.push (.own 0 [.int .i64 0,.int .i64 0,.nils,.str []])).set h'.n (.own 0 (zu x w))):=((Ext.refl h').push _).set (Nat.le_refl _) _;have g3:((h'.push (.own 0 [.int .i64 0,.int .i64 0,.nils,.str []])).set h'.n (.own 0 (zu x w))).get h'.n = .own 0 (zu x w):=zaj rfl;have n3:((h'.push (.own 0 [.int .i64 0,.int .i64 0,.nils,.str []])).set h'.n (.own 0 (zu x w))).n=h'.n+1:=by rw[H.n_set,H.n_push]
  generalize (h'.push (.own 0 [.int .i64 0,.int .i64 0,.nils,.str []])).set h'.n (.own 0 (zu x w))=h3 at e3 g3 n3 hst;have c3:(h3.get h'.n).cells=some [.int .i64 x.fn,.int .i64 x.parent,w,.str x.res]:=by rw[g3];rfl
  have ob3:=ob.ext e3;have succ:=zbb f hx;have next:=λ(h4:H) (low4:∀i,i<h1.n->h4.get i=h1.get i) (n4:h1.n+2<=h4.n) (ob4:ObS (h1.n+2) h4 (h1.n+1) h1.n (zb0 f (obsO f (ns.take q)) x)) (y0 y2 y3 y5 y6 y10 y11 y12 y13 y14:AV)=>ih i (by omega) y0 (.int .i64 f) y2 y3 (.ptr (h1.n+1) 0) y5 y6 v (.int .i64 (ns.length:Int)) (.int .i64 ((q:Int)+1)) y10 y11 y12 y13 y14 h4 ⟨rfl,rfl,rfl,rfl,low4,n4,q+1,by rw[Int.natCast_add];rfl,by omega,by rw[succ];exact ob4⟩
  by_cases hfn:x.fn=f
  ·have W2:=TB.w258 (β:=β) T L (m+1) (by omega) (h:=h3) (a:=.agg (zu x w)) ⟨w,rfl,hw.2.ext e3⟩ (by have:=(hf x hxm).2.2;omega);unfold zu at *;simp (disch:=first|omega|simp only[zD]<;>omega|assumption) only[↓zR,↓zRM,zR,zRM,reduceAdd,reduceMul,reduceToNat,↓f266_L9,↓f266_J11,↓a1,↓hld,↓hst,eq_true (show (q:Int)<(ns.length:Int) by omega),c3,eq_true hfn];refine W2 _ _ ?_;intro u4 h4 ⟨e4,eu4⟩;rw[if_pos hmay] at eu4;subst eu4;simp (disch:=first|omega|simp only[zD]<;>omega|assumption) only[↓zR,↓zRM,zR,zRM,reduceAdd,reduceMul,reduceToNat];refine TO.w274 m (ob3.ext e4) (zT x) (by have:=zew f ns q (by omega);omega) _ _ ?_;intro h5 ob5 n5 low5;have en4:=e4.n;simp (disch:=first|omega|simp only[zD]<;>omega|assumption) only[↓zR,↓zRM,zR,zRM,reduceAdd,reduceMul,reduceToNat,↓f266_J12];refine next h5 (λi hi=>by rw[low5 i (by omega) (by omega) (by omega),e4.get i (by omega),e3.get i (by omega),low i hi]) (by omega) ?_ _ _ _ _ _ _ _ _ _ _;unfold zb0;rw[if_pos hfn];exact ob5
  ·unfold zu at *;simp (disch:=first|omega|simp only[zD]<;>omega|assumption) only[↓zR,↓zRM,zR,zRM,reduceAdd,reduceMul,reduceToNat,↓f266_L9,↓f266_J11,↓a1,↓hld,↓hst,eq_true (show (q:Int)<(ns.length:Int) by omega),c3,eq_false hfn,↓f266_J12];refine next h3 (λi hi=>by rw[e3.get i (by omega),low i hi]) (by omega) ?_ _ _ _ _ _ _ _ _ _ _;unfold zb0;rw[if_neg hfn];exact ob3
end
end Am.F
