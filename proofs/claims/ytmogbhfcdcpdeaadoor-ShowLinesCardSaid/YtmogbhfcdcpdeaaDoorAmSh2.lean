/- Lines of a program's text;walk: ShowLines. -/
import Derived.Test.YtmogbhfcdcpdeaaDoorAmSh1
import Derived.Test.YtmogbhfcdcpdeaaDoorAmB8
import Derived.Test.YtmogbhfcdcpdeaaDoorAmJh
import Derived.Test.YtmogbhfcdcpdeaaDoorAmGL8W
import Derived.Test.YtmogbhfcdcpdeaaDoorAmJf
import Derived.Test.YtmogbhfcdcpdeaaDoorAmJg
open Nat (reduceAdd reduceMul)
open Int (reduceToNat)
set_option linter.unusedSimpArgs false
set_option linter.unusedVariables false
namespace Am.F
open Go Am
def NoT(s:List UInt8):Prop:=∀b ∈ s,b≠10
theorem za5(x:Int):NoT (Lib.itoa x):=by
 have key:∀u,NoT (Lib.decDigits u):=λu b hb=>isD_ne (zep u b hb) 10 (by unfold isD;decide)
 intro b hb;unfold Lib.itoa at hb;split at hb
 ·rcases List.mem_cons.1 hb with rfl|hb
  ·decide
  ·exact key _ b hb
 ·exact key _ b hb
theorem NoT.app{a b:List UInt8}(ha:NoT a)(hb:NoT b):NoT (a++b):=λx hx=>by
 rcases List.mem_append.1 hx with h|h
 ·exact ha x h
 ·exact hb x h
theorem NoT.cons{a:UInt8}{b:List UInt8}(ha:a≠10)(hb:NoT b):NoT (a::b):=λx hx=>by
 rcases List.mem_cons.1 hx with rfl|h
 ·exact ha
 ·exact hb x h
theorem NoT.nil:NoT []:=λx hx=>by simp at hx
theorem zgg:∀ws:List (List UInt8),(∀w ∈ ws,NoT w)->NoT (Lib.joinTail [32] ws)
 | [],_=>by simpa [Lib.joinTail] using NoT.nil
 | w::ws,h=>by
  have h3:Lib.joinTail [32] (w::ws)=[32]++w++Lib.joinTail [32] ws:=by simp[Lib.joinTail]
  rw[h3];exact (NoT.cons (by decide) (h w List.mem_cons_self)).app (zgg ws λx hx=>h x (List.mem_cons_of_mem _ hx))
theorem noT_join(ws:List (List UInt8))(h:∀w ∈ ws,NoT w):NoT (Lib.join ws [32]):=by
 cases ws with
 | nil=>simpa [Lib.join] using NoT.nil
 | cons w ws=>
  rw[Lib.join_cons];exact (h w List.mem_cons_self).app (zgg ws λx hx=>h x (List.mem_cons_of_mem _ hx))
theorem noT_head(e:Ex):NoT (zam e):=by
 unfold zam;split
 ·exact NoT.cons (by decide) (za5 _)
 ·split
  ·exact NoT.cons (by decide) (za5 _)
  ·split
   ·rcases e.num.toNat with _|_|_|_|_|q
    all_goals first|exact NoT.cons (by decide) NoT.nil|(simpa [zgL] using NoT.nil)
   ·split
    ·exact NoT.cons (by decide) (NoT.cons (by decide) (NoT.cons (by decide) NoT.nil))
    ·exact NoT.cons (by decide) (NoT.cons (by decide) (NoT.cons (by decide) (NoT.cons (by decide) NoT.nil)))
theorem zeW(e:Ex):∀(ts:List (List UInt8)) (k:Nat),(∀t ∈ ts,NoT t)->∀w ∈ zq e k ts,NoT w
 | [],_,_,w,hw=>by simp[zq] at hw
 | t::ts,k,h,w,hw=>by
  rcases List.mem_append.1 (show w ∈ kidW e k t++zq e (k+1) ts from hw) with h1|h1
  ·unfold kidW at h1;split at h1
   ·rcases List.mem_cons.1 h1 with rfl|h1
    ·exact NoT.cons (by decide) (za5 _)
    ·rcases List.mem_cons.1 h1 with rfl|h1
     ·exact za5 _
     ·rw[List.mem_singleton] at h1;rw[h1];exact h t List.mem_cons_self
   ·rw[List.mem_singleton] at h1;rw[h1];exact h t List.mem_cons_self
  ·exact zeW e ts (k+1) (λx hx=>h x (List.mem_cons_of_mem _ hx)) w h1
theorem zeX:∀(N:Nat) (body:List Ex) (i:Nat),NoT (zc8 N body i)
 | 0,_,_=>NoT.nil
 | N+1,body,i=>by
  show NoT (match body[i]? with|none=>[]|some e=>zaZ e (e.kids.map λ(k:Int)=>zc8 N body k.toNat));cases body[i]? with
  | none=>exact NoT.nil
  | some e=>
   show NoT (zaZ e _);have hts:∀t ∈ e.kids.map (λ(k:Int)=>zc8 N body k.toNat),NoT t:=λt ht=>by
    obtain⟨k,_,rfl⟩:=List.mem_map.1 ht;exact zeX N body k.toNat
   unfold zaZ;split
   ·exact za5 _
   ·split
    ·exact NoT.cons (by decide) (za5 _)
    ·split
     ·exact NoT.cons (by decide) (NoT.cons (by decide) (NoT.cons (by decide) (NoT.cons (by decide) (NoT.cons (by decide) NoT.nil))))
     ·split
      ·exact NoT.cons (by decide) (za5 _)
      ·refine NoT.cons (by decide) ((noT_join _ λw hw=>?_).app (NoT.cons (by decide) NoT.nil));rcases List.mem_cons.1 hw with rfl|hw
       ·exact noT_head e
       ·exact zeW e _ 0 hts w hw
def za1(d:Df):List UInt8:=[40,100,101,102,32]++Lib.itoa d.params++[32]++zW d.body (d.body.length-1)++[41]
theorem zcY(d:Df):zcV d=za1 d++[10]:=by unfold zcV za1;simp
theorem zhX(d:Df):NoT (za1 d):=by
 unfold za1;exact (((NoT.app (NoT.cons (by decide) (NoT.cons (by decide) (NoT.cons (by decide) (NoT.cons (by decide) (NoT.cons (by decide) NoT.nil))))) (za5 _)).app (NoT.cons (by decide) NoT.nil)).app (zeX _ _ _)).app (NoT.cons (by decide) NoT.nil)
theorem zg6{x:Int}(h:0<=x/\x<=3):(Lib.itoa x).length=1:=by
 unfold Lib.itoa;rw[if_neg (by omega)];have h1:=zaM 0 x.toNat (by omega);have h2:=zfh x.toNat;have h3:(Lib.decDigits x.toNat).length≠0:=λhh=>h2 (List.eq_nil_of_length_eq_zero hh)
 omega
theorem lineB_ok{d:Df}(h:0<=d.params/\d.params<=3):8<=(za1 d).length/\((za1 d).take 5).drop 0=[40,100,101,102,32]/\((za1 d).take 6).drop 5=Lib.itoa d.params/\(za1 d).getD ((za1 d).length-1) 0=41:=by
 have h1:=zg6 h;obtain⟨c,hc⟩:∃c,Lib.itoa d.params=[c]:=List.length_eq_one_iff.1 h1;unfold za1;rw[hc];refine⟨by simp,by simp,by simp,?_⟩;rw[List.length_append,List.getD_eq_getElem?_getD,List.getElem?_append_right (by simp)];simp
theorem zin(a b:List UInt8)(i:Nat)(h:a.length<=i):bt (a++b) i=bt b (i-a.length):=by
 unfold bt;rw[List.getD_eq_getElem?_getD,List.getElem?_append_right h,<- List.getD_eq_getElem?_getD]
theorem bt_pre(a b:List UInt8)(i:Nat)(h:i<a.length):bt (a++b) i=bt a i:=by
 unfold bt;rw[List.getD_eq_getElem?_getD,List.getElem?_append_left h,<- List.getD_eq_getElem?_getD]
theorem zhj(a b:List UInt8)(i j:Nat)(h:i<=j):((a++b).take (a.length+j)).drop (a.length+i)=(b.take j).drop i:=by
 rw[List.take_length_add_append,<- List.drop_drop,List.drop_left]
theorem zhi(b c:List UInt8)(i j:Nat)(h:j<=b.length):((b++c).take j).drop i=(b.take j).drop i:=by
 rw[List.take_append_of_le_length h]
section
variable {β:Type} {t:ETree}
set_option maxHeartbeats 1000000 in
theorem GL8.w303(TL:GL8 t)(TS:GS8 t)(TB:GB8 t)(TC:GC t)(T:GA t)(L:GI t)(hsp:t.get 277=some e277)(hA:t.get 252=some (eAw 252))(n:Nat)(hn:2200<=n){h:H}{pv:AV}{p:List Df}(hp:LAt 2 DfC h pv p)(hl:p.length<=9223372036854775807)(hl2:∀d ∈ p,d.body.length<=9223372036854775807) :
  Sp (β:=β) (zc t stdI n (.fn 303 []) [.agg [pv]] h) λu h'=>u = .bool true:=by
 intro k R hk;obtain⟨m,rfl⟩:∃m,n=m+2:=⟨n-2,by omega⟩
 have hbx:∀(hh:H) (kk:K β),qBox 0 (.agg [pv]) hh (.mk kk)=kk (.ptr hh.n 0) (hh.push (.own 0 [pv])):=λhh kk=>zr 0 _ hh kk
 have haw:=λ(hh:H) (kk:K β)=>awk_q (β:=β) (k:=252) rfl hA m hh kk
 have e0:Ext h (h.push (.own 0 [pv])):=(Ext.refl h).push _;have n0:(h.push (.own 0 [pv])).n=h.n+1:=H.n_push _ _;have g0:((h.push (.own 0 [pv])).get h.n).cells=some [pv]:=by rw[zg rfl];rfl
 generalize hh0:h.push (.own 0 [pv])=h0 at e0 n0 g0;have W:=TS.w254 (β:=β) TC T L hsp (m+1) (by omega) (hp.ext DfC.stays e0) hl hl2
 by_cases hc:zT p=true/\(zQ p).length<=2048
 case neg=>
  have ht:zfs p=([],800):=if_neg hc;rw[ht] at W;rw[TL.c303];unfold f303;simp (disch:=first|omega|simp only[zD]<;>omega|assumption) only[↓zR,↓zRM,zR,zRM,reduceAdd,reduceMul,reduceToNat,↓hbx,haw,↓f303_J1,hh0,g0];refine W _ _ ?_;intro u h1 ⟨e1,eu⟩;subst eu;simp (disch:=first|omega|simp only[zD]<;>omega|assumption) only[↓zR,↓zRM,zR,zRM,reduceAdd,reduceMul,reduceToNat,T.w16];exact hk _ _ rfl
 have ht:zfs p=(zQ p,0):=if_pos hc;obtain⟨hm,hlen⟩:=hc;obtain⟨hpl,_,hall⟩:=zbG hm;rw[ht] at W;obtain⟨s,hs⟩:∃s,s=zQ p:=⟨_,rfl⟩
 rw[<- hs] at W hlen;rw[TL.c303];unfold f303;simp (disch:=first|omega|simp only[zD]<;>omega|assumption) only[↓zR,↓zRM,zR,zRM,reduceAdd,reduceMul,reduceToNat,↓hbx,haw,↓f303_J1,hh0,g0];refine W _ _ ?_;intro u h1 ⟨e1,eu⟩;subst eu;have g1:(h1.get h.n).cells=some [pv]:=by rw[e1.get _ (by omega)];exact g0
 have e01:=e0.trans e1;have lp:=hp.len (β:=β);simp (disch:=first|omega|simp only[zD]<;>omega|assumption) only[↓zR,↓zRM,zR,zRM,reduceAdd,reduceMul,reduceToNat,T.w16,↓f303_J6];refine z6 12 (m+1) _ _ (λr x0 x1 x2 x3 x4 x5 x6 x7 x8 x9 x10 x11 h'=>x1 = .ptr h.n 0/\x3 = .str s/\Ext h1 h'/\∃k i:Nat,x5 = .int .i64 (k:Int)/\x6 = .int .i64 ((zQ (p.take k)).length:Int)/\x7 = .int .i64 (i:Int)/\i+r=s.length/\k<=p.length/\(zQ (p.take k)).length<=i /\
   ∀d,p[k]?=some d->i<(zQ (p.take k)).length+(zcV d).length) s.length (by omega) ?_ _ _ _ _ _ _ _ _ _ _ _ _ _
  ⟨rfl,rfl,Ext.refl _,0,0,rfl,rfl,rfl,by omega,by omega,by simp[zQ],λd hd=>by rw[zcY];simp[zQ]⟩
 intro l r ih x0 x1 x2 x3 x4 x5 x6 x7 x8 x9 x10 x11 h' ⟨p0,p1,e2,k,i,p2,p3,p4,hi,hkp,hat,hin⟩;rw[p0,p1,p2,p3,p4];clear p0 p1 p2 p3 p4;have g2:(h'.get h.n).cells=some [pv]:=by
  have:=e1.n
  rw[e2.get _ (by omega)];exact g1
 have hp2:=hp.ext DfC.stays (e01.trans e2);cases r with
 | zero=>
  have his:i=s.length:=by omega
  have hkl:k=p.length:=by
   rcases Nat.lt_or_ge k p.length with hlt|hge
   ·exfalso
    obtain⟨d,hd⟩:∃d,p[k]?=some d:=⟨_,List.getElem?_eq_getElem hlt⟩
    have h1:=hin d hd;have hdec:p=p.take k++d::p.drop (k+1):=by
     have:=List.getElem?_eq_some_iff.1 hd
     obtain⟨hlt',he⟩:=this;rw[<- he,List.getElem_cons_drop,List.take_append_drop]
    have hsl:s.length=(zQ (p.take k)).length+((zcV d).length+(zQ (p.drop (k+1))).length):=by
     rw[hs,show zQ p=zQ (p.take k++d::p.drop (k+1)) from congrArg zQ hdec];simp[zQ]
    omega
   ·omega
  have hal:(zQ (p.take k)).length=s.length:=by rw[hkl,List.take_length,hs]
  have c1:(k:Int)=(p.length:Int):=by omega
  have c2:((zQ (p.take k)).length:Int)=(s.length:Int):=by omega
  have c3:¬ (i:Int)<(s.length:Int):=by omega
  simp (disch:=first|omega|simp only[zD]<;>omega|assumption) only[↓zR,↓zRM,zR,zRM,reduceAdd,reduceMul,reduceToNat,↓f303_L26,↓f303_J7,g2,lp,eq_false c3,eq_true c1,eq_true c2];refine TC.w149 T (m+1) (by omega) ⟨pv,rfl,hp2⟩ hl hl2 _ _ ?_;intro u h3 ⟨e3,eu⟩;subst eu;simp (disch:=first|omega|simp only[zD]<;>omega|assumption) only[↓zR,↓zRM,zR,zRM,reduceAdd,reduceMul,reduceToNat,hm];refine TB.w253 (m+1) (by omega) h3 _ _ ?_;intro u h4 ⟨e4,c,eu⟩;subst eu;have h255:∀(hh:H) (kk:K β),qCall (zc t stdI (m+1)) (.fn 255 []) [] hh (.mk kk)=kk (.str [40,100,101,102,32,48,32,40,102,49,32,40,64,55,32,101,114,114,111,114,32,52,41,32,53,41,41,10,40,100,101,102,32,50,32,40,99,97,115,101,32,36,48,32,64,55,32,50,32,40,43,32,36,51,32,36,49,41,32,40,43,32,36,48,32,36,49,41,41,41,10]) hh:=λhh kk=>by
   rw[TB.q255 (I:=stdI) m [] hh kk];rfl
  simp (disch:=first|omega|simp only[zD]<;>omega|assumption) only[↓zR,↓zRM,zR,zRM,reduceAdd,reduceMul,reduceToNat,h255];exact hk _ _ (by simp)
 | succ r=>
  have hisl:i<s.length:=by omega
  have hkl:k<p.length:=by
   rcases Nat.lt_or_ge k p.length with hlt|hge
   ·exact hlt
   ·exfalso
    have:k=p.length:=by omega
    rw[this,List.take_length,<- hs] at hat;omega
  obtain⟨d,hd⟩:∃d,p[k]?=some d:=⟨_,List.getElem?_eq_getElem hkl⟩
  have hin':=hin d hd;have hmem:=List.mem_of_getElem? hd;have hdm:=(hall d hmem).1;have hpar:=zbz hdm;have htk:p.take (k+1)=p.take k++[d]:=by rw[List.take_add_one,hd];rfl
  have hgo:zQ (p.take (k+1))=zQ (p.take k)++zcV d:=by rw[htk];simp[zQ]
  have hdec:p=p.take k++d::p.drop (k+1):=by
   obtain⟨hlt',he⟩:=List.getElem?_eq_some_iff.1 hd;rw[<- he,List.getElem_cons_drop,List.take_append_drop]
  obtain⟨a,ha⟩:∃a,a=zQ (p.take k):=⟨_,rfl⟩
  obtain⟨z,hz⟩:∃z,z=zQ (p.drop (k+1)):=⟨_,rfl⟩
  have hss:s=a++(za1 d++([10]++z)):=by
   rw[hs,show zQ p=zQ (p.take k++d::p.drop (k+1)) from congrArg zQ hdec,ha,hz];simp[zQ,zcY]
  have hll:(zcV d).length=(za1 d).length+1:=by rw[zcY,List.length_append];rfl
  rw[<- ha] at hat hin' hgo ⊢;rw[hll] at hin';have c3:(i:Int)<(s.length:Int):=by omega
  have hbt:bt s i=bt (za1 d++([10]++z)) (i-a.length):=by rw[hss];exact zin a _ i hat
  by_cases hq:i-a.length<(za1 d).length
  ·have hne:¬ ((bt s i:Nat):Int)=10:=by
    have h1:bt s i=((za1 d).getD (i-a.length) 0).toNat:=by rw[hbt,bt_pre _ _ _ hq];rfl
    have h2:(za1 d).getD (i-a.length) 0≠10:=by
     rw[List.getD_eq_getElem?_getD,List.getElem?_eq_getElem hq];exact zhX d _ (List.getElem_mem hq)
    intro hh;apply h2;apply UInt8.toNat_inj.1;rw[<- h1];have:bt s i=10:=by omega
    rw[this];rfl
   simp (disch:=first|omega|simp only[zD]<;>omega|assumption) only[↓zR,↓zRM,zR,zRM,reduceAdd,reduceMul,reduceToNat,↓f303_L26,↓f303_J27,↓f303_J28,eq_true c3,eq_false hne];exact ih r (by omega) _ _ _ _ _ _ _ _ _ _ _ _ _ ⟨rfl,rfl,e2,k,i+1,rfl,by rw[ha],rfl,by omega,hkp,by rw[<- ha];omega,λd' hd'=>by
    rw[hd] at hd';cases hd';rw[<- ha,hll];omega⟩
  ·have hqe:i=a.length+(za1 d).length:=by omega
   have hten:((bt s i:Nat):Int)=10:=by
    rw[hbt,zin _ _ _ (by omega),show i-a.length-(za1 d).length=0 by omega];rfl
   obtain⟨o1,o2,o3,o4⟩:=lineB_ok hpar;have hsl:s.length=a.length+((za1 d).length+(1+z.length)):=by rw[hss];simp[Nat.add_comm]
   have ck:¬ (p.length:Int)<=(k:Int):=by omega
   have c8:¬ (i:Int)-(a.length:Int)<8:=by omega
   have w5:(s.take ((a.length:Int)+5).toNat).drop ((a.length:Int)).toNat=[40,100,101,102,32]:=by
    rw[show ((a.length:Int)+5).toNat=a.length+5 by omega,show ((a.length:Int)).toNat=a.length+0 by omega,hss,zhj _ _ _ _ (by omega),zhi _ _ _ _ (by omega),o2]
   have w5b:(s.take ((a.length:Int)+5).toNat).drop a.length=[40,100,101,102,32]:=by rw[<- w5,Int.toNat_natCast]
   have w6:(s.take ((a.length:Int)+6).toNat).drop ((a.length:Int)+5).toNat=Lib.itoa d.params:=by
    rw[show ((a.length:Int)+6).toNat=a.length+6 by omega,show ((a.length:Int)+5).toNat=a.length+5 by omega,hss,zhj _ _ _ _ (by omega),zhi _ _ _ _ (by omega),o3]
   have w1:((bt s ((i:Int)-1).toNat:Nat):Int)=41:=by
    rw[show ((i:Int)-1).toNat=a.length+((za1 d).length-1) by omega,hss,zin _ _ _ (by omega),show a.length+((za1 d).length-1)-a.length=(za1 d).length-1 by omega,bt_pre _ _ _ (by omega)];unfold bt;rw[o4];rfl
   obtain⟨b,o,cs,a1,a2,w,rfl,a3⟩:=hp2.at (β:=β) hd;obtain⟨us,b1,b2,b3,b4⟩:=a2.get;have b5:=b4 0 _ rfl;rw[Nat.add_zero] at b5;simp (disch:=first|omega|simp only[zD]<;>omega|assumption) only[↓zR,↓zRM,zR,zRM,reduceAdd,reduceMul,reduceToNat,↓f303_L26,↓f303_J27,↓f303_J30,eq_true c3,eq_true hten,g2,lp,eq_false ck,eq_false c8,w5,w5b,a1,b1,b5,sls.2.2];refine T.w22 (m+1) (by omega) d.params (by omega) (by omega) _ _ _ ?_;intro u h3 ⟨e3,eu⟩;subst eu;simp (disch:=first|omega|simp only[zD]<;>omega|assumption) only[↓zR,↓zRM,zR,zRM,reduceAdd,reduceMul,reduceToNat,w5,w5b,w6,w1,↓f303_J31,↓f303_J28];refine ih r (by omega) _ _ _ _ _ _ _ _ _ _ _ _ _ ⟨rfl,rfl,e2.trans e3,k+1,i+1,rfl,?_,rfl,by omega,by omega,by rw[hgo,List.length_append,hll];omega,λd' hd'=>by rw[hgo,List.length_append,hll,zcY,List.length_append];simp;omega⟩;rw[hgo,List.length_append,hll];congr 1;omega
end
end Am.F
