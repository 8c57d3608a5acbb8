/- Walks: show.text,show.Text. -/
import Derived.Test.YtmogbhfcdcpdeaaDoorAmShD
import Derived.Test.YtmogbhfcdcpdeaaDoorAmGS8W
import Derived.Test.YtmogbhfcdcpdeaaDoorAmJh
open Nat (reduceAdd reduceMul)
open Int (reduceToNat)
set_option linter.unusedSimpArgs false
set_option linter.unusedVariables false
namespace Am.F
open Go Am
section
variable {β:Type} {t:ETree}
theorem zcC(b o:Nat)(k:VK β):qNil (.ptr b o) (.mk k)=k (.ptr b o):=(zaq b o k).trans (Eq.refl _)
theorem chk_s(kd:IntKind)(n:Int)(k:VK β):zeN (.int kd n) (.int kd n) (.mk k)=k (.int kd n):=by
 show cond (AV.beq (.int kd n) (.int kd n)) (k _) none=_;have:AV.beq (.int kd n) (.int kd n)=true:=by simp[AV.beq]
 rw[this];rfl
theorem chkL{α:Type}{es:Nat}{C:H->List AV->α->Prop}{h:H}{v:AV}{xs:List α}(hs:LAt es C h v xs)(k:VK β):zeN v v (.mk k)=k v:=by
 show cond (AV.beq v v) (k v) none=_;have:AV.beq v v=true:=by rcases hs with⟨rfl,_⟩|⟨b,o,m,g,us,rfl,_⟩<;>simp[AV.beq]
 rw[this];rfl
theorem zcX.ext{h h':H}{lo:Nat}{v:AV}{cs:List AV}(hs:zcX h lo v cs)(e:Ext h h'):zcX h' lo v cs:=by
 obtain⟨b,h1,h2,h3,h4⟩:=hs;exact⟨b,h1,Nat.lt_of_lt_of_le h2 e.n,by rw[e.get b h2];exact h3,h4⟩
theorem zcX.sc{h:H}{lo:Nat}{v:AV}{cs:List AV}(hs:zcX h lo v cs):v.sc=true:=by
 obtain⟨b,h1,h2,h3,rfl|⟨rfl,_⟩⟩:=hs<;>rfl
def kidT(body:List Ex)(e:Ex):List (List UInt8):=e.kids.map λ(k:Int)=>zW body k.toNat
theorem zcq(body:List Ex)(e:Ex):(kidT body e).length=e.kids.length:=List.length_map ..
theorem GS8.j5(TS:GS8 t)(L:GI t){body:List Ex}(hb:zdD body)(hbl:body.length<=24){i m:Nat}{e:Ex}(he:body[i]?=some e)(hm:i+11<=m)
  (IH:∀(j:Nat) (h:H) (bv:AV),j<i->LAt 4 ExC h bv body->Sp (β:=β) (zc t stdI m (.fn 268 []) [bv,.int .i64 (j:Int)] h) λu h'=>Ext h h'/\u = .str (zW body j))
  {h h1:H} {bv:AV} (hv:LAt 4 ExC h bv body) {b o:Nat} {w:AV} (hx:ExIn h b o w e) (e1:Ext h h1) {v5:AV} (h5:zcX h1 h.n v5 (strs [zam e])) (k:K β) (R:Option β)
  (hk:∀h',Ext h h'->k (.str (40::(Lib.join (zam e::zq e 0 (kidT body e)) [32]++[41]))) h'=R) {x1 x2 x6 x7 x8 x9 x10 x11 x12 x13 x14:AV} :
  f268_J5 m (zc t stdI m) k bv x1 x2 (.ptr b o) (.str (Lib.itoa e.num)) v5 x6 x7 x8 x9 x10 x11 x12 x13 x14 h1=R:=by
 have hroom:room=68719476736:=rfl;obtain⟨⟨l0,hl0,hp⟩,hkid⟩:=hb i e he;obtain⟨hnum,hbind,hk3⟩:=hp.num hl0;have hi24:=(List.getElem?_eq_some_iff.1 he).1;have hkt:∀x ∈ kidT body e,x.length<=11297181459240:=λx hx=>by
  obtain⟨k,hkm,rfl⟩:=List.mem_map.1 hx;obtain⟨q,hq⟩:=List.mem_iff_getElem?.1 hkm;have:=hkid q k hq
  exact zb3 hb (by omega)
 obtain⟨z1,z2,z3⟩:=zeB hp hl0 hkt (by rw[zcq];exact hk3);have hil:=zaL (x:=e.num) (by omega) (by omega);have hib:=zaL (x:=e.bind) (by omega) (by omega);have hx1:=hx.ext e1;obtain⟨us,q1,q2,q3,q4,q5,q6,q7,q8⟩:=hx1.get β;unfold f268_J5;simp (disch:=first|omega|simp only[zD]<;>omega|assumption) only[↓zR,↓zRM,zR,zRM,reduceAdd,reduceMul,reduceToNat,zcC,q1,q7,q8];refine z6 15 m _ _ (λr x0 x1 x2 x3 x4 x5 x6 x7 x8 x9 x10 x11 x12 x13 x14 h'=>x0=bv/\x3 = .ptr b o/\x4 = .str (Lib.itoa e.num)/\x9=w/\x10 = .int .i64 (e.kids.length:Int)/\Ext h h'/\∃j:Nat,x11 = .int .i64 (j:Int)/\j+r=e.kids.length/\zcX h' h.n x5 (strs (zam e::zq e 0 ((kidT body e).take j)))) e.kids.length (by omega) ?_ _ _ _ _ _ _ _ _ _ _ _ _ _ _ _ _
  ⟨rfl,rfl,rfl,rfl,rfl,e1,0,rfl,by omega,h5⟩
 intro l r ih x0 x1 x2 x3 x4 x5 x6 x7 x8 x9 x10 x11 x12 x13 x14 h' ⟨p0,p1,p2,p3,p4,e2,j,p5,hj,hn⟩;rw[p0,p1,p2,p3,p4,p5];clear p0 p1 p2 p3 p4 p5;cases r with
 | zero=>
  have hjl:j=(kidT body e).length:=by rw[zcq];omega
  have hjk:j=e.kids.length:=by omega
  rw[hjl,List.take_length] at hn;subst hjk;have hw42:=λkk:K β=>L.w42 (m-1) hn.sl [32] (by omega) (by omega) kk
  rw[show m-1+1=m by omega] at hw42;simp (disch:=first|omega|simp only[zD]<;>omega|assumption) only[↓zR,↓zRM,zR,zRM,reduceAdd,reduceMul,reduceToNat,↓f268_L14,↓f268_J6,hw42];exact hk _ e2
 | succ r=>
  have hjl:j<e.kids.length:=by omega
  have cj:(j:Int)<(e.kids.length:Int):=by omega
  obtain⟨kid,hkq⟩:∃kid,e.kids[j]?=some kid:=⟨_,List.getElem?_eq_getElem hjl⟩
  have hkr:=hkid j kid hkq;have htk:(kidT body e).take (j+1)=(kidT body e).take j++[zW body kid.toNat]:=by
   rw[List.take_add_one];unfold kidT;rw[List.getElem?_map,hkq];rfl
  have hkl:((kidT body e).take j).length=j:=by rw[List.length_take,zcq];omega
  have hgo:zq e 0 ((kidT body e).take (j+1))=zq e 0 ((kidT body e).take j)++kidW e j (zW body kid.toNat):=by rw[htk,zcI,hkl,Nat.zero_add]
  have hlen:(strs (zam e::zq e 0 ((kidT body e).take j))).length<=6:=by
   rw[zaJ,List.length_cons];have hi:=(zcz (e:=e) (zaL (by omega) (by omega)) (zaL (by omega) (by omega)) ((kidT body e).take j) 0 (m:=11297181459240) λx hx=>hkt x (List.mem_of_mem_take hx)).2;simp only[Nat.zero_le,if_true] at hi;omega
  have hx2:=hx.ext e2;obtain⟨us2,g1,g2,g3,g4,g5,g6,g7,g8⟩:=hx2.get β;have hld:=λkk:VK β=>(hx2.2).load (kd:=.i64) (i:=(j:Int)) (by omega) (by rw[zu];omega) kk
  have hgd:(ints e.kids).getD ((j:Int)).toNat (.tup []) = .int .i64 kid:=by rw[Int.toNat_natCast,zdm hjl,List.getD_eq_getElem?_getD,hkq];rfl
  have hge:(ints e.kids).getD j (.tup []) = .int .i64 kid:=by rw[Int.toNat_natCast] at hgd;exact hgd
  have tail:∀(cs:List (List UInt8)) (v:AV) (h2:H),Ext h h2->zcX h2 h.n v (strs cs)->cs.length<=8->cs++[zW body kid.toNat]=zam e::zq e 0 ((kidT body e).take (j+1))->∀x1 x2 x6 x8 x12 x13 x14:AV,
    f268_J21 (zc t stdI m) (f268_J17 l) bv x1 x2 (.ptr b o) (.str (Lib.itoa e.num)) v x6 (.int .i64 kid) x8 w (.int .i64 (e.kids.length:Int)) (.int .i64 (j:Int)) x12 x13 x14 h2=R:=by
   intro cs v h2 e3 hn2 hcl hcs x1 x2 x6 x8 x12 x13 x14;unfold f268_J21;have hkn:(kid.toNat:Int)=kid:=by omega
   have IHk:=IH kid.toNat h2 bv (by omega) (hv.ext ExC.stays e3);rw[hkn] at IHk;refine IHk _ _ ?_;intro u h3 ⟨e4,eu⟩;subst eu;simp (disch:=first|omega|simp only[zD]<;>omega|assumption) only[↓zR,↓zRM,zR,zRM,reduceAdd,reduceMul,reduceToNat];have e5:Ext h3 (h3.push (.own 0 [.str (zW body kid.toNat)])):=(Ext.refl h3).push _;have hpn:(h3.push (.own 0 [.str (zW body kid.toNat)])).n=h3.n+1:=H.n_push _ _;have hsx:SlAt (h3.push (.own 0 [.str (zW body kid.toNat)])) (.sl h3.n 0 1 1 none) (strs [zW body kid.toNat]):=.inr ⟨h3.n,0,1,none,_,rfl,by omega,by rw[zg rfl];rfl,rfl,by simp[strs]⟩;have nn:=e3.n;have n4:=e4.n;refine zgy ((hn2.ext e4).ext e5) (by omega) hsx ⟨by rw[zaJ,zaJ];simp only[List.length_cons,List.length_nil];omega,by omega⟩ ?_;intro v2 h4 i1 i2 i3;unfold f268_J17;simp (disch:=first|omega|simp only[zD]<;>omega|assumption) only[↓zR,↓zRM,zR,zRM,reduceAdd,reduceMul,reduceToNat];refine ih r (by omega) _ _ _ _ _ _ _ _ _ _ _ _ _ _ _ _ ⟨rfl,rfl,rfl,rfl,rfl,⟨by omega,λq hq=>by rw[i3 q hq];exact (e3.trans (e4.trans e5)).get q hq⟩,j+1,rfl,by omega,?_⟩;rw[<- hcs];have:strs cs++strs [zW body kid.toNat]=strs (cs++[zW body kid.toNat]):=by simp[strs]
   rw[<- this];exact i1
  by_cases c5:e.kind=5
  ·by_cases cj1:j=1
   ·subst cj1;have hw29:=λ(hh:H) (kk:K β)=>L.w29 (m-1) e.bind (by omega) (by omega) hh kk
    rw[show m-1+1=m by omega] at hw29;have hbs:∀(x y:List UInt8) (hh:H) (kk:K β),zDq9 0 [.str [],.str []] 2 [(0,1),(1,1)] [.str x,.str y] hh (.mk kk)=kk (.sl hh.n 0 2 2 none) (hh.push (.own 0 [.str x,.str y])):=λx y hh kk=>fBslice_n (λ_=>rfl) hh kk
    simp (disch:=first|omega|simp only[zD]<;>omega|assumption) only[↓zR,↓zRM,zR,zRM,reduceAdd,reduceMul,reduceToNat,↓f268_L14,↓f268_J16,zcC,hld,hgd,hge,g1,g4,g6,eq_true c5,hw29,↓hbs];have e5:Ext h' (h'.push (.own 0 [.str ([64]++Lib.itoa e.num),.str (Lib.itoa e.bind)])):=(Ext.refl h').push _;have hpn:(h'.push (.own 0 [.str ([64]++Lib.itoa e.num),.str (Lib.itoa e.bind)])).n=h'.n+1:=H.n_push _ _;have hsx:SlAt (h'.push (.own 0 [.str ([64]++Lib.itoa e.num),.str (Lib.itoa e.bind)])) (.sl h'.n 0 2 2 none) (strs [[64]++Lib.itoa e.num,Lib.itoa e.bind]):=.inr ⟨h'.n,0,2,none,_,rfl,by omega,by rw[zg rfl];rfl,rfl,by simp[strs]⟩;have nn:=e2.n;refine zgy (bytes:=16) (hn.ext e5) (by omega) hsx ⟨by rw[show (strs [[64]++Lib.itoa e.num,Lib.itoa e.bind]).length=2 from rfl];omega,by omega⟩ ?_;intro v2 h4 i1 i2 i3;rw[hgd];refine tail (zam e::zq e 0 ((kidT body e).take 1)++[64::Lib.itoa e.num,Lib.itoa e.bind]) v2 h4 ⟨by omega,λq hq=>by rw[i3 q hq];exact (e2.trans e5).get q hq⟩ ?_ ?_ ?_ _ _ _ _ _ _ _
    ·have:strs (zam e::zq e 0 ((kidT body e).take 1))++strs [[64]++Lib.itoa e.num,Lib.itoa e.bind]=strs (zam e::zq e 0 ((kidT body e).take 1)++[64::Lib.itoa e.num,Lib.itoa e.bind]):=by simp[strs]
     rw[<- this];exact i1
    ·rw[zaJ] at hlen;rw[List.length_append];simp only[List.length_cons,List.length_nil] at hlen ⊢;omega
    ·rw[hgo];unfold kidW;rw[if_pos ⟨c5,rfl⟩];simp
   ·have hcj:¬ (j:Int)=1:=by omega
    simp (disch:=first|omega|simp only[zD]<;>omega|assumption) only[↓zR,↓zRM,zR,zRM,reduceAdd,reduceMul,reduceToNat,↓f268_L14,↓f268_J16,zcC,hld,hgd,hge,g1,g4,eq_true c5,eq_false hcj];refine tail (zam e::zq e 0 ((kidT body e).take j)) _ h' e2 hn (by rw[zaJ] at hlen;omega) ?_ _ _ _ _ _ _ _;rw[hgo];unfold kidW;rw[if_neg λhh=>cj1 hh.2];rfl
  ·simp (disch:=first|omega|simp only[zD]<;>omega|assumption) only[↓zR,↓zRM,zR,zRM,reduceAdd,reduceMul,reduceToNat,↓f268_L14,↓f268_J16,zcC,hld,hgd,hge,g1,g4,eq_false c5];refine tail (zam e::zq e 0 ((kidT body e).take j)) _ h' e2 hn (by rw[zaJ] at hlen;omega) ?_ _ _ _ _ _ _ _;rw[hgo];unfold kidW;rw[if_neg λhh=>c5 hh.1];rfl
theorem headW_eq{e:Ex}(h:e.kind=4):zam e=zgL.getD e.num.toNat []:=by
 unfold zam;rw[if_neg (by omega),if_neg (by omega),if_pos h]
theorem GS8.w268(TS:GS8 t)(L:GI t)(hsp:t.get 277=some e277){body:List Ex}(hb:zdD body)(hbl:body.length<=24):∀(B i:Nat) (n:Nat) (h:H) (bv:AV),i<B->i<body.length->LAt 4 ExC h bv body->i+12<=n ->
  Sp (β:=β) (zc t stdI n (.fn 268 []) [bv,.int .i64 (i:Int)] h) λu h'=>Ext h h'/\u = .str (zW body i)
 | B+1,i,n,h,bv,hB,hi,hv,hn=>by
  intro k R hk;obtain⟨m,rfl⟩:∃m,n=m+1:=⟨n-1,by omega⟩
  obtain⟨e,he⟩:∃e,body[i]?=some e:=⟨_,List.getElem?_eq_getElem hi⟩
  obtain⟨⟨l0,hl0,hp⟩,hkid⟩:=hb i e he;obtain⟨hnum,hbind,hk3⟩:=hp.num hl0;have hil:=zaL (x:=e.num) (by omega) (by omega);have hto:=zeA hb.parts he;have htl:(e.kids.map λ(k:Int)=>zW body k.toNat)=kidT body e:=rfl;rw[htl] at hto;obtain⟨b,o,cs,a1,a2,w,rfl,a3⟩:=hv.at (β:=β) he;have hx:ExIn h b o w e:=⟨a2,a3⟩
  obtain⟨us,g1,g2,g3,g4,g5,g6,g7,g8⟩:=hx.get β;have hw29:=λ(hh:H) (kk:K β)=>L.w29 (m-1) e.num (by omega) (by omega) hh kk
  rw[show m-1+1=m by omega] at hw29;have IH:∀(j:Nat) (h:H) (bv:AV),j<i->LAt 4 ExC h bv body->Sp (β:=β) (zc t stdI m (.fn 268 []) [bv,.int .i64 (j:Int)] h) λu h'=>Ext h h'/\u = .str (zW body j) :=
   λj h bv hj hv=>GS8.w268 TS L hsp hb hbl B j m h bv (by omega) (by omega) hv (by omega)
  have fin:∀(s:List UInt8),zam e=s->zaZ e (kidT body e)=40::(Lib.join (zam e::zq e 0 (kidT body e)) [32]++[41])->∀x1 x2 x6 x7 x8 x9 x10 x11 x12 x13 x14:AV,∀h1,Ext h h1 ->
    f268_J5 m (zc t stdI m) k bv x1 x2 (.ptr b o) (.str (Lib.itoa e.num)) (.sl h1.n 0 1 1 none) x6 x7 x8 x9 x10 x11 x12 x13 x14 (h1.push (.own 0 [.str s]))=R:=by
   intro s hs ht x1 x2 x6 x7 x8 x9 x10 x11 x12 x13 x14 h1 e1;have n1:=e1.n;refine TS.j5 L hb hbl he (by omega) IH hv hx (e1.trans ((Ext.refl h1).push _)) (v5:=.sl h1.n 0 1 1 none) ⟨h1.n,n1,by rw[H.n_push];omega,by rw[zg rfl,hs];rfl,.inl rfl⟩ k R ?_;intro h' e2;exact hk _ _ ⟨e2,by rw[hto,ht]⟩
  by_cases c0:e.kind=0
  ·rw[TS.c268];unfold f268;simp (disch:=first|omega|simp only[zD]<;>omega|assumption) only[↓zR,↓zRM,zR,zRM,reduceAdd,reduceMul,reduceToNat,zcC,a1,g1,g4,g5,hw29,eq_true c0];refine hk _ _ ⟨Ext.refl _,?_⟩;rw[hto];unfold zaZ;rw[if_pos c0]
  by_cases c1:e.kind=1
  ·rw[TS.c268];unfold f268;simp (disch:=first|omega|simp only[zD]<;>omega|assumption) only[↓zR,↓zRM,zR,zRM,reduceAdd,reduceMul,reduceToNat,zcC,a1,g1,g4,g5,hw29,eq_false c0,eq_true c1];refine hk _ _ ⟨Ext.refl _,?_⟩;rw[hto];unfold zaZ;rw[if_neg c0,if_pos c1];rfl
  by_cases c7:e.kind=7
  ·rw[TS.c268];unfold f268;simp (disch:=first|omega|simp only[zD]<;>omega|assumption) only[↓zR,↓zRM,zR,zRM,reduceAdd,reduceMul,reduceToNat,zcC,a1,g1,g4,g5,hw29,eq_false c0,eq_false c1,eq_true c7];refine hk _ _ ⟨Ext.refl _,?_⟩;rw[hto];unfold zaZ;rw[if_neg c0,if_neg c1,if_pos c7]
  have tx:¬ (e.kind=3/\kidT body e=[])->zaZ e (kidT body e)=40::(Lib.join (zam e::zq e 0 (kidT body e)) [32]++[41]):=λhh=>by
   unfold zaZ;rw[if_neg c0,if_neg c1,if_neg c7,if_neg hh]
  by_cases c2:e.kind=2
  ·rw[TS.c268];unfold f268;simp (disch:=first|omega|simp only[zD]<;>omega|assumption) only[↓zR,↓zRM,zR,zRM,reduceAdd,reduceMul,reduceToNat,zcC,a1,g1,g4,g5,hw29,eq_false c0,eq_false c1,eq_false c7,eq_true c2];exact fin _ (by unfold zam;rw[if_pos c2];rfl) (tx (by omega)) _ _ _ _ _ _ _ _ _ _ _ _ (Ext.refl _)
  by_cases c3:e.kind=3
  ·by_cases ck:e.kids.length=0
   ·have ck':((e.kids.length:Nat):Int)=0:=by omega
    rw[TS.c268];unfold f268;simp (disch:=first|omega|simp only[zD]<;>omega|assumption) only[↓zR,↓zRM,zR,zRM,reduceAdd,reduceMul,reduceToNat,zcC,a1,g1,g4,g5,g7,g8,hw29,eq_false c0,eq_false c1,eq_false c7,eq_false c2,eq_true c3,eq_true ck'];refine hk _ _ ⟨Ext.refl _,?_⟩;have hnil:kidT body e=[]:=List.eq_nil_of_length_eq_zero (by rw[zcq];exact ck);rw[hto];unfold zaZ;rw[if_neg c0,if_neg c1,if_neg c7,if_pos ⟨c3,hnil⟩];rfl
   ·have ck':¬ ((e.kids.length:Nat):Int)=0:=by omega
    rw[TS.c268];unfold f268;simp (disch:=first|omega|simp only[zD]<;>omega|assumption) only[↓zR,↓zRM,zR,zRM,reduceAdd,reduceMul,reduceToNat,zcC,a1,g1,g4,g5,g7,g8,hw29,eq_false c0,eq_false c1,eq_false c7,eq_false c2,eq_true c3,eq_false ck',↓f268_J49];refine fin _ (by unfold zam;rw[if_neg c2,if_pos c3];rfl) (tx λhh=>ck ?_) _ _ _ _ _ _ _ _ _ _ _ _ (Ext.refl _);have:=hh.2;rw[<- zcq body e,this];rfl
  by_cases c4:e.kind=4
  ·have hop:0<=e.num/\e.num<=4:=by
    clear fin tx;unfold zi at hp;omega
   have hsq:=λ(hh:H) (kk:K β)=>split_q (β:=β) hsp (m-2) hh kk
   rw[show m-2+1=m-1 by omega] at hsq;have h275:∀(hh:H) (kk:K β),qCall (zc t stdI m) (.fn 275 []) [] hh (.mk kk)=kk (.sl hh.n 0 5 5 none) (hh.push (.own 0 zb1)):=by
    intro hh kk;have:=TS.q275 (β:=β) (I:=stdI) (m-1) [] hh kk
    rw[show m-1+1=m by omega] at this;rw[this];unfold f275;simp (disch:=first|omega|simp only[zD]<;>omega|assumption) only[↓zR,↓zRM,zR,zRM,reduceAdd,reduceMul,reduceToNat,hsq]
   have e5:Ext h (h.push (.own 0 zb1)):=(Ext.refl h).push _;have hlt:b<h.n:=hx.1.1;have g1':((h.push (.own 0 zb1)).get b).cells=some us:=by rw[zj (by omega)];exact g1
   have hsC:zb1[e.num.toNat]?=some (.str (zgL.getD e.num.toNat [])):=by
    have:e.num.toNat=0\/e.num.toNat=1\/e.num.toNat=2\/e.num.toNat=3\/e.num.toNat=4:=by clear fin tx;omega
    rcases this with h|h|h|h|h<;>rw[h]<;>rfl
   rw[TS.c268];unfold f268;simp (disch:=first|omega|simp only[zD]<;>omega|assumption) only[↓zR,↓zRM,zR,zRM,reduceAdd,reduceMul,reduceToNat,zcC,a1,g1,g4,g5,hw29,eq_false c0,eq_false c1,eq_false c7,eq_false c2,eq_false c3,eq_true c4,h275,g1',g5,chk_s,hsC];exact fin _ (headW_eq c4) (tx (by omega)) _ _ _ _ _ _ _ _ _ _ _ _ e5
  by_cases c6:e.kind=6
  ·rw[TS.c268];unfold f268;simp (disch:=first|omega|simp only[zD]<;>omega|assumption) only[↓zR,↓zRM,zR,zRM,reduceAdd,reduceMul,reduceToNat,zcC,a1,g1,g4,g5,hw29,eq_false c0,eq_false c1,eq_false c7,eq_false c2,eq_false c3,eq_false c4,eq_true c6];exact fin _ (by unfold zam;rw[if_neg c2,if_neg c3,if_neg c4,if_pos c6]) (tx (by omega)) _ _ _ _ _ _ _ _ _ _ _ _ (Ext.refl _)
  have c5:e.kind=5:=by
   clear fin tx;unfold zi at hp;omega
  rw[TS.c268];unfold f268;simp (disch:=first|omega|simp only[zD]<;>omega|assumption) only[↓zR,↓zRM,zR,zRM,reduceAdd,reduceMul,reduceToNat,zcC,a1,g1,g4,g5,hw29,eq_false c0,eq_false c1,eq_false c7,eq_false c2,eq_false c3,eq_false c4,eq_false c6,eq_true c5];exact fin _ (by unfold zam;rw[if_neg c2,if_neg c3,if_neg c4,if_neg c6]) (tx (by omega)) _ _ _ _ _ _ _ _ _ _ _ _ (Ext.refl _)
def zcV(d:Df):List UInt8:=[40,100,101,102,32]++Lib.itoa d.params++[32]++zW d.body (d.body.length-1)++[41,10]
def zQ(p:List Df):List UInt8:=(p.map zcV).flatten
def zfs(p:List Df):List UInt8 × Int:=if zT p=true/\(zQ p).length<=2048 then (zQ p,0) else ([],800)
theorem zgj{d:Df}(h:zt d=true)(h1:0<=d.params/\d.params<=3):(zcV d).length<=11297181459300:=by
 obtain⟨h2,h3⟩:=zaO h;have ht:=zb3 (zdd h) (i:=d.body.length-1) (by omega);have hi:=zaL (x:=d.params) (by omega) (by omega);unfold zcV;simp only[List.length_append,List.length_cons,List.length_nil];omega
theorem zbz{d:Df}(h:zt d=true):0<=d.params/\d.params<=3:=by
 unfold zt at h;rw[Bool.and_eq_true] at h;exact (of_decide_eq_true h.1).1
theorem zeO:∀(p:List Df),(∀d ∈ p,zt d=true)->(zQ p).length<=p.length*11297181459300
 | [],_=>by simp[zQ]
 | d::p,h=>by
  have ih:=zeO p λx hx=>h x (List.mem_cons_of_mem _ hx)
  have h1:=zgj (h d List.mem_cons_self) (zbz (h d List.mem_cons_self));have:zQ (d::p)=zcV d++zQ p:=by simp[zQ]
  rw[this,List.length_append,List.length_cons,Nat.add_mul];omega
theorem GS8.w254(TS:GS8 t)(TC:GC t)(T:GA t)(L:GI t)(hsp:t.get 277=some e277)(n:Nat)(hn:100<=n){h:H}{pv:AV}{p:List Df}(hp:LAt 2 DfC h pv p)(hl:p.length<=9223372036854775807)(hl2:∀d ∈ p,d.body.length<=9223372036854775807) :
  Sp (β:=β) (zc t stdI n (.fn 254 []) [.agg [pv]] h) λu h'=>Ext h h'/\u = .tup [.str (zfs p).1,.int .i64 (zfs p).2]:=by
 intro k R hk;obtain⟨m,rfl⟩:∃m,n=m+1:=⟨n-1,by omega⟩
 have hroom:room=68719476736:=rfl;have hbx:∀(hh:H) (kk:K β),qBox 0 (.agg [pv]) hh (.mk kk)=kk (.ptr hh.n 0) (hh.push (.own 0 [pv])):=λhh kk=>zr 0 _ hh kk
 have e0:Ext h (h.push (.own 0 [pv])):=(Ext.refl h).push _;have n0:(h.push (.own 0 [pv])).n=h.n+1:=H.n_push _ _;have g0:((h.push (.own 0 [pv])).get h.n).cells=some [pv]:=by rw[zg rfl];rfl
 rw[TS.c254];unfold f254;simp (disch:=first|omega|simp only[zD]<;>omega|assumption) only[↓zR,↓zRM,zR,zRM,reduceAdd,reduceMul,reduceToNat,↓hbx,g0];refine TC.w157 T m (by omega) ⟨pv,rfl,hp.ext DfC.stays e0⟩ hl hl2 _ _ ?_;intro u h1 ⟨e1,eu⟩;subst eu;cases hm:zT p with
 | false=>
  simp (disch:=first|omega|simp only[zD]<;>omega|assumption) only[↓zR,↓zRM,zR,zRM,reduceAdd,reduceMul,reduceToNat];refine hk _ _ ⟨e0.trans e1,?_⟩;unfold zfs;rw[if_neg (by rw[hm];simp)]
 | true=>
  obtain⟨hpl,_,hall⟩:=zbG hm;have hdm:∀d ∈ p,zt d=true:=λd hd=>(hall d hd).1
  have g1:(h1.get h.n).cells=some [pv]:=by rw[e1.get _ (by omega)];exact g0
  have e01:=e0.trans e1;have hp1:=hp.ext DfC.stays e01;have lp:=hp.len (β:=β);simp (disch:=first|omega|simp only[zD]<;>omega|assumption) only[↓zR,↓zRM,zR,zRM,reduceAdd,reduceMul,reduceToNat,↓f254_J1,g1,lp];refine z6 11 m _ _ (λr x0 x1 x2 x3 x4 x5 x6 x7 x8 x9 x10 h'=>x6=pv/\x7 = .int .i64 (p.length:Int)/\Ext h1 h'/\∃j:Nat,x8 = .int .i64 (j:Int)/\j+r=p.length/\x4 = .str (zQ (p.take j))) p.length (by omega) ?_ _ _ _ _ _ _ _ _ _ _ _ _
   ⟨rfl,rfl,Ext.refl _,0,rfl,by omega,rfl⟩
  intro l r ih x0 x1 x2 x3 x4 x5 x6 x7 x8 x9 x10 h' ⟨p0,p1,e2,j,p5,hj,p6⟩;rw[p0,p1,p5,p6];clear p0 p1 p5 p6;have htl:=zeO (p.take j) λd hd=>hdm d (List.mem_of_mem_take hd)
  have htj:(p.take j).length<=8:=by rw[List.length_take];omega
  have htl2:(zQ (p.take j)).length<=90377451674400:=by
   have:(p.take j).length*11297181459300<=8*11297181459300:=Nat.mul_le_mul_right _ htj
   omega
  cases r with
  | zero=>
   have hjl:j=p.length:=by omega
   subst hjl;rw[List.take_length] at htl2 ⊢
   by_cases c:(zQ p).length<=2048
   ·have c':¬ 2048<((zQ p).length:Int):=by omega
    simp (disch:=first|omega|simp only[zD]<;>omega|assumption) only[↓zR,↓zRM,zR,zRM,reduceAdd,reduceMul,reduceToNat,↓f254_L9,↓f254_J2,↓f254_J3,eq_false c'];refine hk _ _ ⟨e01.trans e2,?_⟩;unfold zfs;rw[if_pos ⟨hm,c⟩]
   ·have c':2048<((zQ p).length:Int):=by omega
    simp (disch:=first|omega|simp only[zD]<;>omega|assumption) only[↓zR,↓zRM,zR,zRM,reduceAdd,reduceMul,reduceToNat,↓f254_L9,↓f254_J2,↓f254_J3,eq_true c'];refine hk _ _ ⟨e01.trans e2,?_⟩;unfold zfs;rw[if_neg λhh=>c hh.2]
  | succ r=>
   have hjl:j<p.length:=by omega
   have cj:(j:Int)<(p.length:Int):=by omega
   obtain⟨d,hd⟩:∃d,p[j]?=some d:=⟨_,List.getElem?_eq_getElem hjl⟩
   have hmem:=List.mem_of_getElem? hd;have hdm':=hdm d hmem;have hpar:=zbz hdm';obtain⟨hb1,hb2⟩:=zaO hdm';have htk:p.take (j+1)=p.take j++[d]:=by rw[List.take_add_one,hd];rfl
   have hgo:zQ (p.take (j+1))=zQ (p.take j)++zcV d:=by rw[htk];simp[zQ]
   obtain⟨b,o,cs,a1,a2,w,rfl,a3⟩:=(hp1.ext DfC.stays e2).at (β:=β) hd;obtain⟨us,b1,b2,b3,b4⟩:=a2.get;have e4:Ext h' ((h'.push (.own 0 [.int .i64 0,.nils])).set h'.n (.own 0 [.int .i64 d.params,w])):=((Ext.refl h').push _).set (Nat.le_refl _) _;have wsc:=a3.sc;have wl:=a3.len (β:=β);have wc:=λkk:VK β=>chkL (β:=β) a3 kk
   have hw29:=λ(hh:H) (kk:K β)=>L.w29 (m-1) d.params (by omega) (by omega) hh kk
   rw[show m-1+1=m by omega] at hw29;have hil:=zaL (x:=d.params) (by omega) (by omega);have hsb:((d.body.length:Int)-1)=((d.body.length-1:Nat):Int):=by omega
   have g3:((((h'.push (.own 0 [.int .i64 0,.nils])).set h'.n (.own 0 [.int .i64 d.params,w])).get h'.n)).cells=some [.int .i64 d.params,w]:=by rw[zas rfl];rfl
   have hpt:za0 [AV.int .i64 0,.nils] 0 [.int .i64 d.params,w]=[.int .i64 d.params,w]:=rfl;have htf:=zb3 (zdd hdm') (i:=d.body.length-1) (by omega);simp (disch:=first|omega|simp only[zD]<;>omega|assumption) only[↓zR,↓zRM,zR,zRM,reduceAdd,reduceMul,reduceToNat,↓f254_L9,↓f254_J11,a1,b1,b2,b3,wsc,wl,hw29,hsb,hpt,g3,wc];refine TS.w268 L hsp (zdd hdm') (by omega) d.body.length (d.body.length-1) m _ w (by omega) (by omega) (a3.ext ExC.stays e4) (by omega) _ _ ?_;intro u h3 ⟨e5,eu⟩;subst eu;have hll:([40,100,101,102,32]++Lib.itoa d.params).length<=25:=by simp only[List.length_append,List.length_cons,List.length_nil];omega
   have hl3:([40,100,101,102,32]++Lib.itoa d.params++[32]).length<=26:=by simp only[List.length_append,List.length_cons,List.length_nil];omega
   have hl4:([40,100,101,102,32]++Lib.itoa d.params++[32]++zW d.body (d.body.length-1)).length<=11297181459280:=by rw[List.length_append];omega
   have hl5:=zgj hdm' hpar;unfold zcV at hl5;simp (disch:=first|omega|simp only[zD]<;>omega|assumption) only[↓zR,↓zRM,zR,zRM,reduceAdd,reduceMul,reduceToNat,↓f254_J12];refine ih r (by omega) _ _ _ _ _ _ _ _ _ _ _ _ ⟨rfl,rfl,e2.trans (e4.trans e5),j+1,rfl,by omega,?_⟩;rw[hgo];rfl
end
end Am.F
