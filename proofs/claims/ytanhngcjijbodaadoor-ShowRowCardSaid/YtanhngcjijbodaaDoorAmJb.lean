/- Texts that belong together: no condition. -/
import Derived.Test.YtanhngcjijbodaaDoorAmJa
import Derived.Test.YtanhngcjijbodaaDoorAmMap
import Derived.OrdersIn
import Derived.LoopNIn
set_option maxRecDepth 100000
set_option linter.unusedVariables false
set_option linter.unusedSimpArgs false
set_option linter.defProp false
section
namespace Am
open Go Go.RowKit
section
variable {kf kt:Nat->Nat} {w0:Base} {fm:FM} {S:St} {w:World} {P:Program}
theorem zeC:∀(vs cs:List Value) (o i:Nat),i<o->(putV cs o vs)[i]?=cs[i]?
 | [],_,_,_,_=>rfl
 | v::vs,cs,o,i,h=>by
  simp only[putV];rw[zeC vs _ _ i (by omega),List.getElem?_set,if_neg (by omega)]
theorem zgz:∀(vs cs:List Value) (o j:Nat) (v:Value),o+vs.length<=cs.length->vs[j]?=some v->(putV cs o vs)[o+j]?=some v
 | [],_,_,_,_,_,h=>by simp at h
 | x::vs,cs,o,j,v,hl,h=>by
  simp only[putV];simp only[List.length_cons] at hl;cases j with
  | zero=>
   simp at h;subst h;rw[zeC vs _ _ _ (by omega),List.getElem?_set];simp;omega
  | succ j=>
   rw[show o+(j+1)=(o+1)+j by omega];exact zgz vs _ _ j v (by simp;omega) (by simpa using h)
theorem zgO{e:TypeId}{i:TypeInfo}{zv:Value}{op:Option Addr->Nat->Nat->Sem Value}{n:Nat}{new:List AV}{vn:List Value}{s v:AV}{S':St}{bytes:Nat}(h:R kf kt w0 fm S w)
  (_:0<i.size) (hzs:zv.cells.size=i.size)
  (hin:∀base sLen sCap w',sLen+n<=sCap->(∀a,base=some a->(storeCells (a.add (sLen*i.size)) vn).run P w = .ok () w')->(base=none->w'=w) ->
   (op base sLen sCap).run P w = .ok (.slice base (sLen+n) sCap) w')
  (hout:∀(base:Option Addr) (sLen sCap:Nat) (vo:List Value),(Builtin.firstCells i.size sLen (.slice base sLen sCap)).run P { w with drawn:=w.drawn+1 } = .ok vo.toArray { w with drawn:=w.drawn+1 }->sCap<sLen+n->sLen+n<room ->
   bytes<=1024->∃(cap:Nat) (vn:List Value),VRs kf fm new vn/\sLen+n<=cap/\∀(w':World) (a:Addr),(newRow e (vo.toArray++vn.toArray++Builtin.zeroCells zv.cells (cap-(sLen+n)))).run P { w with drawn:=w.drawn+1 } = .ok a w' ->
    (op base sLen sCap).run P w = .ok (.slice (some a) (sLen+n) cap) w')
  (hv:VRs kf fm new vn) (hsc:∀u ∈ new,u.sc=true) (hlen:new.length=n*i.size) (hg:grow (kt e) i.size bytes s n new S=some (v,S')) :
  ∀{base:Option Addr} {sLen sCap:Nat},VR kf fm s (.slice base sLen sCap)->Ok1 kf kt w0 fm w P (op base sLen sCap) v S':=by
 intro base sLen sCap hs
 let w1:World:={ w with drawn:=w.drawn+1 }
 have hR1:R kf kt w0 fm S w1:=h.drawn _;cases s<;>simp only[grow] at hg<;>(try (cases hg;done))
 case nils=>
  simp only[VR] at hs;cases hs;split at hg
  ·cases hg;rename_i hn;subst hn;exact Ok1.mk h (u:=.slice none 0 0) (hin none 0 0 w (by omega) (λa ha=>by cases ha) λ_=>rfl) (by simp[VR])
  ·rename_i hn;split at hg
   ·rename_i hroom;cases hg;obtain⟨cap,vn',hv',hcap,hrun⟩:=hout none 0 0 [] (by simp[Builtin.firstCells]) (by omega) (by omega) hroom.2;obtain⟨w',hr,h',hvr⟩:=zdh (P:=P) (e:=e) (i:=i) (zv:=zv) (old:=[]) (new:=new) (vo:=[]) (vn:=vn') (need:=0+n) (cap:=cap) hR1 hzs (by simp[VRs]) hv' (by simp) hsc (by simpa using hlen) hcap;have hx:=hrun w' _ hr;rw[List.nil_append] at h';rw[Nat.zero_add] at hx hvr;exact⟨_,_,w',hx,h',hvr⟩
   ·cases hg
 case sl b o len cap g=>
  have hs0:=hs;simp only[VR] at hs;obtain⟨p,rc,ra,hp,heq,g1,g2,g3,g4,g5,g6⟩:=hs;cases heq;split at hg
  ·rename_i hle;split at hg
   ·rename_i hn;subst hn;cases hg;have hnew:new=[]:=List.eq_nil_of_length_eq_zero (by simpa using hlen);subst hnew;simp[VRs] at hv;subst hv;refine Ok1.mk h ?_ hs0;exact hin (some ra) sLen sCap w (by omega) (λa ha=>by simp[storeCells]) λhh=>by cases hh
   ·rename_i hn;cases hst:S.storeN b (o+sLen*i.size) new with
    | none=>simp[hst] at hg
    | some S1=>
     simp[hst] at hg;obtain⟨rfl,rfl⟩:=hg;have hra:ra=p.1.add o:=g4.resolve_right (by omega);subst hra;obtain⟨w',hr,h'⟩:=h.store (P:=P) hst hp hv hsc;refine⟨[],.slice (some (p.1.add o)) (sLen+n) sCap,w',?_,by simpa using h',?_⟩
     ·refine hin _ _ _ w' (by omega) (λa ha=>?_) λhh=>by cases hh
      cases ha;rw[zaS];exact hr
     ·rw[List.append_nil];simp only[VR];exact⟨p,sCap,_,hp,rfl,by omega,g2,hle,.inl rfl,g5,g6⟩
  ·rename_i hgt;split at hg
   ·rename_i hroom;cases hold:S.loadN b o (sLen*i.size) with
    | none=>simp[hold] at hg
    | some old=>
     simp only[hold,Option.bind_some] at hg;obtain⟨ra',rc',heq,vo,hlo,hvo,hso⟩:=h.slice (P:=P) hs0 hold (λh0=>Nat.pos_of_mul_pos_right h0);cases heq;obtain⟨_,_,heq1,vo1,hlo1,hvo1,_⟩:=hR1.slice (P:=P) hs0 hold (λh0=>Nat.pos_of_mul_pos_right h0);cases heq1;have holdlen:=(zaW hold).1;have hfirst:(Builtin.firstCells i.size sLen (.slice (some ra) sLen sCap)).run P w1 = .ok vo1.toArray w1:=by simpa [Builtin.firstCells] using hlo1
     have hlen2:old.length+new.length=(sLen+n)*i.size:=by rw[holdlen,hlen,Nat.add_mul]
     cases g with
     | none=>
      cases hg;have hrc:=g5 rfl;obtain⟨cap',vn',hv',hcap,hrun⟩:=hout (some ra) sLen sCap vo1 hfirst (by omega) hroom.1 hroom.2;obtain⟨w',hr,h',hvr⟩:=zdh (P:=P) (e:=e) (i:=i) (zv:=zv) (need:=sLen+n) (cap:=cap') hR1 hzs hvo1 hv' hso hsc hlen2 hcap;exact⟨_,_,w',hrun w' _ hr,h',hvr⟩
     | some es'=>
      simp only at hg;split at hg
      ·rename_i tag cs hb;split at hg
       ·rename_i htip;cases hg;obtain⟨rfl,htip,rfl⟩:=htip
        by_cases hfit:sLen+n<=sCap
        ·-- in place,in the spare room
         have hra:ra=p.1.add o:=g4.resolve_right (by omega);subst hra;obtain⟨p',hp',hk⟩:=h.get hb;rw[hp] at hp';cases hp';have hk:RowAt kf kt fm w _ cs p:=hk;obtain⟨c,elem,fr,hw,ht,hsz,hf,hc⟩:=hk.row;have hfits:=hk.fits;have hbound:=g6 _ rfl;have hrcmul:(sLen+n)*i.size<=sCap*i.size:=Nat.mul_le_mul_right _ hfit;have hone:∀u ∈ vn,u.oneCell'=true:=λu hum=>by
          obtain⟨j,hj⟩:=List.getElem?_of_mem hum;have hj':j<new.length:=by rw[<- hv.length];exact (List.getElem?_eq_some_iff.1 hj).1
          obtain⟨u',hu',hr'⟩:=hv.get (List.getElem?_eq_getElem hj');rw[hj] at hu';cases hu';exact hr'.oneCell (hsc _ (List.getElem_mem hj'))
         have hsp:(p.1.add (o+sLen*i.size)).spot=none:=by rw[zV hk.spot]
         have hoff:(p.1.add (o+sLen*i.size)).off=p.1.off+(o+sLen*i.size):=by rw[zV hk.spot]
         have hvl:=hv.length;obtain⟨w',hr,k1,k2,k3,k4,k5,k6⟩:=zaP P (p.1.add (o+sLen*i.size)) hsp elem fr vn 0 w c (by rw[zbq];exact hw)
          (λ_=>by rw[hoff,hvl,hlen];rw[Nat.add_mul] at hrcmul;omega) hf hone
         rw[zbq] at k5 k6;have hlow:=h.low b _ p hb hp rfl;have hdead:=h.kill b;have hfree:∀(b':Nat) (k':Blk) (q:Addr × Nat),(S.set b .dead)[b']?=some k'->fm[b']?=some q->k'.excl=true->q.1.block≠p.1.block:=by
          intro b' k' q hb' hq he;rw[List.getElem?_set] at hb';split at hb'
          ·split at hb'
           ·cases hb';cases he
           ·cases hb'
          ·rename_i hne;exact h.sep b' b k' _ q p hb' hb hq hp he rfl (Ne.symm hne)
         have h2:=hdead.loose hlow.1 hfree k5 k1 k2 k3 k4;have hq:((p.1.add o).block)=p.1.block:=zbq _ _;have hvold:=hvo.length;have hlim:(sLen+n)*i.size<=p.2-o:=by omega
         refine⟨[(p.1.add o,p.2-o)],.slice (some (p.1.add o)) (sLen+n) sCap,w',?_,?_,?_⟩
         ·refine hin _ _ _ w' hfit (λa ha=>?_) λhh=>by cases hh
          cases ha;rw[zaS];exact hr
         ·have hoff2:(p.1.add o).off=p.1.off+o:=by rw[zV hk.spot]
          refine h2.adopt (q:=(p.1.add o,p.2-o)) (by rw[hq];exact hlow.1) (by rw[hq,k1];exact hlow.2) (λb' k' q hb' hq' he=>by rw[hq];exact hfree b' k' q hb' hq' he) ?_;refine⟨by show (p.1.add o).spot=none;rw[zV hk.spot],⟨_,elem,fr,by show w'.heap[(p.1.add o).block]?=_;rw[hq];exact k6,ht,?_,?_,λj u hu=>?_⟩,?_⟩
          ·simp[zab,hoff2];omega
          ·simpa [zab] using hf
          ·rw[hoff2,hoff];rw[List.getElem?_append] at hu;split at hu
           ·rename_i hj;obtain⟨hs1,v1,hv1,hr1⟩:=hc (o+j) u (by
             have:=(zaW hold).2 j u hu
             simpa [St.load1,hb,Blk.cells] using this)
            refine⟨hs1,v1,?_,hr1.mono⟩;rw[List.getElem?_toArray,Nat.add_zero,zeC _ _ _ _ (by omega)];rw[show p.1.off+o+j=p.1.off+(o+j) by omega];simpa using hv1
           ·rename_i hj;obtain⟨v1,hv1,hr1⟩:=hv.get hu;refine⟨hsc _ (List.mem_of_getElem? hu),v1,?_,hr1.mono⟩;rw[List.getElem?_toArray,Nat.add_zero];have:=zgz vn c.toList (p.1.off+(o+sLen*i.size)) (j-old.length) v1 (by rw[hvl,hlen,Array.length_toList];rw[Nat.add_mul] at hrcmul;omega) hv1
            rw[<- this];congr 1;omega
          ·simp[hlen2];omega
         ·simp only[VR];refine⟨(p.1.add o,p.2-o),sCap,_,?_,rfl,hfit,hfit,Nat.le_refl _,.inl (by rw[zC]),(λhh=>by cases hh),λes he=>by cases he;simp;omega⟩;have:=zca hdead (p.1.add o,p.2-o)
          rwa [List.length_set] at this
        ·obtain⟨cap',vn',hv',hcap,hrun⟩:=hout (some ra) sLen sCap vo1 hfirst (by omega) hroom.1 hroom.2;obtain⟨w',hr,h',hvr⟩:=zdh (P:=P) (e:=e) (i:=i) (zv:=zv) (need:=sLen+n) (cap:=cap') (hR1.kill b) hzs hvo1 hv' hso hsc hlen2 hcap;rw[List.length_set] at hvr;exact⟨_,_,w',hrun w' _ hr,h',hvr⟩
       ·cases hg
      ·cases hg
   ·cases hg
theorem zc7{z:List AV}{zv:Value}{t:TypeId}{i:TypeInfo}(hz:zaH P kf t=some z)(hi:P.info? t=some i)(hzv:i.zero=some zv):zv.cells.size=i.size/\VRs kf fm z zv.cells.toList/\(∀u ∈ z,u.sc=true)/\z.length=i.size:=by
 obtain⟨i',zv',hi',hz1,hm,hlen⟩:=zY hz;rw[hi] at hi';cases hi';rw[hzv] at hz1;cases hz1;obtain⟨h1,h2⟩:=zau (fm:=fm) hm;have:=h1.length
 exact⟨by rw[<- hlen];simpa using this,h1,h2,hlen⟩
theorem ok_app{ts:Array TypeId}{t t1 e ty:TypeId}{d:TypeDesc}{i:TypeInfo}{z:List AV}{s x v:AV}{vs vx:Value}{n:Nat}{new:List AV}{S':St}(h:R kf kt w0 fm S w)
  (h0:ts[0]?=some t) (h1:ts[1]?=some t1) (ht:P.underlying t=some (.slice e)) (ht1:P.underlying t1=some d) (hd:∀k,d ≠ .int k) (hi:P.info? e=some i) (hz:zaH P kf e=some z)
  (hsz:i.size≠0) (hb:i.bytes≠0) (hs:VR kf fm s vs) (hx:VR kf fm x vx) (hn:zaw x=some n) (hsrc:zW S i.size n x=some new) (hg:grow (kt e) i.size i.bytes s n new S=some (v,S')) :
  Ok1 kf kt w0 fm w P (Builtin.append_ ts ty #[vs,vx]) v S':=by
 obtain⟨i',zv,hi',hz1,hm,_⟩:=zY hz;rw[hi] at hi';cases hi';obtain⟨hzs,_⟩:=zc7 (fm:=fm) hz hi hz1;obtain⟨l1,l2,l3,vn,l4,l5⟩:=zeo (P:=P) h hx hn (Nat.le_refl _) hsrc;obtain⟨_,_,_,vn',l4',l5'⟩:=zeo (P:=P) (h.drawn (w.drawn+1)) hx hn (Nat.le_refl _) hsrc;obtain⟨base,sLen,sCap,rfl⟩:∃base sLen sCap,vs = .slice base sLen sCap:=by
  cases s<;>simp only[grow] at hg<;>(try (cases hg;done))<;>simp only[VR] at hs
  ·obtain⟨p,rc,ra,_,rfl,_⟩:=hs;exact⟨_,_,_,rfl⟩
  ·exact⟨_,_,_,hs⟩
 refine zgO (P:=P) (e:=e) (i:=i) (zv:=zv) (op:=λbase sLen sCap=>Builtin.append_ ts ty #[.slice base sLen sCap,vx]) (bytes:=i.bytes) h (Nat.pos_of_ne_zero hsz) hzs ?_ ?_ l4 l3 l2 hg hs
 ·intro base sLen sCap w' hle hst hnil;exact app_in h0 h1 ht ht1 hd hi l1 l5 hle hst hnil
 ·intro base sLen sCap vo ho hgt hroom hbytes;obtain⟨cap,hcap,hrun⟩:=app_out h0 h1 ht ht1 hd hi hz1 l1 l5' ho hgt hb (zgm hgt hroom hbytes);exact⟨cap,vn',l4',hcap,hrun⟩
theorem zdc{z:List AV}{zv:Array Value}(n:Nat)(h:VRs kf fm z zv.toList):VRs kf fm (rep n z) (Builtin.zeroCells zv n).toList:=by
 have:=zeu (n:=n) h
 simpa [Builtin.zeroCells] using this
theorem ok_appz{ts:Array TypeId}{t t1 e ty:TypeId}{k:IntKind}{i:TypeInfo}{z:List AV}{s x v:AV}{vs vx:Value}{n:Nat}{S':St}(h:R kf kt w0 fm S w)
  (h0:ts[0]?=some t) (h1:ts[1]?=some t1) (ht:P.underlying t=some (.slice e)) (ht1:P.underlying t1=some (.int k)) (hi:P.info? e=some i) (hz:zaH P kf e=some z)
  (hsz:i.size≠0) (hs:VR kf fm s vs) (hx:VR kf fm x vx) (hn:zu x=some n) (hroomn:n<room) (hbytes':i.bytes<=1024) (hg:grow (kt e) i.size i.bytes s n (rep n z) S=some (v,S')) :
  Ok1 kf kt w0 fm w P (Builtin.append_ ts ty #[vs,vx]) v S':=by
 obtain⟨i',zv,hi',hz1,hm,_⟩:=zY hz;rw[hi] at hi';cases hi';obtain⟨hzs,hzr,hzsc,hzl⟩:=zc7 (fm:=fm) hz hi hz1;obtain⟨base,sLen,sCap,rfl⟩:∃base sLen sCap,vs = .slice base sLen sCap:=by
  cases s<;>simp only[grow] at hg<;>(try (cases hg;done))<;>simp only[VR] at hs
  ·obtain⟨p,rc,ra,_,rfl,_⟩:=hs;exact⟨_,_,_,rfl⟩
  ·exact⟨_,_,_,hs⟩
 obtain⟨kk,rfl⟩:=zq hn hx;have hrz:=zdc (kf:=kf) (fm:=fm) n hzr;refine zgO (P:=P) (e:=e) (i:=i) (zv:=zv) (op:=λbase sLen sCap=>Builtin.append_ ts ty #[.slice base sLen sCap,.int kk n]) (bytes:=i.bytes) h (Nat.pos_of_ne_zero hsz) hzs ?_ ?_ hrz (zgo hzsc) (by rw[zbs,hzl]) hg hs
 ·intro base sLen sCap w' hle hst hnil;exact appz_in h0 h1 ht ht1 hi hz1 hzs hroomn hbytes' hle hst hnil
 ·intro base sLen sCap vo ho hgt hroom hbytes;obtain⟨cap,hcap,hrun⟩:=appz_out (kk:=kk) h0 h1 ht ht1 hi hz1 hzs hroom hbytes ho hgt (zgm hgt hroom hbytes);exact⟨cap,_,hrz,hcap,by simpa using hrun⟩
theorem ok_cpy{ts:Array TypeId}{t e ty:TypeId}{es:Nat}{d x v:AV}{vd vx:Value}{dl xl:Nat}{cs:List AV}{S':St}(h:R kf kt w0 fm S w)
  (h0:ts[0]?=some t) (ht:P.underlying t=some (.slice e)) (hs:zx P e=some es) (hd:VR kf fm d vd) (hx:VR kf fm x vx) (hdl:zaw d=some dl) (hxl:zaw x=some xl)
  (hsrc:zW S es (min xl dl) x=some cs)
  (hg:zhk S cs (min xl dl) d=some (v,S')) :
  Ok1 kf kt w0 fm w P (Builtin.copy_ ts ty #[vd,vx]) v S':=by
 obtain⟨l1,l2,l3,vs,l4,l5⟩:=zeo (P:=P) h hx hxl (Nat.min_le_left _ _) hsrc;have hvl:=l4.length;cases d<;>simp only[zhk] at hg<;>(try (cases hg;done))
 case nils=>
  cases hg;simp only[VR] at hd;subst hd;simp only[zaw,Option.some.injEq] at hdl;subst hdl;refine Ok1.int h ?_;simp only[Nat.min_zero] at l5;simp[Builtin.copy_,h0,run_underlying ht,l1,zn hs,l5,goInt]
 case sl b o len cap g=>
  simp only[zaw,Option.some.injEq] at hdl;subst hdl;have hd0:=hd;simp only[VR] at hd;obtain⟨p,rc,ra,hp,rfl,g1,g2,g3,g4,g5,g6⟩:=hd;split at hg
  ·rename_i hz;cases hg;rw[hz,Nat.zero_mul] at l2;have hvs:vs=[]:=List.eq_nil_of_length_eq_zero (by omega);subst hvs;rw[hz] at l5;refine Ok1.int h ?_;have hz':Nat.min xl len=0:=hz;simp[Builtin.copy_,h0,run_underlying ht,l1,zn hs,hz',l5,goInt,storeCells]
  ·rename_i hz;cases hst:S.storeN b o cs with
   | none=>simp[hst] at hg
   | some S1=>
    simp[hst] at hg;obtain⟨rfl,rfl⟩:=hg;have hra:ra=p.1.add o:=g4.resolve_right (by have:=Nat.min_le_right xl len;omega);subst hra;obtain⟨w',hr,h'⟩:=h.store (P:=P) hst hp l4 l3;refine⟨[],.int .i64 (min xl len:Nat),w',?_,by simpa using h',by simp[VR]⟩;have l5':(Builtin.firstCells es (Nat.min xl len) vx).run P w = .ok vs.toArray w:=l5;simp[Builtin.copy_,h0,run_underlying ht,l1,zn hs,l5',goInt,hr]
theorem zcK:∀(fs:List Field) (ks:List FK) (xs ys:List AV) (off:Nat) (wx wy:Array Value) (r:Bool),zRq9 ks xs ys=some r->mapO (za0 P) fs=some ks ->
  (∀(j:Nat) (f:Field),fs[j]?=some f->f.offset=off+j)->VRs kf fm xs (wx.toList.drop off)->VRs kf fm ys (wy.toList.drop off)->(Op.eqFields 9999 wx wy fs).run P w = .ok r w
 | [],ks,xs,ys,off,wx,wy,r,he,hk,_,_,_=>by
  simp[mapO] at hk;subst hk;cases xs<;>cases ys<;>simp[zRq9] at he
  subst he;rfl
 | f::fs,ks0,xs,ys,off,wx,wy,r,he,hk0,ho,hx,hy=>by
  simp only[mapO] at hk0;cases hfk:za0 P f with
  | none=>simp[hfk] at hk0
  | some k=>
   cases hk:mapO (za0 P) fs with
   | none=>simp[hfk,hk] at hk0
   | some ks=>
    simp[hfk,hk] at hk0;subst hk0;have hoff:=ho 0 f rfl;rw[Nat.add_zero] at hoff;have hname:¬ f.name="_":=λh=>by simp[za0,h] at hfk
    simp only[za0,if_neg hname] at hfk;have hagg:aggT P f.type=some false:=by
     unfold aggT;cases hu:P.underlying f.type with
     | none=>simp[hu] at hfk
     | some d=>cases d<;>simp[hu] at hfk ⊢
    cases xs with
    | nil=>cases k<;>simp[zRq9] at he
    | cons x xs=>
     cases ys with
     | nil=>cases k<;>cases x<;>simp[zRq9] at he
     | cons y ys=>
      obtain⟨ux,hux,hrx⟩:=hx.get (i:=0) (c:=x) rfl;obtain⟨uy,huy,hry⟩:=hy.get (i:=0) (c:=y) rfl;rw[List.getElem?_drop,Nat.add_zero] at hux huy;have hux':wx[off]?=some ux:=by simpa using hux
      have huy':wy[off]?=some uy:=by simpa using huy
      have px:(part f.type wx f.offset).run P w = .ok ux w:=by simp[part,za4 hagg,hoff,hux']
      have py:(part f.type wy f.offset).run P w = .ok uy w:=by simp[part,za4 hagg,hoff,huy']
      have tailx:VRs kf fm xs (wx.toList.drop (off+1)):=by
       have:=hx.drop 1;rw[List.drop_drop] at this;simpa using this
      have taily:VRs kf fm ys (wy.toList.drop (off+1)):=by
       have:=hy.drop 1;rw[List.drop_drop] at this;simpa using this
      have rest:∀r,zRq9 ks xs ys=some r->(Op.eqFields 9999 wx wy fs).run P w = .ok r w:=λr hr=>
       zcK fs ks xs ys (off+1) wx wy r hr hk (λj g hg=>by have:=ho (j+1) g (by simpa using hg);omega) tailx taily
      simp only[Op.eqFields,hname,ne_eq,not_false_eq_true,if_true,Sem.run_bind,px,py,Result.andThen_ok];have hq:∀b:Bool,(Op.equalIn 9999 f.type ux uy).run P w = .ok b w->(if b=true then zRq9 ks xs ys else some false)=some r ->
        ((Op.equalIn 9999 f.type ux uy).run P w).andThen (λr' w'=>(if (!r')=true then pure false else Op.eqFields 9999 wx wy fs:Sem Bool).run P w') = .ok r w:=by
       intro b hb hr;rw[hb];cases b
       ·simp at hr;subst hr;simp
       ·simp only[if_true] at hr;simpa using rest r hr
      cases hu:P.underlying f.type with
      | none=>simp[hu] at hfk
      | some d=>
       cases k
       ·cases d<;>simp[hu] at hfk
        cases x<;>cases y<;>simp only[zRq9] at he<;>(try (cases he;done))
        simp only[VR] at hrx hry;subst hrx;subst hry;split at he
        ·rename_i hkk;subst hkk;exact hq _ (run_equalIn_int w 9998 f.type _ _ _ _ hu) he
        ·cases he
       ·cases d<;>simp[hu] at hfk
        cases x<;>cases y<;>simp only[zRq9] at he<;>(try (cases he;done))
        simp only[VR] at hrx hry;subst hrx;subst hry;exact hq _ (run_equalIn_bool' w 9998 f.type _ _ hu) he
       ·cases d<;>simp[hu] at hfk
        cases x<;>cases y<;>simp only[zRq9] at he<;>(try (cases he;done))
        simp only[VR] at hrx hry;obtain⟨bx,rfl,rfl⟩:=hrx;obtain⟨bt,rfl,rfl⟩:=hry;refine hq _ (run_equalIn_string w 9998 f.type _ _ hu) ?_;rw[ByteArray.toList_eq,ByteArray.toList_eq];exact he
theorem ok_eqA{neg:Bool}{op:BinOp}{t:TypeId}{fs:Array Field}{ks:List FK}{ox oy:Operand}{xs ys:List AV}{a b:Value}{r:Bool}(h:R kf kt w0 fm S w)(ht:P.underlying t=some (.struct fs))
  (hk:za8 P t fs=some ks) (hop:op=if neg then .neq else .eql) (ha:VR kf fm (.agg xs) a) (hb:VR kf fm (.agg ys) b) (hr:zRq9 ks xs ys=some r) :
  Ok1 kf kt w0 fm w P (do eqGuard op t ox oy a b;Go.binOp op t a b) (.bool (r != neg)) S:=by
 unfold za8 at hk;split at hk
 ·rename_i hc;obtain⟨h1,h2,h3⟩:=hc;simp only[VR] at ha hb;obtain⟨wx,rfl,_,hx⟩:=ha;obtain⟨wy,rfl,_,hy⟩:=hb;have hf:P.fieldsOf t=fs:=by simp[Program.fieldsOf,ht]
  have he:(Op.equalIn 10000 t (.agg wx) (.agg wy)).run P w = .ok r w:=by
   have:=run_equalIn_struct (P:=P) w 9999 t wx wy (by rw[hf];exact ht) h1
   rw[hf] at this;refine this.trans (zcK fs.toList ks xs ys 0 wx wy r hr hk (λj f hj=>?_) (by simpa using hx) (by simpa using hy));have hm:(fs.toList.map (·.offset))[j]?=some f.offset:=by rw[List.getElem?_map,hj];rfl
   rw[h3] at hm;have hlt:j<fs.size:=by have:=(List.getElem?_eq_some_iff.1 hj).1;simpa using this
   rw[List.getElem?_range hlt] at hm;cases hm;omega
  have hgu:=run_eqGuard_agg (P:=P) w op t ox oy wx wy h2;subst hop;refine Ok1.bool h ?_;simp only[Sem.run_bind,hgu,Result.andThen_ok];cases neg
  ·have:=run_eql_struct (P:=P) w t wx wy
   rw[he] at this;simpa using this
  ·have:=run_neq_struct (P:=P) w t wx wy
   rw[he] at this;simpa using this
 ·cases hk
end
end Am
end
section
namespace Am
open Go Go.RowKit
section
variable {kf kt:Nat->Nat} {w0:Base} {fm:FM} {S:St} {w:World} {P:Program}
structure EnvR (kf:Nat->Nat) (fm:FM) (e:Env) (tmps:Array Value):Prop where
 len:e.length=tmps.size
 rel:∀i:Nat,VR kf fm (e.getD i (.tup [])) (tmps.getD i undef)
theorem zO:VR kf fm (.tup []) undef:=by simp only[VR];exact⟨#[],rfl,by simp[VRs]⟩
theorem EnvR.mono{ext:FM}{e:Env}{tmps:Array Value}(h:EnvR kf fm e tmps):EnvR kf (fm++ext) e tmps:=⟨h.len,λi=>(h.rel i).mono⟩
theorem EnvR.set{e:Env}{tmps:Array Value}(h:EnvR kf fm e tmps)(d:Nat){v:AV}{u:Value}(hv:VR kf fm v u):EnvR kf fm (e.set d v) (tmps.setIfInBounds d u):=by
 refine⟨by simp[h.len],λi=>?_⟩;have hl:=h.len;have hi:=h.rel i;simp only[List.getD_eq_getElem?_getD,Array.getD_eq_getD_getElem?] at hi ⊢;rw[List.getElem?_set,Array.getElem?_setIfInBounds]
 by_cases hd:d=i
 ·subst hd
  by_cases hlt:d<e.length
  ·simp[hlt,hl ▸ hlt,hv]
  ·have:¬ d<tmps.size:=by omega
   simp[hlt,this];exact zO
 ·simp[hd,hi]
theorem EnvR.put{e:Env}{a:Act}(h:EnvR kf fm e a.tmps)(d:Option Nat){v:AV}{u:Value}(hv:VR kf fm v u):EnvR kf fm (setD e d v) (a.put d u).tmps:=by
 cases d with
 | none=>exact h
 | some d=>exact h.set d hv
theorem cv_rel{x:Operand}{p:Opd}{e:Env}{a:Act}(h:cv kf x=some p)(he:EnvR kf fm e a.tmps):VR kf fm (p.ev e) (a.eval x):=by
 cases x with
 | tmp t=>simp[cv] at h;subst h;exact he.rel t
 | const v=>
  simp only[cv] at h;cases hv:toAV kf v with
  | none=>simp[hv] at h
  | some u=>simp[hv] at h;subst h;exact toAV_rel hv
 | global g=>simp[cv] at h
 | func f=>simp[cv] at h;subst h;simp only[Opd.ev,VR];exact⟨f,#[],rfl,rfl,by simp[VRs]⟩
theorem zhj{e:Env}{a:Act}(he:EnvR kf fm e a.tmps):∀{xs:List Operand} {ps:List Opd},mapO (cv kf) xs=some ps->VRs kf fm (ps.map (·.ev e)) (xs.map a.eval)
 | [],ps,h=>by simp[mapO] at h;subst h;simp[VRs]
 | x::xs,ps,h=>by
  simp only[mapO] at h;cases hx:cv kf x with
  | none=>simp[hx] at h
  | some p=>
   cases hs:mapO (cv kf) xs with
   | none=>simp[hx,hs] at h
   | some ps'=>
    simp[hx,hs] at h;subst h;simp only[List.map_cons,VRs];exact⟨_,_,rfl,cv_rel hx he,zhj he hs⟩
theorem inv0{vs:List AV}(h:VRs kf fm vs []):vs=[]:=List.eq_nil_of_length_eq_zero (by have:=h.length;simpa using this.symm)
theorem inv1{vs:List AV}{a:Value}(h:VRs kf fm vs [a]):∃x,vs=[x]/\VR kf fm x a:=by
 cases vs with
 | nil=>simp[VRs] at h
 | cons x vs=>simp only[VRs] at h;obtain⟨u,us,he,h1,h2⟩:=h;cases he;exact⟨x,by rw[inv0 h2],h1⟩
theorem invc{vs:List AV}{a:Value}{as:List Value}(h:VRs kf fm vs (a::as)):∃x xs,vs=x::xs/\VR kf fm x a/\VRs kf fm xs as:=by
 cases vs with
 | nil=>simp[VRs] at h
 | cons x vs=>simp only[VRs] at h;obtain⟨u,us,he,h1,h2⟩:=h;cases he;exact⟨x,vs,rfl,h1,h2⟩
theorem inv2{vs:List AV}{a b:Value}(h:VRs kf fm vs [a,b]):∃x y,vs=[x,y]/\VR kf fm x a/\VR kf fm y b:=by
 obtain⟨x,xs,rfl,h1,h2⟩:=invc h;obtain⟨y,rfl,h3⟩:=inv1 h2;exact⟨x,y,rfl,h1,h3⟩
theorem inv3{vs:List AV}{a b c:Value}(h:VRs kf fm vs [a,b,c]):∃x y z,vs=[x,y,z]/\VR kf fm x a/\VR kf fm y b/\VR kf fm z c:=by
 obtain⟨x,xs,rfl,h1,h2⟩:=invc h;obtain⟨y,z,rfl,h3,h4⟩:=inv2 h2;exact⟨x,y,z,rfl,h1,h3,h4⟩
def Done(kf kt:Nat->Nat)(w0:Base)(fm:FM)(w:World)(P:Program)(s:Sem Next)(v:AV)(S':St):Prop :=
 ∃ext u w',(s.run P w = .ok (.value u) w'\/(s.run P w = .ok .skip w'/\u=undef))/\R kf kt w0 (fm++ext) S' w'/\VR kf (fm++ext) v u
theorem Ok1.done{s:Sem Value}{v:AV}{S':St}(h:Ok1 kf kt w0 fm w P s v S'):Done kf kt w0 fm w P (do pure (.value (← s))) v S':=by
 obtain⟨ext,u,w',hr,h1,h2⟩:=h;exact⟨ext,u,w',.inl (by simp[hr]),h1,h2⟩
theorem zbN(lo hi mx:Option Operand)(ρ:Operand->Value):(zcz lo hi mx).map ρ=(lo.map ρ).toList++(hi.map ρ).toList++(mx.map ρ).toList:=by
 cases lo<;>cases hi<;>cases mx<;>rfl
abbrev zda:OpK->Prop
 | .call _|.callv|.bad|.eqP _|.idP|.lenM|.rngS|.nxtS=>False
 | _=>True
variable {call:AV->List AV->St->Option (AV × St)}
theorem zes{ρ:Operand->Value}{dst:Option Tmp}{b:Builtin}{args:Array Operand}{ts:Array TypeId}{ty:TypeId}{pos:String}{after:Array Edge}{guard:Option (Nat × Bool)} :
  execOp ρ { dst,op:=.call ⟨.builtin b,args,ts⟩,type:=ty,pos,after,guard }=builtin b ts ty (args.map fun|.const _=>true|_=>false) (args.map ρ):=rfl
theorem zeq{b:Builtin}{args:Array Operand}{ts:Array TypeId}{ty:TypeId}{dst:Option Tmp}{pos:String}{after:Array Edge}{guard:Option (Nat × Bool)}
  {k:OpK} {xs:List Operand} {vs:List AV} {v:AV} {S':St} {ρ:Operand->Value} (hR:R kf kt w0 fm S w) (hk:zaB P kf kt b ts args.toList=some (k,xs))
  (hv:VRs kf fm vs (xs.map ρ)) (ha:ap call k vs S=some (v,S')):Done kf kt w0 fm w P (execOp ρ { dst,op:=.call ⟨.builtin b,args,ts⟩,type:=ty,pos,after,guard }) v S':=by
 rw[zes];generalize hcs:(args.map fun|.const _=>true|_=>false)=consts;clear hcs;unfold zaB at hk;split at hk<;>(try (cases hk;done))<;>rename_i harg
 ·-- len
  obtain⟨args⟩:=args;simp only at harg;subst harg;simp only[List.map_toArray,List.map_cons,List.map_nil];rename_i x;cases h0:ts[0]? with
  | none=>simp[h0] at hk
  | some t=>
   simp only[h0,Option.bind_some] at hk;split at hk<;>(try (cases hk;done))<;>rename_i hu<;>cases hk<;>obtain⟨y1,rfl,h1⟩:=inv1 hv
   ·cases y1<;>(try (simp[ap] at ha;done))<;>simp only[ap] at ha<;>cases ha
    exact (ok_lenS (P:=P) (ty:=ty) hR h0 hu h1).done
   ·cases y1<;>(try (simp[ap] at ha;done))<;>simp only[ap] at ha<;>cases ha
    ·exact (ok_lenL (P:=P) (ty:=ty) hR h0 hu h1).done
    ·exact (zgN (P:=P) (ty:=ty) hR h0 hu h1).done
   ·simp only[ap] at ha;cases ha;exact (ok_lenC (P:=P) (ty:=ty) hR h0 hu).done
 ·-- cap
  obtain⟨args⟩:=args;simp only at harg;subst harg;simp only[List.map_toArray,List.map_cons,List.map_nil];cases h0:ts[0]? with
  | none=>simp[h0] at hk
  | some t=>
   simp only[h0,Option.bind_some] at hk;split at hk<;>(try (cases hk;done))<;>rename_i hu<;>cases hk<;>obtain⟨y1,rfl,h1⟩:=inv1 hv
   cases y1<;>(try (simp[ap] at ha;done))
   ·rename_i g;cases g<;>(try (simp[ap] at ha;done))<;>simp only[ap] at ha<;>cases ha
    exact (ok_capL (P:=P) (ty:=ty) hR h0 hu h1).done
   ·simp only[ap] at ha;cases ha;exact (zgP (P:=P) (ty:=ty) hR h0 hu h1).done
 ·-- append
  obtain⟨args⟩:=args;simp only at harg;subst harg;simp only[List.map_toArray,List.map_cons,List.map_nil];cases h0:ts[0]? with
  | none=>simp[h0] at hk
  | some t=>
   cases h1':ts[1]? with
   | none=>simp[h0,h1'] at hk
   | some t1=>
    simp only[h0,h1',Option.bind_some] at hk;split at hk<;>(try (cases hk;done))
    rename_i e d hu hu1;cases hi:P.info? e with
    | none=>simp[hi] at hk
    | some i=>
     cases hz:zaH P kf e with
     | none=>simp[hz] at hk
     | some z=>
      simp only[hi,hz,Option.bind_some] at hk;split at hk
      ·cases hk
      ·rename_i hsb;have hsz:i.size≠0:=λh=>hsb (.inl h)
       have hby:i.bytes≠0:=λh=>hsb (.inr h)
       split at hk
       ·cases hk;obtain⟨y1,z1,rfl,h2,h3⟩:=inv2 hv;simp only[ap] at ha;cases hn:zu z1 with
        | none=>simp[hn] at ha
        | some n=>
         simp only[hn,Option.bind_some] at ha;split at ha
         ·rename_i hh;exact (ok_appz (P:=P) (ty:=ty) hR h0 h1' hu hu1 hi hz hsz h2 h3 hn hh.1 hh.2 ha).done
         ·cases ha
       ·rename_i hd;cases hk;obtain⟨y1,z1,rfl,h2,h3⟩:=inv2 hv;simp only[ap] at ha;cases hn:zaw z1 with
        | none=>simp[hn] at ha
        | some n=>
         cases hsrc:zW S i.size n z1 with
         | none=>simp[hn,hsrc] at ha
         | some new=>
          simp only[hn,hsrc,Option.bind_some] at ha;exact (ok_app (P:=P) (ty:=ty) hR h0 h1' hu hu1 (λk h=>hd k h) hi hz hsz hby h2 h3 hn hsrc ha).done
 ·-- copy
  obtain⟨args⟩:=args;simp only at harg;subst harg;simp only[List.map_toArray,List.map_cons,List.map_nil];cases h0:ts[0]? with
  | none=>simp[h0] at hk
  | some t=>
   simp only[h0,Option.bind_some] at hk;split at hk<;>(try (cases hk;done))
   rename_i e hu;cases hs:zx P e with
   | none=>simp[hs] at hk
   | some es=>
    simp[hs] at hk;obtain⟨rfl,rfl⟩:=hk;obtain⟨y1,z1,rfl,h2,h3⟩:=inv2 hv;simp only[ap] at ha;cases hdl:zaw y1 with
    | none=>simp[hdl] at ha
    | some dl=>
     cases hxl:zaw z1 with
     | none=>simp[hdl,hxl] at ha
     | some xl=>
      cases hsrc:zW S es (min xl dl) z1 with
      | none=>simp[hdl,hxl,hsrc] at ha
      | some cs=>
       simp only[hdl,hxl,hsrc,Option.bind_some] at ha;exact (ok_cpy (P:=P) (ty:=ty) hR h0 hu hs h2 h3 hdl hxl hsrc ha).done
 ·-- min
  obtain⟨args⟩:=args;simp only at harg;subst harg;simp only[List.map_toArray,List.map_cons,List.map_nil];cases hk;obtain⟨y1,z1,rfl,h2,h3⟩:=inv2 hv;cases y1<;>(try (simp[ap] at ha;done))<;>cases z1<;>(try (simp[ap] at ha;done))
  simp only[ap] at ha;split at ha<;>cases ha
  rename_i hkk;subst hkk;exact (ok_minI (P:=P) (ty:=ty) hR h2 h3).done
 ·-- max
  obtain⟨args⟩:=args;simp only at harg;subst harg;simp only[List.map_toArray,List.map_cons,List.map_nil];cases hk;obtain⟨y1,z1,rfl,h2,h3⟩:=inv2 hv;cases y1<;>(try (simp[ap] at ha;done))<;>cases z1<;>(try (simp[ap] at ha;done))
  simp only[ap] at ha;split at ha<;>cases ha
  rename_i hkk;subst hkk;exact (ok_maxI (P:=P) (ty:=ty) hR h2 h3).done
end
end Am
end
section
namespace Am
open Go Go.RowKit
section
variable {kf kt:Nat->Nat} {w0:Base} {fm:FM} {S:St} {w:World} {P:Program}
variable {call:AV->List AV->St->Option (AV × St)}
set_option maxHeartbeats 1000000 in
theorem sim_op{o:Oper}{k:OpK}{xs:List Operand}{vs:List AV}{v:AV}{S':St}{ρ:Operand->Value}(hR:R kf kt w0 fm S w)(hk:ze1 P kf kt o.op=some (k,xs))(hc:zda k)
  (hv:VRs kf fm vs (xs.map ρ)) (hconst:∀c,ρ (.const c)=c) (ha:ap call k vs S=some (v,S')):Done kf kt w0 fm w P (execOp ρ o) v S':=by
 obtain⟨dst,op,type,pos,after,guard⟩:=o;cases op<;>simp only[ze1] at hk
 case move x=>
  cases hk;obtain⟨x',rfl,h1⟩:=inv1 hv;simp only[ap] at ha;cases ha;exact⟨[],ρ x,w,.inl rfl,by simpa using hR,by simpa using h1⟩
 case assign x=>
  cases hk;obtain⟨x',rfl,h1⟩:=inv1 hv;simp only[ap] at ha;cases ha;exact⟨[],ρ x,w,.inl rfl,by simpa using hR,by simpa using h1⟩
 case pick c a b=>
  cases hk;obtain⟨x,y,z,rfl,h1,h2,h3⟩:=inv3 hv;cases x<;>(try (simp[ap] at ha;done))
  simp only[ap] at ha;cases ha;obtain⟨ext,u,w',hr,h4,h5⟩:=ok_pick (P:=P) hR h1 h2 h3;refine⟨ext,u,w',.inl ?_,h4,h5⟩;simp only[execOp];simp only[Sem.run_bind,Sem.run_pure] at hr ⊢
  revert hr
  cases h:(asBool (ρ c)).run P w<;>simp
 case alloc e=>
  cases hz:zaH P kf e with
  | none=>simp[hz] at hk
  | some z=>
   simp[hz] at hk;obtain⟨rfl,rfl⟩:=hk;obtain rfl:=inv0 hv;simp only[ap] at ha;cases ha;exact (ok_alloc hR hz).done
 case box e x=>
  cases hk;obtain⟨x',rfl,h1⟩:=inv1 hv;simp only[ap] at ha;cases hf:x'.flat with
  | none=>simp[hf] at ha
  | some cs=>simp[hf] at ha;obtain⟨rfl,rfl⟩:=ha;exact (ok_box hR h1 hf).done
 case build t parts=>
  split at hk
  ·rename_i fs hu;cases hz:zaH P kf t with
   | none=>simp[hz] at hk
   | some z=>
    cases hp:zfi P fs with
    | none=>simp[hz,hp] at hk
    | some pl=>
     cases hm:mapO (λ(p:Nat × Operand)=>pl[p.1]?) parts.toList with
     | none=>simp[hz,hp,hm] at hk
     | some l=>
      simp[hz,hp,hm] at hk;obtain⟨rfl,rfl⟩:=hk;simp only[ap] at ha;cases hf:fill l vs z with
      | none=>simp[hf] at ha
      | some cs=>
       simp[hf] at ha;obtain⟨rfl,rfl⟩:=ha;have hmm:=zdW hm;exact (zgQ (parts:=parts.map λ(i,x)=>(i,ρ x)) hR hu hz hp (by rw[<- hmm];simp[Function.comp_def]) (by simpa [Function.comp_def] using hv) hf).done
  ·rename_i m e hu;cases hz:zaH P kf t with
   | none=>simp[hz] at hk
   | some z=>
    cases hn:zx P e with
    | none=>simp[hz,hn] at hk
    | some n=>
     simp[hz,hn] at hk;obtain⟨rfl,rfl⟩:=hk;simp only[ap] at ha;cases hf:fill (parts.toList.map λp=>(p.1*n,n)) vs z with
     | none=>simp[hf] at ha
     | some cs=>
      simp[hf] at ha;obtain⟨rfl,rfl⟩:=ha;exact (zgR (parts:=parts.map λ(i,x)=>(i,ρ x)) hR hu hz hn (by simp[Function.comp_def]) (by simpa [Function.comp_def] using hv) hf).done
  ·cases hk
 case buildSlice t len parts=>
  split at hk
  ·rename_i e hu;cases hz:zaH P kf e with
   | none=>simp[hz] at hk
   | some z=>
    simp only[hz,Option.bind_some] at hk;split at hk
    ·cases hk
    ·rename_i hbig;cases hk;simp only[ap] at ha;cases hf:fill (parts.toList.map λp=>(p.1*z.length,z.length)) vs (rep len z) with
     | none=>simp[hf] at ha
     | some cs=>
      simp[hf] at ha;obtain⟨rfl,rfl⟩:=ha;exact (zgS (parts:=parts.map λ(i,x)=>(i,ρ x)) hR hu hz hbig (by simp[Function.comp_def]) (by simpa [Function.comp_def] using hv) hf).done
  ·cases hk
 case load t a=>
  split at hk
  ·rename_i ht;cases hn:zx P t with
   | none=>simp[hn] at hk
   | some n=>
    simp[hn] at hk;obtain⟨rfl,rfl⟩:=hk;obtain⟨x,rfl,h1⟩:=inv1 hv;cases x<;>(try (simp[ap] at ha;done))
    simp only[ap] at ha;rename_i b o;cases hl:S.loadN b o n with
    | none=>simp[hl] at ha
    | some us=>simp[hl] at ha;obtain⟨rfl,rfl⟩:=ha;exact (ok_loadN hR ht hn h1 hl).done
  ·rename_i ht;cases hk;obtain⟨x,rfl,h1⟩:=inv1 hv;cases x<;>(try (simp[ap] at ha;done))
   simp only[ap] at ha;rename_i b o;cases hl:S.load1 b o with
   | none=>simp[hl] at ha
   | some us=>simp[hl] at ha;obtain⟨rfl,rfl⟩:=ha;exact (ok_load1 hR ht h1 hl).done
  ·cases hk
 case store t a x=>
  cases hn:zx P t with
  | none=>simp[hn] at hk
  | some n=>
   simp[hn] at hk;obtain⟨rfl,rfl⟩:=hk;obtain⟨y,z,rfl,h1,h2⟩:=inv2 hv;cases y<;>(try (simp[ap] at ha;done))
   simp only[ap] at ha;rename_i b o;cases hf:z.flat with
   | none=>simp[hf] at ha
   | some us=>
    simp only[hf,Option.bind_some] at ha;split at ha
    ·rename_i hl;cases hs:S.storeN b o us with
     | none=>simp[hs] at ha
     | some S1=>
      simp[hs] at ha;obtain⟨rfl,rfl⟩:=ha;obtain⟨w',hr,h'⟩:=ok_store (P:=P) hR hn h1 h2 hf hl hs;exact⟨[],undef,w',.inr ⟨by simp[execOp,hr],rfl⟩,by simpa using h',by simpa using zO⟩
    ·cases ha
 case makeMap t r=>
  cases r with
  | some r=>simp at hk
  | none=>
   simp only at hk;split at hk
   ·cases hk;obtain rfl:=inv0 hv;simp only[ap] at ha;cases ha;exact (ok_mkmap (P:=P) hR).done
   ·cases hk
 case lookup t x i ok=>
  split at hk
  ·rename_i hm;cases hz:zero1 P kf t with
   | none=>simp[hz] at hk
   | some z=>
    simp[hz] at hk;obtain⟨rfl,rfl⟩:=hk;obtain⟨y1,z1,rfl,h1,h2⟩:=inv2 hv;obtain⟨mk,me,hu,hk1⟩:=zcF hm;obtain⟨zv,hz1,hz2,_⟩:=zfK (fm:=fm) hu hz;cases y1<;>(try (simp[ap] at ha;done))<;>cases z1<;>(try (simp[ap] at ha;done))
    ·rename_i b s;simp only[ap] at ha;split at ha
     ·rename_i es c hb;have:=(zgM (P:=P) (ok:=ok) hR hu hk1 hz1 hz2 hb h1 h2).done
      split at ha<;>rename_i hf<;>cases ha<;>rw[hf] at this<;>exact this
     ·cases ha
    ·simp only[ap] at ha;cases ha;exact (zdQ (P:=P) (ok:=ok) hR hu hk1 hz1 hz2 h1 h2).done
  ·cases hk
 case mapUpdate t m kk x=>
  split at hk
  ·rename_i hm;cases hk;obtain⟨y1,z1,v1,rfl,h1,h2,h3⟩:=inv3 hv;obtain⟨mk,me,hu,hk1⟩:=zcF hm;cases y1<;>(try (simp[ap] at ha;done))<;>cases z1<;>(try (simp[ap] at ha;done))
   rename_i b s;simp only[ap] at ha;split at ha
   ·rename_i hsc;split at ha
    ·rename_i es c hb;cases ha;obtain⟨w',hr,h'⟩:=zgL (P:=P) (c':=c) hR hu hk1 hb h1 h2 h3 hsc;exact⟨[],undef,w',.inr ⟨by simp[execOp,hr],rfl⟩,by simpa using h',by simpa using zO⟩
    ·cases ha
   ·cases ha
  ·cases hk
 case nilCheck x=>
  cases hk;obtain⟨y,rfl,h1⟩:=inv1 hv;cases y<;>(try (simp[ap] at ha;done))<;>simp only[ap] at ha<;>cases ha
  ·exact⟨[],ρ x,w,.inl (zby h1 (.inl ⟨_,_,rfl⟩) ρ x rfl _ _ _ _ _),by simpa using hR,by simpa using h1⟩
  ·exact⟨[],ρ x,w,.inl (zby h1 (.inr (.inl ⟨_,_,rfl⟩)) ρ x rfl _ _ _ _ _),by simpa using hR,by simpa using h1⟩
  ·exact⟨[],ρ x,w,.inl (zby h1 (.inr (.inr ⟨_,rfl⟩)) ρ x rfl _ _ _ _ _),by simpa using hR,by simpa using h1⟩
 case binOp op t x y yt=>
  unfold zdt at hk;split at hk
  ·cases hk;obtain⟨y1,z1,rfl,h1,h2⟩:=inv2 hv;cases y1<;>(try (simp[ap] at ha;done))
   cases z1<;>(try (simp[ap] at ha;done))
   simp only[ap] at ha;rename_i k1 n1 k2 n2;split at ha
   ·rename_i hkk;cases hb:binI op k1 n1 n2 with
    | none=>simp[hb] at ha
    | some r=>simp[hb] at ha;obtain⟨rfl,rfl⟩:=ha;exact (ok_binI (ox:=x) (oy:=y) (t:=t) hR h1 h2 hkk hb).done
   ·cases ha
  ·cases hk;obtain⟨y1,z1,rfl,h1,h2⟩:=inv2 hv;cases y1<;>(try (simp[ap] at ha;done))
   cases z1<;>(try (simp[ap] at ha;done))
   simp only[ap] at ha;rename_i s1 s2;cases hb:binS op s1 s2 with
   | none=>simp[hb] at ha
   | some r=>simp[hb] at ha;obtain⟨rfl,rfl⟩:=ha;exact (ok_binS (ox:=x) (oy:=y) (t:=t) hR h1 h2 hb).done
  ·rename_i hu;split at hk<;>(try (cases hk;done))<;>cases hk<;>obtain⟨y1,z1,rfl,h1,h2⟩:=inv2 hv<;>cases y1<;>(try (simp[ap] at ha;done))<;>cases z1<;>(try (simp[ap] at ha;done))<;>simp only[ap] at ha<;>cases ha
   ·exact (ok_eqB (neg:=false) (ox:=x) (oy:=y) hR hu rfl h1 h2).done
   ·exact (ok_eqB (neg:=true) (ox:=x) (oy:=y) hR hu rfl h1 h2).done
  ·rename_i fs hu;cases hp:za8 P t fs with
   | none=>simp[hp] at hk
   | some ks=>
    simp only[hp,Option.bind_some] at hk;split at hk<;>(try (cases hk;done))<;>cases hk<;>obtain⟨y1,z1,rfl,h1,h2⟩:=inv2 hv<;>cases y1<;>(try (simp[ap] at ha;done))<;>cases z1<;>(try (simp[ap] at ha;done))<;>simp only[ap] at ha <;>
     rename_i as bs<;>cases hr:zRq9 ks as bs<;>simp[hr] at ha<;>obtain⟨rfl,rfl⟩:=ha
    ·have h9:=(ok_eqA (neg:=false) (ox:=x) (oy:=y) hR hu hp rfl h1 h2 hr).done;rw[Bool.bne_false] at h9;exact h9
    ·have h9:=(ok_eqA (neg:=true) (ox:=x) (oy:=y) hR hu hp rfl h1 h2 hr).done;rw[Bool.bne_true] at h9;exact h9
  ·rename_i d _ _ _ _ hu;have hcy:∀c,zbb d y=some c->∃cv,y = .const cv:=by
    intro c hn;unfold zbb at hn;split at hn<;>first|exact⟨_,rfl⟩|cases hn
   split at hk<;>(try (cases hk;done))<;>rename_i hn<;>cases hk<;>obtain⟨y1,rfl,h1⟩:=inv1 hv<;>simp only[ap] at ha<;>obtain⟨cv,rfl⟩:=hcy _ hn<;>rename_i c<;>cases hr:zdT c y1<;>simp[hr] at ha<;>obtain⟨rfl,rfl⟩:=ha
   ·have h9:=(zfk (neg:=false) (ox:=x) (b:=ρ (.const cv)) hR hu hn (by rw[hconst]) rfl h1 hr).done;rw[Bool.bne_false] at h9;exact h9
   ·have h9:=(zfk (neg:=true) (ox:=x) (b:=ρ (.const cv)) hR hu hn (by rw[hconst]) rfl h1 hr).done;rw[Bool.bne_true] at h9;exact h9
  ·cases hk
 case unOp op t x=>
  split at hk<;>(try (cases hk;done))<;>cases hk<;>obtain⟨y1,rfl,h1⟩:=inv1 hv<;>cases y1<;>(try (simp[ap] at ha;done))<;>simp only[ap] at ha<;>cases ha
  ·exact (ok_notB hR h1).done
  ·exact (ok_negI hR h1).done
  ·exact (ok_xorI hR h1).done
 case convert src dst' x=>
  unfold zco at hk;split at hk
  ·rename_i hs hd;cases hk;obtain⟨y1,rfl,h1⟩:=inv1 hv;cases y1<;>(try (simp[ap] at ha;done))<;>simp only[ap] at ha<;>cases ha
   exact (ok_conv hR hs hd h1).done
  ·rename_i hs hd;cases hk;obtain⟨y1,rfl,h1⟩:=inv1 hv;cases y1<;>(try (simp[ap] at ha;done))<;>simp only[ap] at ha<;>cases ha
   exact (ok_idS hR hs hd h1).done
  ·rename_i e hs hd;split at hk<;>(try (cases hk;done))
   rename_i he;cases hk;obtain⟨y1,rfl,h1⟩:=inv1 hv;cases y1<;>(try (simp[ap] at ha;done))<;>simp only[ap] at ha
   ·rename_i b o len cap g;cases hl:S.loadN b o len with
    | none=>simp[hl] at ha
    | some cs=>
     simp only[hl,Option.bind_some] at ha;cases hb:zah cs with
     | none=>simp[hb] at ha
     | some s=>simp[hb] at ha;obtain⟨rfl,rfl⟩:=ha;exact (ok_b2s hR hs he hd h1 hl hb).done
   ·cases ha;exact (zgT hR hs he hd h1).done
  ·rename_i e hs hd;split at hk<;>(try (cases hk;done))
   rename_i he;cases hk;obtain⟨y1,rfl,h1⟩:=inv1 hv;cases y1<;>(try (simp[ap] at ha;done))<;>simp only[ap] at ha<;>cases ha
   exact (ok_s2b hR hs hd he h1).done
  ·cases hk
 case makeInterface t x=>
  split at hk
  ·cases hk
  ·rename_i d _ hu;cases hk;obtain⟨y1,rfl,h1⟩:=inv1 hv;simp only[ap] at ha;cases ha;exact (ok_mkifc hR hu (by intro ms h;subst h;simp_all) h1).done
  ·cases hk
 case makeFunc fn first caps=>
  cases fn<;>simp only at hk<;>(try (cases hk;done))
  split at hk
  ·rename_i hz;cases hk;simp only[ap] at ha;cases ha;have he:first=#[]:=Array.eq_empty_of_size_eq_zero hz
   subst he;have:=(ok_mkfn (P:=P) (f:=‹FuncId›) (caps:=caps.map ρ) hR (by simpa using hv)).done
   simpa [execOp] using this
  ·cases hk
 case makeSlice t l c=>
  split at hk
  ·rename_i e hu;cases hi:P.info? e with
   | none=>simp[hi] at hk
   | some i=>
    cases hz:zaH P kf e with
    | none=>simp[hz] at hk
    | some z=>
     simp[hi,hz] at hk;obtain⟨rfl,rfl⟩:=hk;obtain⟨y1,z1,rfl,h1,h2⟩:=inv2 hv;simp only[ap] at ha;cases hl:zu y1 with
     | none=>simp[hl] at ha
     | some nl=>
      cases hc':zu z1 with
      | none=>simp[hl,hc'] at ha
      | some nc=>
       simp only[hl,hc',Option.bind_some] at ha;split at ha
       ·rename_i hh;cases ha;exact (zf7 hR hu hi hz h1 h2 hl hc' hh.1 hh.2.1 hh.2.2).done
       ·cases ha
  ·cases hk
 case slice t x lo hi mx=>
  split at hk
  ·rename_i hu;split at hk
   ·cases hk
   ·rename_i hmx;have hmx':mx=none:=by cases mx<;>simp_all
    subst hmx';cases hk;rw[List.map_cons,zbN] at hv;obtain⟨y1,as,rfl,h1,h2⟩:=invc hv;cases y1<;>(try (simp[ap] at ha;done))
    simp only[ap] at ha;rename_i s;cases hb:zZ lo.isSome hi.isSome false as s.length s.length with
    | none=>simp[hb] at ha
    | some r=>
     obtain⟨l,h,m⟩:=r;simp[hb] at ha;obtain⟨rfl,rfl⟩:=ha;have:=(ok_slS (vlo:=lo.map ρ) (vhi:=hi.map ρ) hR hu h1 hb (by simpa using h2) (by simp) (by simp)).done
     simpa [execOp] using this
  ·rename_i e hu;cases hs:zx P e with
   | none=>simp[hs] at hk
   | some es=>
    simp[hs] at hk;obtain⟨rfl,rfl⟩:=hk;rw[List.map_cons,zbN] at hv;obtain⟨y1,as,rfl,h1,h2⟩:=invc hv;cases y1<;>(try (simp[ap] at ha;done))
    ·rename_i b o len cap g;simp only[ap] at ha;split at ha
     ·rename_i hg;cases hb:zZ lo.isSome hi.isSome mx.isSome as len cap with
      | none=>simp[hb] at ha
      | some r=>
       obtain⟨l,h,m⟩:=r;simp only[hb,Option.map_some,Option.some.injEq,Prod.mk.injEq] at ha;obtain⟨rfl,rfl⟩:=ha;exact (ok_slL hR hu hs h1 hb h2 (by simp) (by simp) (by simp) hg).done
     ·cases ha
    ·simp only[ap] at ha;cases hb:zZ lo.isSome hi.isSome mx.isSome as 0 0 with
     | none=>simp[hb] at ha
     | some r=>
      obtain⟨l,h,m⟩:=r;simp[hb] at ha;obtain⟨rfl,rfl⟩:=ha;exact (ok_slNil hR hu hs h1 hb h2 (by simp) (by simp) (by simp)).done
  ·rename_i n e hu;cases hs:zx P e with
   | none=>simp[hs] at hk
   | some es=>
    simp[hs] at hk;obtain⟨rfl,rfl⟩:=hk;rw[List.map_cons,zbN] at hv;obtain⟨y1,as,rfl,h1,h2⟩:=invc hv;cases y1<;>(try (simp[ap] at ha;done))
    simp only[ap] at ha;cases hb:zZ lo.isSome hi.isSome mx.isSome as n n with
    | none=>simp[hb] at ha
    | some r=>
     obtain⟨l,h,m⟩:=r;simp only[hb,Option.map_some,Option.some.injEq,Prod.mk.injEq] at ha;obtain⟨rfl,rfl⟩:=ha;exact (ok_slA hR hu hs h1 hb h2 (by simp) (by simp) (by simp)).done
  ·rename_i a hu;split at hk<;>(try (cases hk;done))
   rename_i n e hu2;cases hs:zx P e with
   | none=>simp[hs] at hk
   | some es=>
    simp[hs] at hk;obtain⟨rfl,rfl⟩:=hk;rw[List.map_cons,zbN] at hv;obtain⟨y1,as,rfl,h1,h2⟩:=invc hv;cases y1<;>(try (simp[ap] at ha;done))
    simp only[ap] at ha;cases hb:zZ lo.isSome hi.isSome mx.isSome as n n with
    | none=>simp[hb] at ha
    | some r=>
     obtain⟨l,h,m⟩:=r;simp only[hb,Option.map_some,Option.some.injEq,Prod.mk.injEq] at ha;obtain⟨rfl,rfl⟩:=ha;exact (ok_slP hR hu hu2 hs h1 hb h2 (by simp) (by simp) (by simp)).done
  ·cases hk
 case fieldAddr s x f=>
  split at hk<;>(try (cases hk;done))
  rename_i fs hu;split at hk<;>(try (cases hk;done))
  rename_i fd hf;split at hk<;>(try (cases hk;done))
  rename_i n hn;cases hk;obtain⟨y1,rfl,h1⟩:=inv1 hv;cases y1<;>(try (simp[ap] at ha;done))
  simp only[ap] at ha;cases ha;exact (ok_fadr hR hu hf hn h1).done
 case field t x f=>
  split at hk<;>(try (cases hk;done))
  rename_i fs hu;split at hk<;>(try (cases hk;done))
  rename_i fd hf;split at hk<;>(try (cases hk;done))
  ·rename_i hg;cases hn:zx P fd.type with
   | none=>simp[hn] at hk
   | some n=>
    simp[hn] at hk;obtain⟨rfl,rfl⟩:=hk;obtain⟨y1,rfl,h1⟩:=inv1 hv;cases y1<;>(try (simp[ap] at ha;done))
    simp only[ap] at ha;split at ha<;>cases ha
    exact (ok_fldN hR hu hf hg hn h1).done
  ·rename_i hg;cases hk;obtain⟨y1,rfl,h1⟩:=inv1 hv;cases y1<;>(try (simp[ap] at ha;done))
   simp only[ap] at ha;rename_i cs;cases hc':cs[fd.offset]? with
   | none=>simp[hc'] at ha
   | some c=>simp[hc'] at ha;obtain⟨rfl,rfl⟩:=ha;exact (ok_fld1 hR hu hf hg h1 hc').done
 case indexAddr t x i=>
  split at hk<;>(try (cases hk;done))
  ·rename_i e hu;cases hs:zx P e with
   | none=>simp[hs] at hk
   | some es=>
    simp[hs] at hk;obtain⟨rfl,rfl⟩:=hk;obtain⟨y1,z1,rfl,h1,h2⟩:=inv2 hv;cases y1<;>(try (simp[ap] at ha;done))
    simp only[ap] at ha;cases hn:zu z1 with
    | none=>simp[hn] at ha
    | some n=>
     simp only[hn,Option.bind_some] at ha;split at ha<;>cases ha
     rename_i hlt;exact (ok_iadr hR hu hs h1 h2 hn hlt).done
  ·rename_i m e hu;cases hs:zx P e with
   | none=>simp[hs] at hk
   | some es=>
    simp[hs] at hk;obtain⟨rfl,rfl⟩:=hk;obtain⟨y1,z1,rfl,h1,h2⟩:=inv2 hv;cases y1<;>(try (simp[ap] at ha;done))
    simp only[ap] at ha;cases hn:zu z1 with
    | none=>simp[hn] at ha
    | some n=>
     simp only[hn,Option.bind_some] at ha;split at ha<;>cases ha
     rename_i hlt;exact (ok_iadrA hR hu hs h1 h2 hn hlt).done
 case index t x i=>
  split at hk<;>(try (cases hk;done))
  ·rename_i hu;cases hk;obtain⟨y1,z1,rfl,h1,h2⟩:=inv2 hv;cases y1<;>(try (simp[ap] at ha;done))
   simp only[ap] at ha;rename_i s;cases hn:zu z1 with
   | none=>simp[hn] at ha
   | some n=>
    cases hc':s[n]? with
    | none=>simp[hn,hc'] at ha
    | some c=>simp[hn,hc'] at ha;obtain⟨rfl,rfl⟩:=ha;exact (ok_idxS hR hu h1 h2 hn hc').done
  ·rename_i m e hu;split at hk<;>(try (cases hk;done))
   ·rename_i hg;cases hs:zx P e with
    | none=>simp[hs] at hk
    | some es=>
     simp[hs] at hk;obtain⟨rfl,rfl⟩:=hk;obtain⟨y1,z1,rfl,h1,h2⟩:=inv2 hv;cases y1<;>(try (simp[ap] at ha;done))
     simp only[ap] at ha;cases hn:zu z1 with
     | none=>simp[hn] at ha
     | some n=>
      simp only[hn,Option.bind_some] at ha;split at ha<;>cases ha
      rename_i hlt;exact (ok_idxAN hR hu hg hs h1 h2 hn hlt.1).done
   ·rename_i hg;cases hs:zx P e with
    | none=>simp[hs] at hk
    | some es=>
     simp[hs] at hk;obtain⟨rfl,rfl⟩:=hk;obtain⟨y1,z1,rfl,h1,h2⟩:=inv2 hv;cases y1<;>(try (simp[ap] at ha;done))
     simp only[ap] at ha;rename_i cs;cases hn:zu z1 with
     | none=>simp[hn] at ha
     | some n=>
      simp only[hn,Option.bind_some] at ha;split at ha
      ·rename_i hlt;cases hc':cs[n*es]? with
       | none=>simp[hc'] at ha
       | some c=>simp[hc'] at ha;obtain⟨rfl,rfl⟩:=ha;exact (ok_idxA1 hR hu hg hs h1 h2 hn hlt hc').done
      ·cases ha
 case extract t i=>
  cases hk;obtain⟨y1,rfl,h1⟩:=inv1 hv;cases y1<;>(try (simp[ap] at ha;done))
  simp only[ap] at ha;rename_i cs;cases hc':cs[i]? with
  | none=>simp[hc'] at ha
  | some c=>simp[hc'] at ha;obtain⟨rfl,rfl⟩:=ha;exact (ok_ext hR h1 hc').done
 case call c=>
  obtain⟨callee,args,argTypes⟩:=c;cases callee with
  | invoke r m=>simp at hk
  | value f=>cases f<;>simp at hk<;>obtain⟨rfl,rfl⟩:=hk<;>exact hc.elim
  | builtin b=>exact zeq hR hk hv ha
 all_goals (cases hk)
end
end Am
end
section
namespace Am
open Go Go.RowKit
abbrev FR (r:Option Nat):Fence:={ fn:=λ_=>True,depth:=none,alive:=false,round:=r }
theorem zdu(r r':Option Nat){n:Nat}{P:Program}{f:FuncId}{args:Array Value}{w:World}{Q:Ending->World->Prop}(h:CallsIn (FR r) n P f args w Q):CallsIn (FR r') n P f args w Q:=h
section
variable {kf kt:Nat->Nat} {w0:Base} {fm:FM} {S:St} {w:World} {P:Program}
def zgh(kf kt:Nat->Nat)(w0:Base)(fm:FM)(v:AV)(S':St):Ending->World->Prop:=λe w'=>
 ∃ext u,e = .returned u/\R kf kt w0 (fm++ext) S' w'/\VR kf (fm++ext) v u
def zcc(P:Program)(f:FuncId):Prop:=∃fn,P.funcs[f]?=some fn/\fn.body.isSome=true/\(fn.name=="runtime.NumGoroutine")=false
structure CallOk (P:Program) (kf kt:Nat->Nat) (G:Base->Prop) (call:AV->List AV->St->Option (AV × St)):Prop where
 fn:∀(k:Nat) (cs vs:List AV) (S:St) (v:AV) (S':St),call (.fn k cs) vs S=some (v,S')->∀(w0:Base),G w0->∀(fm:FM) (w:World) (f:FuncId) (us:List Value),R kf kt w0 fm S w->kf f=k ->
  VRs kf fm (vs++cs) us->zcc P f/\CallsIn (FR none) 0 P f us.toArray w (zgh kf kt w0 fm v S')
 only:∀(g:AV) (vs:List AV) (S:St) (x:AV × St),call g vs S=some x->∀(w0:Base) (fm:FM) (w:World),R kf kt w0 fm S w->∃k cs,g = .fn k cs
theorem zb5{f:FuncId}(h:zcc P f)(args:Array Value):(callFunc f args).run P w = .ok (.enter f args) w:=by
 obtain⟨fn,h1,h2,h3⟩:=h;have hb:fn.body.isNone=false:=by cases hb:fn.body<;>simp_all
 simp only[callFunc,Sem.run_bind,run_program,Result.andThen_ok,h1,h3,hb];rfl
theorem zcW{ops:Array Oper}{o:Oper}{g:Option (Nat × Bool)}{e:Env}{tmps:Array Value}{b:Bool}(he:EnvR kf fm e tmps)(hg:zbn ops o.guard=some g)(hw:wanted e g=some b) :
  Region.wanted o (yielded ops tmps)=b:=by
 unfold Region.wanted;cases hgu:o.guard with
 | none=>
  rw[hgu] at hg;simp only[zbn] at hg;cases hg;simp only[wanted] at hw;cases hw;rfl
 | some jw=>
  obtain⟨j,want⟩:=jw;rw[hgu] at hg;simp only[zbn] at hg;split at hg
  ·rename_i t ht;cases hg;simp only[wanted] at hw;have hr:=he.rel t;simp only[yielded,ht,Option.bind_some];rw[Array.getD_eq_getD_getElem?] at hr;split at hw
   ·rename_i bb hbb;cases hw;rw[hbb] at hr;simp only[VR] at hr;cases hq:tmps[t]? with
    | none=>rw[hq] at hr;simp[undef] at hr
    | some x=>rw[hq] at hr;simp at hr;subst hr;rfl
   ·rename_i vs hbb;cases hw;rw[hbb] at hr;simp only[VR] at hr;obtain⟨ws,hr,_⟩:=hr;cases hq:tmps[t]? with
    | none=>rfl
    | some x=>rw[hq] at hr;simp at hr;subst hr;rfl
   ·cases hw
  ·cases hg
theorem zaM{b:Builtin}{ts:Array TypeId}{args xs:List Operand}{k:OpK}(h:zaB P kf kt b ts args=some (k,xs)):zda k:=by
 unfold zaB at h;split at h
 ·split at h<;>first|(cases h;done)|(cases h;trivial)
 ·split at h<;>first|(cases h;done)|(cases h;trivial)
 ·split at h
  ·simp only[Option.bind_eq_some_iff] at h;obtain⟨i,_,z,_,h⟩:=h;split at h
   ·cases h
   ·split at h<;>(cases h;trivial)
  ·cases h
 ·split at h
  ·simp only[Option.map_eq_some_iff] at h;obtain⟨_,_,h⟩:=h;cases h;trivial
  ·cases h
 ·cases h;trivial
 ·cases h;trivial
 ·cases h
theorem zbx{op:BinOp}{t:TypeId}{x y:Operand}{xs:List Operand}{k:OpK}(h:zdt P op t x y=some (k,xs)):zda k:=by
 unfold zdt at h;split at h
 ·cases h;trivial
 ·cases h;trivial
 ·split at h<;>first|(cases h;done)|(cases h;trivial)
 ·simp only[Option.bind_eq_some_iff] at h;obtain⟨_,_,h⟩:=h;split at h<;>first|(cases h;done)|(cases h;trivial)
 ·split at h<;>first|(cases h;done)|(cases h;trivial)
 ·cases h
theorem zbo{a b:TypeId}{x:Operand}{xs:List Operand}{k:OpK}(h:zco P kt a b x=some (k,xs)):zda k:=by
 unfold zco at h;split at h
 ·cases h;trivial
 ·cases h;trivial
 ·split at h<;>first|(cases h;done)|(cases h;trivial)
 ·split at h<;>first|(cases h;done)|(cases h;trivial)
 ·cases h
theorem ze0{op:Op}{xs:List Operand}{k:OpK}(h:ze1 P kf kt op=some (k,xs))(hc:¬ zda k) :
  ∃c f,op = .call c/\c.callee = .value f/\((∃g,f = .func g/\k = .call (kf g)/\xs=c.args.toList)\/(k = .callv/\xs=f::c.args.toList)):=by
 cases op<;>simp only[ze1] at h
 case call c=>
  split at h
  ·exact absurd (zaM h) hc
  ·rename_i g hg;cases h;exact⟨c,_,rfl,hg,.inl ⟨g,rfl,rfl,rfl⟩⟩
  ·rename_i f _ hg;cases h;exact⟨c,f,rfl,hg,.inr ⟨rfl,rfl⟩⟩
  ·cases h
 all_goals exfalso;apply hc
 all_goals first
  | (cases h;done)
  | (cases h;trivial)
  | exact zbx h
  | exact zbo h
  | skip
 all_goals repeat' split at h
 all_goals first
  | (cases h;done)
  | (cases h;trivial)
  | (simp only[Option.map_eq_some_iff] at h;obtain⟨_,_,h⟩:=h;cases h;trivial)
  | (simp only[Option.bind_eq_some_iff,Option.map_eq_some_iff] at h;obtain⟨_,_,_,_,h⟩:=h;cases h;trivial)
  | (simp only[Option.bind_eq_some_iff,Option.map_eq_some_iff] at h;obtain⟨_,_,_,_,_,_,h⟩:=h;cases h;trivial)
  | (simp only[Option.bind_eq_some_iff] at h;obtain⟨_,_,h⟩:=h;split at h<;>first|(cases h;done)|(cases h;trivial))
  | exact zbx h
  | exact zbo h
  | exact zaM h
theorem zcu{G:Base->Prop}{call:AV->List AV->St->Option (AV × St)}(hcall:CallOk P kf kt G call)(hG:G w0){ops:Array Oper}{o:Oper}{io:IOp}{e:Env}{a:Act}{v:AV}{S':St}{r:Option Nat}
  {K:Act->World->Prop} {Q:Exit->Act->World->Prop} (hcomp:zcb P kf kt ops o=some io) (he:EnvR kf fm e a.tmps) (hR:R kf kt w0 fm S w) (hx:exOp call io e S=some (v,S'))
  (hK:∀ext u w',R kf kt w0 (fm++ext) S' w'->VR kf (fm++ext) v u->K (a.put o.dst u) w') {i:Nat} (ho:ops[i]?=some o) :
  io.dst=o.dst/\wpOpIn (FR r) 0 P ops Q i K a w:=by
 unfold zcb at hcomp;cases hg:zbn ops o.guard with
 | none=>simp[hg] at hcomp
 | some g=>
  simp[hg] at hcomp;subst hcomp;refine⟨rfl,?_⟩;unfold exOp at hx;simp only at hx;unfold wpOpIn;simp only[ho];split at hx
  ·rename_i hw;rw[zcW he hg hw];simp only[if_true];cases hk:ze1 P kf kt o.op with
   | none=>simp[zed,hk,ap] at hx
   | some kx=>
    obtain⟨k,xs⟩:=kx;cases hxs:mapO (cv kf) xs with
    | none=>simp[zed,hk,hxs,ap] at hx
    | some args=>
     simp only[zed,hk,hxs] at hx;have hv:=zhj he hxs;have hnd:∀c,o.op ≠ .defer c:=by intro c hc;rw[hc] at hk;simp[ze1] at hk
     unfold Oper.wpIn;refine⟨λ_ _=>trivial,?_⟩;rw[Oper.semAt_eq _ _ _ hnd]
     by_cases hc:zda k
     ·obtain⟨ext,u,w',hr,h1,h2⟩:=sim_op (P:=P) (ρ:=a.eval) hR hk hc hv (λ_=>rfl) hx;rcases hr with hr|⟨hr,rfl⟩
      ·rw[hr];exact hK ext u w' h1 h2
      ·rw[hr];exact hK ext undef w' h1 h2
     ·have hcalls:∀(f:FuncId) (us:List Value),(execOp a.eval o).run P w = .ok (.enter f us.toArray) w->CallsIn (FR none) 0 P f us.toArray w (zgh kf kt w0 fm v S') ->
        o.uponIn (FR r) 0 P a K Q ((execOp a.eval o).run P w):=by
       intro f us hr hci;rw[hr];refine⟨λh=>by simp at h,zdu none r (CallsIn.mono hci λe w' he'=>?_)⟩;obtain⟨ext,u,rfl,h1,h2⟩:=he';exact hK ext u w' h1 h2
      obtain⟨c,f,hop,hcf,hcase⟩:=ze0 hk hc;obtain⟨dst,op,type,pos,after,guard⟩:=o;subst hop;obtain⟨callee,cargs,argTypes⟩:=c;simp only at hcf hcase;subst hcf;rcases hcase with⟨g',rfl,rfl,rfl⟩|⟨rfl,rfl⟩
      ·simp only[ap] at hx;obtain⟨hen,hci⟩:=hcall.fn _ _ _ _ _ _ hx w0 hG fm w g' _ hR rfl (by simpa using hv);have hm:(List.map a.eval cargs.toList).toArray=cargs.map a.eval:=by simp[<- Array.toList_map]
       refine hcalls g' _ ?_ hci;simp only[execOp,resolve,Act.eval,Deferred.ofValue];have:=zb5 (P:=P) (w:=w) hen (cargs.map a.eval)
       simp_all [invoke]
      ·rw[List.map_cons] at hv;obtain⟨x,vs,hargs,h1,h2⟩:=invc hv;rw[hargs] at hx;simp only[ap] at hx;obtain⟨k,cs,rfl⟩:=hcall.only _ _ _ _ hx _ _ _ hR;simp only[VR] at h1;obtain⟨f',ws,hf',hkf,hws⟩:=h1;obtain⟨hen,hci⟩:=hcall.fn _ _ _ _ _ _ hx w0 hG fm w f' _ hR hkf (h2.append hws);refine hcalls f' _ ?_ hci;simp only[execOp,resolve,hf',Deferred.ofValue];have:=zb5 (P:=P) (w:=w) hen (cargs.map a.eval++ws)
       simp_all [invoke]
  ·rename_i hw;rw[zcW he hg hw];simp only[Bool.false_eq_true,if_false];cases hx;exact⟨λ_ _=>trivial,hK [] undef w (by simpa using hR) (by simpa using zO)⟩
  ·cases hx
end
end Am
end
section
namespace Am
open Go
abbrev Call:=AV->List AV->St->Option (AV × St)
set_option maxHeartbeats 1000000 in
theorem ze2{k:OpK}(hp:zd0 k=true){call:Call}{vs:List AV}{S S':St}{v:AV}(h:ap call k vs S=some (v,S')):S'=S/\∀(call2:Call) S2,ap call2 k vs S2=some (v,S2):=by
  unfold ap at h;split at h<;>(first|(simp[zd0] at hp;done)|(cases h;done)|skip) <;>
    first
    | contradiction
    | (cases h;exact⟨rfl,λ_ _=>rfl⟩)
    | (simp only[Option.map_eq_some_iff,Option.bind_eq_some_iff] at h;obtain⟨x,hx,h9⟩:=h;cases h9;exact⟨rfl,λ_ _=>by simp[ap,hx]⟩)
    | (split at h<;>first|(cases h;done)|(cases h;exact⟨rfl,λ_ _=>by simp[ap, *]⟩)|(simp only[Option.map_eq_some_iff] at h;obtain⟨x,hx,h9⟩:=h;cases h9;exact⟨rfl,λ_ _=>by simp_all [ap]⟩))
    | (simp only[Option.bind_eq_some_iff] at h;obtain⟨x,hx,h⟩:=h
       first
       | (split at h<;>first|(cases h;done)|(cases h;exact⟨rfl,λ_ _=>by simp_all [ap]⟩)|(simp only[Option.map_eq_some_iff] at h;obtain⟨y,hy,h9⟩:=h;cases h9;exact⟨rfl,λ_ _=>by simp_all [ap]⟩))
       | (simp only[Option.map_eq_some_iff] at h;obtain⟨y,hy,h9⟩:=h;cases h9;exact⟨rfl,λ_ _=>by simp_all [ap]⟩))
theorem zhp{k:OpK}(hp:zaY k=true){call:Call}{vs:List AV}{S S':St}{v:AV}(h:ap call k vs S=some (v,S')):S'=S/\∀(call2:Call),ap call2 k vs S=some (v,S):=by
 unfold ap at h;split at h<;>(first|(simp[zaY] at hp;done)|(cases h;done)|skip) <;>
  first
  | contradiction
  | (cases h;exact⟨rfl,λ_=>rfl⟩)
  | (simp only[Option.map_eq_some_iff] at h;obtain⟨x,hx,h9⟩:=h;cases h9;exact⟨rfl,λ_=>by simp[ap,hx]⟩)
  | (simp only[Option.bind_eq_some_iff,Option.map_eq_some_iff] at h;obtain⟨x,hx,y,hy,h9⟩:=h;cases h9;exact⟨rfl,λ_=>by simp[ap,hx,hy]⟩)
  | (split at h<;>first|(cases h;done)|(cases h;exact⟨rfl,λ_=>by simp[ap, *]⟩)|(split at h<;>first|(cases h;done)|(cases h;exact⟨rfl,λ_=>by simp_all [ap]⟩)))
theorem ev_congr{e e':Env}:∀{p:Opd},(∀t,p = .t t->e.getD t (.tup [])=e'.getD t (.tup []))->p.ev e=p.ev e'
 | .t t,h=>h t rfl
 | .c _,_=>rfl
theorem zbv{call:Call}{o:IOp}{e e':Env}{S:St}(h:∀t ∈ o.reads,e.getD t (.tup [])=e'.getD t (.tup [])):exOp call o e S=exOp call o e' S:=by
 unfold exOp;have h1:o.args.map (·.ev e)=o.args.map (·.ev e'):=by
  refine List.map_congr_left λp hp=>ev_congr λt ht=>h t ?_
  subst ht;unfold IOp.reads;refine List.mem_append_left _ ?_;exact List.mem_filterMap.2 ⟨.t t,hp,rfl⟩
 have h2:wanted e o.guard=wanted e' o.guard:=by
  cases hg:o.guard with
  | none=>rfl
  | some g=>
   obtain⟨t,want⟩:=g;have:=h t (by unfold IOp.reads;rw[hg];exact List.mem_append_right _ (by simp))
   simp only[wanted,this]
 rw[h1,h2]
theorem zea{call:Call}{o:IOp}(hp:zd0 o.k=true){e:Env}{S S':St}{v:AV}(h:exOp call o e S=some (v,S')):S'=S/\∀S2,exOp call o e S2=some (v,S2):=by
 unfold exOp at h⊢;split at h
 ·exact⟨(ze2 hp h).1,λS2=>(ze2 hp h).2 _ _⟩
 ·cases h;exact⟨rfl,λ_=>rfl⟩
 ·cases h
theorem zd9{call:Call}{o:IOp}(hp:zaY o.k=true){e:Env}{S S':St}{v:AV}(h:exOp call o e S=some (v,S')):S'=S/\∀call2,exOp call2 o e S=some (v,S):=by
 unfold exOp at h⊢;split at h
 ·exact⟨(zhp hp h).1,λc2=>(zhp hp h).2 _⟩
 ·cases h;exact⟨rfl,λ_=>rfl⟩
 ·cases h
mutual
theorem AV.belowB_mono{n m:Nat}(h:n<=m):∀{c:AV},AV.belowB n c=true->AV.belowB m c=true
 | .ptr b _,hb=>by simp[AV.belowB] at hb ⊢;omega
 | .sl b _ _ _ _,hb=>by simp[AV.belowB] at hb ⊢;omega
 | .agg cs,hb=>by simp only[AV.belowB] at hb ⊢;exact AV.belowsB_mono h hb
 | .tup cs,hb=>by simp only[AV.belowB] at hb ⊢;exact AV.belowsB_mono h hb
 | .fn _ cs,hb=>by simp only[AV.belowB] at hb ⊢;exact AV.belowsB_mono h hb
 | .yld b,hb=>by simp[AV.belowB] at hb ⊢;omega
 | .mp b,hb=>by simp[AV.belowB] at hb ⊢;omega
 | .any,_=>rfl
 | .bool _,_=>rfl
 | .int _ _,_=>rfl
 | .str _,_=>rfl
 | .nilp,_=>rfl
 | .nils,_=>rfl
 | .nilf,_=>rfl
 | .nilm,_=>rfl
 | .nili,_=>rfl
 | .opq,_=>rfl
theorem AV.belowsB_mono{n m:Nat}(h:n<=m):∀{cs:List AV},AV.belowsB n cs=true->AV.belowsB m cs=true
 | [],_=>rfl
 | c::cs,hb=>by
  simp only[AV.belowsB,Bool.and_eq_true] at hb ⊢;exact⟨AV.belowB_mono h hb.1,AV.belowsB_mono h hb.2⟩
end
theorem zM{n:Nat}:∀{cs:List AV},AV.belowsB n cs=true↔∀c ∈ cs,AV.belowB n c=true
 | []=>by simp[AV.belowsB]
 | c::cs=>by simp[AV.belowsB,zM (cs:=cs)]
theorem zb1{n:Nat}{v:AV}{us:List AV}(h:AV.belowB n v=true)(hf:v.flat=some us):AV.belowsB n us=true:=by
 cases v<;>simp[AV.flat] at hf<;>subst hf
 case agg=>simpa [AV.belowB] using h
 all_goals simp[AV.belowsB,h]
theorem zcQ{n:Nat}:∀{us cs:List AV} {o:Nat},AV.belowsB n cs=true->AV.belowsB n us=true->AV.belowsB n (zaI cs o us)=true
 | [],cs,o,hc,_=>hc
 | u::us,cs,o,hc,hu=>by
  simp only[AV.belowsB,Bool.and_eq_true] at hu;refine zcQ (cs:=cs.set o u) ?_ hu.2;rw[zM] at hc ⊢;intro c hm;rcases List.mem_or_eq_of_mem_set hm with h|h
  ·exact hc c h
  ·subst h;exact hu.1
theorem zc9{n:Nat}:∀{ps:List (Nat × Nat)} {vs z cs:List AV},fill ps vs z=some cs->AV.belowsB n vs=true->AV.belowsB n z=true->AV.belowsB n cs=true
 | [],vs,z,cs,h,_,hz=>by cases vs<;>simp[fill] at h;subst h;exact hz
 | (off,size)::ps,[],z,cs,h,_,_=>by simp[fill] at h
 | (off,size)::ps,v::vs,z,cs,h,hv,hz=>by
  simp only[fill,Option.bind_eq_some_iff] at h;obtain⟨us,hu,h⟩:=h;split at h
  ·simp only[AV.belowsB,Bool.and_eq_true] at hv;exact zc9 h hv.2 (zcQ hz (zb1 hv.1 hu))
  ·cases h
def Shape(mk:Nat->AV):Prop:=(mk=λn=>.ptr n 0)\/∃k,mk=λn=>.sl n 0 k k none
theorem zgc{call:Call}{o:IOp}(hf:o.floats=true){e:Env}{S S':St}{v:AV}(h:exOp call o e S=some (v,S')) :
  ∃tag cs mk,S'=S++[.own tag cs]/\v=mk S.length/\Shape mk/\(∀S2,exOp call o e S2=some (mk S2.length,S2++[.own tag cs])) /\
   (∀n,(∀t ∈ o.reads,AV.belowB n (e.getD t (.tup []))=true)->AV.belowsB n cs=true):=by
 unfold IOp.floats at hf;simp only[Bool.and_eq_true] at hf;obtain⟨⟨⟨hd,hg⟩,hconst⟩,hk⟩:=hf;have hgn:o.guard=none:=by cases h:o.guard<;>simp_all
 have hargs:∀n,(∀t ∈ o.reads,AV.belowB n (e.getD t (.tup []))=true)->AV.belowsB n (o.args.map (·.ev e))=true:=by
  intro n hn;rw[zM];intro c hc;obtain⟨p,hp,rfl⟩:=List.mem_map.1 hc;cases p with
  | t i=>exact hn i (by unfold IOp.reads;exact List.mem_append_left _ (List.mem_filterMap.2 ⟨.t i,hp,rfl⟩))
  | c v=>
   rw[List.all_eq_true] at hconst;exact AV.belowB_mono (Nat.zero_le n) (hconst _ hp)
 simp only[exOp,hgn,wanted] at h⊢;generalize o.args.map (·.ev e)=vs at h hargs ⊢;split at hk
 ·rename_i tag z hkk;rw[hkk] at h⊢;cases vs with
  | nil=>
   simp only[ap] at h⊢;cases h;exact⟨tag,z,λn=>.ptr n 0,rfl,rfl,.inl rfl,λ_=>rfl,λn _=>AV.belowsB_mono (Nat.zero_le n) hk⟩
  | cons=>simp[ap] at h
 ·rename_i tag hkk;rw[hkk] at h⊢
  match vs,h,hargs with
  | [],h,_=>simp[ap] at h
  | [v1],h,hargs=>
   simp only[ap] at h⊢;simp only[Option.map_eq_some_iff] at h;obtain⟨cs,hcs,h⟩:=h;cases h;refine⟨tag,cs,λn=>.ptr n 0,rfl,rfl,.inl rfl,λ_=>by simp[hcs],λn hn=>?_⟩;have:=hargs n hn
   simp only[AV.belowsB,Bool.and_eq_true] at this;exact zb1 this.1 hcs
  | _::_::_,h,_=>simp[ap] at h
 ·rename_i tag z k ps hkk;rw[hkk] at h⊢;simp only[ap] at h⊢;simp only[Option.map_eq_some_iff] at h;obtain⟨cs,hcs,h⟩:=h;cases h;exact⟨tag,cs,λn=>.sl n 0 k k none,rfl,rfl,.inr ⟨k,rfl⟩,λ_=>by simp[hcs],λn hn=>zc9 hcs (hargs n hn) (AV.belowsB_mono (Nat.zero_le n) hk)⟩
 ·cases hk
mutual
theorem AV.beq_eq:∀{a b:AV},AV.beq a b=true->a=b
 | .any,b,h=>by cases b<;>simp[AV.beq] at h
 | .bool _,b,h=>by cases b<;>simp[AV.beq] at h;subst h;rfl
 | .int _ _,b,h=>by cases b<;>simp[AV.beq] at h;obtain⟨h1,h2⟩:=h;subst h1 h2;rfl
 | .str _,b,h=>by cases b<;>simp[AV.beq] at h;subst h;rfl
 | .ptr _ _,b,h=>by cases b<;>simp[AV.beq] at h;obtain⟨h1,h2⟩:=h;subst h1 h2;rfl
 | .nilp,b,h=>by cases b<;>simp[AV.beq] at h;rfl
 | .sl ..,b,h=>by cases b<;>simp[AV.beq] at h;obtain⟨⟨⟨⟨h1,h2⟩,h3⟩,h4⟩,h5⟩:=h;subst h1 h2 h3 h4 h5;rfl
 | .nils,b,h=>by cases b<;>simp[AV.beq] at h;rfl
 | .agg xs,b,h=>by cases b<;>simp[AV.beq] at h;rw[AV.beqs_eq h]
 | .tup xs,b,h=>by cases b<;>simp[AV.beq] at h;rw[AV.beqs_eq h]
 | .fn _ xs,b,h=>by cases b<;>simp[AV.beq] at h;obtain⟨h1,h2⟩:=h;subst h1;rw[AV.beqs_eq h2]
 | .yld _,b,h=>by cases b<;>simp[AV.beq] at h
 | .nilf,b,h=>by cases b<;>simp[AV.beq] at h;rfl
 | .mp _,b,h=>by cases b<;>simp[AV.beq] at h;subst h;rfl
 | .nilm,b,h=>by cases b<;>simp[AV.beq] at h;rfl
 | .nili,b,h=>by cases b<;>simp[AV.beq] at h;rfl
 | .opq,b,h=>by cases b<;>simp[AV.beq] at h
theorem AV.beqs_eq:∀{a b:List AV},AV.beqs a b=true->a=b
 | [],b,h=>by cases b<;>simp[AV.beqs] at h;rfl
 | x::xs,b,h=>by
  cases b with
  | nil=>simp[AV.beqs] at h
  | cons y ys=>simp[AV.beqs] at h;rw[AV.beq_eq h.1,AV.beqs_eq h.2]
end
section
variable {iops:List IOp} {pr:List (List Nat)}
theorem zfG:∀(rest acc:List (List Nat)),∃t,ancs acc rest=acc++t
 | [],acc=>⟨[],by simp[ancs]⟩
 | ps::rest,acc=>by
  obtain⟨t,ht⟩:=zfG rest (acc++[zaE acc ps]);exact⟨zaE acc ps::t,by simp[ancs,ht]⟩
theorem ze4:∀(rest acc:List (List Nat)) (i:Nat) (ps:List Nat),rest[i]?=some ps->∃acc' t,acc'.length=acc.length+i/\ancs acc rest=acc'++zaE acc' ps::t
 | [],acc,i,ps,h=>by simp at h
 | q::rest,acc,0,ps,h=>by
  simp at h;subst h;obtain⟨t,ht⟩:=zfG rest (acc++[zaE acc q]);exact⟨acc,t,by simp,by simp[ancs,ht]⟩
 | q::rest,acc,i+1,ps,h=>by
  obtain⟨acc',t,h1,h2⟩:=ze4 rest (acc++[zaE acc q]) i ps (by simpa using h);exact⟨acc',t,by simp at h1;omega,by simp[ancs,h2]⟩
theorem zfl:∀(l a:List Nat) (x:Nat),x ∈ l.foldl insN a->x ∈ a\/x ∈ l
 | [],a,x,h=>.inl h
 | y::l,a,x,h=>by
  rcases zfl l (insN a y) x h with h|h
  ·unfold insN at h;split at h
   ·exact .inl h
   ·rcases List.mem_cons.1 h with h|h
    ·exact .inr (List.mem_cons.2 (.inl h))
    ·exact .inl h
  ·exact .inr (List.mem_cons_of_mem _ h)
theorem zfm{i x:Nat}{ps:List Nat}(h:pr[i]?=some ps)(hlt:∀p ∈ ps,p<i)(hx:x ∈ (ancs [] pr).getD i []):x ∈ ps\/∃p ∈ ps,x ∈ (ancs [] pr).getD p []:=by
 obtain⟨acc,t,h1,h2⟩:=ze4 pr [] i ps h;have hl:acc.length=i:=by simpa using h1
 rw[h2,List.getD_eq_getElem?_getD,List.getElem?_append_right (by omega)] at hx;rw[hl,Nat.sub_self] at hx;have hx:x ∈ zaE acc ps:=by simpa using hx
 unfold zaE at hx;have hx:=zfl _ [] x hx;simp at hx;rcases hx with hx|⟨p,hp,hx⟩
 ·exact .inl hx
 ·refine .inr ⟨p,hp,?_⟩;rw[h2,List.getD_eq_getElem?_getD,List.getElem?_append_left (by have:=hlt p hp;omega)];exact hx
theorem zdU:∀(l a:List Nat) (x:Nat),x ∈ a\/x ∈ l->x ∈ l.foldl insN a
 | [],a,x,h=>h.elim id λh=>by cases h
 | y::l,a,x,h=>by
  refine zdU l (insN a y) x ?_;unfold insN;rcases h with h|h
  ·left;split
   ·exact h
   ·exact List.mem_cons_of_mem _ h
  ·rcases List.mem_cons.1 h with rfl|h
   ·left;split
    ·rename_i hc;exact List.contains_iff_mem.1 hc
    ·exact List.mem_cons_self
   ·exact .inr h
theorem zfF:∀(rest acc:List (List Nat)),(ancs acc rest).length=acc.length+rest.length
 | [],acc=>by simp[ancs]
 | ps::rest,acc=>by
  have:=zfF rest (acc++[zaE acc ps])
  simp[ancs,this];omega
theorem an_mem{i x:Nat}{ps:List Nat}(h:pr[i]?=some ps)(hlt:∀p ∈ ps,p<i)(hx:x ∈ ps\/∃p ∈ ps,x ∈ (ancs [] pr).getD p []):x ∈ (ancs [] pr).getD i []:=by
 obtain⟨acc,t,h1,h2⟩:=ze4 pr [] i ps h;have hl:acc.length=i:=by simpa using h1
 have e:(ancs [] pr).getD i []=zaE acc ps:=by
  rw[h2,List.getD_eq_getElem?_getD,List.getElem?_append_right (by omega),hl,Nat.sub_self];rfl
 rw[e];unfold zaE;refine zdU _ _ _ (.inr ?_);rcases hx with hx|⟨p,hp,hx⟩
 ·exact List.mem_append_left _ hx
 ·refine List.mem_append_right _ (List.mem_flatMap.2 ⟨p,hp,?_⟩);rw[h2,List.getD_eq_getElem?_getD,List.getElem?_append_left (by have:=hlt p hp;omega)] at hx;rw[List.getD_eq_getElem?_getD];exact hx
theorem an_get{i x:Nat}(hx:x ∈ (ancs [] pr).getD i []):∃ps,pr[i]?=some ps:=by
 rcases Nat.lt_or_ge i pr.length with h|h
 ·exact⟨_,List.getElem?_eq_getElem h⟩
 ·have hl:=zfF pr [];rw[List.getD_eq_getElem?_getD,List.getElem?_eq_none (by rw[hl];simpa using h)] at hx;cases hx
theorem zfH(hlt:∀(i:Nat) (ps:List Nat),pr[i]?=some ps->∀p ∈ ps,p<i):∀(i:Nat) {x b:Nat},x ∈ (ancs [] pr).getD i []->b ∈ (ancs [] pr).getD x []->b ∈ (ancs [] pr).getD i []:=by
 intro i
 induction i using Nat.strongRecOn with
 | _ i ih=>
  intro x b hx hb;obtain⟨ps,hps⟩:=an_get hx;rcases zfm hps (hlt i ps hps) hx with h|⟨p,hp,h⟩
  ·exact an_mem hps (hlt i ps hps) (.inr ⟨x,h,hb⟩)
  ·exact an_mem hps (hlt i ps hps) (.inr ⟨p,hp,ih p (hlt i ps hps p hp) h hb⟩)
theorem an_lt(hlt:∀(i:Nat) (ps:List Nat),pr[i]?=some ps->∀p ∈ ps,p<i):∀(i:Nat) {x:Nat},x ∈ (ancs [] pr).getD i []->x<i:=by
 intro i
 induction i using Nat.strongRecOn with
 | _ i ih=>
  intro x hx;obtain⟨ps,hps⟩:=an_get hx;rcases zfm hps (hlt i ps hps) hx with h|⟨p,hp,h⟩
  ·exact hlt i ps hps x h
  ·exact Nat.lt_trans (ih p (hlt i ps hps p hp) h) (hlt i ps hps p hp)
def zcd(pr:List (List Nat))(L:Nat->Prop):Prop:=∀i ps,pr[i]?=some ps->L i->∀p ∈ ps,L p
theorem zaC(hlt:∀(i:Nat) (ps:List Nat),pr[i]?=some ps->∀p ∈ ps,p<i){L:Nat->Prop}(hc:zcd pr L)(hL:∀i,L i->i<pr.length):∀(i:Nat),L i->∀x ∈ (ancs [] pr).getD i [],L x:=by
 intro i
 induction i using Nat.strongRecOn with
 | _ i ih=>
  intro hi x hx;obtain⟨ps,hps⟩:∃ps,pr[i]?=some ps:=⟨_,List.getElem?_eq_getElem (hL i hi)⟩
  rcases zfm hps (hlt i ps hps) hx with h|⟨p,hp,h⟩
  ·exact hc i ps hps hi x h
  ·exact ih p (hlt i ps hps p hp) (hc i ps hps hi p hp) x h
theorem zfe(hlt:∀(i:Nat) (ps:List Nat),pr[i]?=some ps->∀p ∈ ps,p<i){L:Nat->Prop}(hc:zcd pr L)(hL:∀i,L i->i<pr.length){i:Nat}{ps:List Nat}(hps:pr[i]?=some ps)(hi:∀p ∈ ps,L p) :
  ∀x ∈ (ancs [] pr).getD i [],L x:=by
 intro x hx;rcases zfm hps (hlt i ps hps) hx with h|⟨p,hp,h⟩
 ·exact hi x h
 ·exact zaC hlt hc hL p (hi p hp) x h
def Hit(iops:List IOp)(L:Nat->Prop)(t:Nat):Prop:=∃j o,L j/\iops[j]?=some o/\o.dst=some t
structure SSA (iops:List IOp) (pr:List (List Nat)):Prop where
 len:pr.length=iops.length
 lt:∀(i:Nat) (ps:List Nat),pr[i]?=some ps->∀p ∈ ps,p<i
 own:∀(i:Nat) (o:IOp) (d:Nat),iops[i]?=some o->o.dst=some d->zaY o.k=true->d ∉ o.reads
 dst:∀(i:Nat) (o:IOp) (d j:Nat) (o':IOp),iops[i]?=some o->o.dst=some d->iops[j]?=some o'->i≠j->o'.dst≠some d
 sees:∀(i:Nat) (o:IOp) (d j:Nat) (o':IOp),iops[i]?=some o->o.dst=some d->iops[j]?=some o'->i≠j->d ∈ o'.reads->(zaY o'.k=false/\j ∈ (ancs [] pr).getD i [])\/i ∈ (ancs [] pr).getD j []
theorem zav{α:Type}{l:List α}{f:α × Nat->Bool}(h:l.zipIdx.all f=true){i:Nat}{x:α}(hx:l[i]?=some x):f (x,i)=true:=by
 rw[List.all_eq_true] at h;exact h (x,i) (List.mem_iff_getElem?.2 ⟨i,by simp[hx]⟩)
theorem ssa_of(h:okSSA iops pr (ancs [] pr)=true):SSA iops pr:=by
 unfold okSSA at h;simp only[Bool.and_eq_true,beq_iff_eq] at h;obtain⟨⟨h1,h2⟩,h3⟩:=h;have key:∀(i:Nat) (o:IOp) (d j:Nat) (o':IOp),iops[i]?=some o->o.dst=some d->iops[j]?=some o'->zdR (ancs [] pr) i d j o'=true:=by
  intro i o d j o' hi hd hj;have:=zav h3 hi
  simp only[hd] at this;exact zav this hj
 refine⟨h1,?_,?_,?_,?_⟩
 ·intro i ps hps p hp;have:=zav h2 hps
  simp only[List.all_eq_true] at this;simpa using this p hp
 ·intro i o d hi hd hr hm;have:=key i o d i o hi hd hi
  simp[zdR,hr] at this;exact this hm
 ·intro i o d j o' hi hd hj hne;have:=key i o d j o' hi hd hj
  simp only[zdR,hne,if_false,Bool.and_eq_true] at this;simpa using this.1
 ·intro i o d j o' hi hd hj hne hm;have:=key i o d j o' hi hd hj
  simp only[zdR,hne,if_false,Bool.and_eq_true] at this;have h9:=this.2;simp only[Bool.or_eq_true,Bool.not_eq_true',Bool.and_eq_true,List.contains_iff_mem] at h9;rcases h9 with (h9|h9)|h9
  ·rw[<- Bool.not_eq_true,List.contains_iff_mem] at h9;exact absurd hm h9
  ·exact .inl h9
  ·exact .inr h9
def ze6(iops:List IOp)(pr:List (List Nat))(e0 eF:Env)(i:Nat)(o:IOp)(e:Env):Prop :=
 ∀t ∈ o.reads,(Hit iops (· ∈ (ancs [] pr).getD i []) t->e.getD t (.tup [])=eF.getD t (.tup []))/\(¬ Hit iops (· ∈ (ancs [] pr).getD i []) t->e.getD t (.tup [])=e0.getD t (.tup []))
def Tmps(iops:List IOp)(e0 eF:Env)(L:Nat->Prop)(e:Env):Prop :=
 ∀t,(Hit iops L t->e.getD t (.tup [])=eF.getD t (.tup []))/\(¬ Hit iops L t->e.getD t (.tup [])=e0.getD t (.tup []))
theorem zfn(hs:SSA iops pr){e0 eF e:Env}{L:Nat->Prop}(ht:Tmps iops e0 eF L e)(hc:zcd pr L)(hL:∀i,L i->i<pr.length){i:Nat}{o:IOp}(ho:iops[i]?=some o)
  (hi:¬ L i) (hp:∀ps,pr[i]?=some ps->∀p ∈ ps,L p):ze6 iops pr e0 eF i o e:=by
 obtain⟨ps,hps⟩:∃ps,pr[i]?=some ps:=⟨_,List.getElem?_eq_getElem (by rw[hs.len];exact (List.getElem?_eq_some_iff.1 ho).1)⟩
 have han:=zfe hs.lt hc hL hps (hp ps hps);intro t hr;refine⟨?_,?_⟩
 ·rintro ⟨j,oj,hj,hoj,hd⟩
  exact (ht t).1 ⟨j,oj,han j hj,hoj,hd⟩
 ·intro hn;refine (ht t).2 ?_
  rintro ⟨j,oj,hj,hoj,hd⟩
  have hji:j≠i:=λh=>hi (h ▸ hj)
  rcases hs.sees j oj t i o hoj hd ho hji hr with h|h
  ·exact hi (zaC hs.lt hc hL j hj i h.2)
  ·exact hn ⟨j,oj,h,hoj,hd⟩
theorem zga(hs:SSA iops pr){e0 eF e:Env}{L:Nat->Prop}(ht:Tmps iops e0 eF L e)(hc:zcd pr L)(hL:∀i,L i->i<pr.length){i:Nat}{o:IOp}(ho:iops[i]?=some o)
  (hi:L i) (hr:zaY o.k=true):ze6 iops pr e0 eF i o e:=by
 have han:=zaC hs.lt hc hL i hi;intro t htr;refine⟨?_,?_⟩
 ·rintro ⟨j,oj,hj,hoj,hd⟩
  exact (ht t).1 ⟨j,oj,han j hj,hoj,hd⟩
 ·intro hn;refine (ht t).2 ?_
  rintro ⟨j,oj,hj,hoj,hd⟩
  by_cases hji:j=i
  ·subst hji;have hoo:o=oj:=by rw[hoj] at ho;cases ho;rfl
   subst hoo;exact hs.own j _ t hoj hd hr htr
  ·rcases hs.sees j oj t i o hoj hd ho hji htr with h|h
   ·rw[hr] at h;exact absurd h.1 (by simp)
   ·exact hn ⟨j,oj,h,hoj,hd⟩
theorem ze6.same{e0 eF e e':Env}{i:Nat}{o:IOp}(h:ze6 iops pr e0 eF i o e)(h':ze6 iops pr e0 eF i o e'):∀t ∈ o.reads,e.getD t (.tup [])=e'.getD t (.tup []):=by
 intro t ht
 by_cases hh:Hit iops (· ∈ (ancs [] pr).getD i []) t
 ·rw[(h t ht).1 hh,(h' t ht).1 hh]
 ·rw[(h t ht).2 hh,(h' t ht).2 hh]
theorem zdm(e:Env)(d:Nat)(v:AV)(t:Nat):(e.set d v).getD t (.tup [])=if d=t/\d<e.length then v else e.getD t (.tup []):=by
 simp only[List.getD_eq_getElem?_getD,List.getElem?_set]
 by_cases h1:d=t
 ·subst h1
  by_cases h2:d<e.length
  ·simp[h2]
  ·simp[h2]
 ·simp[h1]
theorem zaa(e:Env)(d:Option Nat)(v:AV):(setD e d v).length=e.length:=by cases d<;>simp[setD]
theorem zbt{call:Call}:∀(its:List DItem) (e:Env) (S:St) (eF:Env) (SF:St),zj call iops its e S=some (eF,SF) ->
  eF.length=e.length/\∀t,¬ Hit iops (· ∈ zac its) t->eF.getD t (.tup [])=e.getD t (.tup [])
 | [],e,S,eF,SF,h=>by simp[zj] at h;obtain⟨rfl,rfl⟩:=h;exact⟨rfl,λ_ _=>rfl⟩
 | .op i::its,e,S,eF,SF,h=>by
  simp only[zj] at h;split at h
  ·rename_i o ho;simp only[Option.bind_eq_some_iff] at h;obtain⟨⟨v,S1⟩,_,h⟩:=h;obtain⟨h1,h2⟩:=zbt its _ _ _ _ h;refine⟨by rw[h1,zaa],λt ht=>?_⟩;rw[h2 t λ⟨j,oj,hj,hoj,hd⟩=>ht ⟨j,oj,by simp[zac,hj],hoj,hd⟩];cases hd:o.dst with
   | none=>rfl
   | some d=>
    simp only[setD];rw[zdm,if_neg]
    rintro ⟨rfl,_⟩
    exact ht ⟨i,o,by simp[zac],ho,hd⟩
  ·cases h
 | .chk i::its,e,S,eF,SF,h=>by
  simp only[zj] at h;split at h
  ·split at h
   ·simp only[Option.bind_eq_some_iff] at h;obtain⟨⟨v,S1⟩,_,h⟩:=h;split at h
    ·obtain⟨h1,h2⟩:=zbt its _ _ _ _ h;exact⟨h1,λt ht=>h2 t (by simpa [zac] using ht)⟩
    ·cases h
   ·cases h
  ·cases h
theorem za9:∀(its:List DItem) (D:List Nat),zbX iops pr D its=true->∀i ∈ zac its,i ∉ D
 | [],D,_,i,hi=>by simp[zac] at hi
 | .op j::its,D,h,i,hi=>by
  simp only[zbX,Bool.and_eq_true,Bool.not_eq_true'] at h;simp only[zac,List.mem_cons] at hi;rcases hi with rfl|hi
  ·intro hm;have:=h.1.1.2;rw[<- Bool.not_eq_true,List.contains_iff_mem] at this;exact this hm
  ·have:=za9 its (j::D) h.2 i hi;intro hm;exact this (by simp[hm])
 | .chk j::its,D,h,i,hi=>by
  simp only[zbX,Bool.and_eq_true] at h;exact za9 its D h.2 i (by simpa [zac] using hi)
theorem zcq:∀(its:List DItem) (m i k:Nat),(i,k) ∈ zI iops m its->m<=k
 | [],m,i,k,h=>by simp[zI] at h
 | .op j::its,m,i,k,h=>by
  simp only[zI,List.mem_cons] at h;rcases h with h|h
  ·cases h;exact Nat.le_refl _
  ·have:=zcq its _ i k h;split at this<;>omega
 | .chk j::its,m,i,k,h=>by
  simp only[zI,List.mem_cons] at h;rcases h with h|h
  ·cases h;exact Nat.le_refl _
  ·exact zcq its _ i k h
def Seen(call:Call)(iops:List IOp)(pr:List (List Nat))(e0 eF:Env)(Sm:Nat->St)(i k:Nat):Prop :=
 ∃o e v,iops[i]?=some o/\ze6 iops pr e0 eF i o e/\exOp call o e (Sm k)=some (v,if zl o.k then Sm k else Sm (k+1))/\(∀d,o.dst=some d->d<e0.length->v=eF.getD d (.tup []))
theorem zfN{call:Call}{o:IOp}(hp:zl o.k=true){e:Env}{S S':St}{v:AV}(h:exOp call o e S=some (v,S')):S'=S:=by
 unfold zl at hp;rw[Bool.or_eq_true] at hp;rcases hp with hp|hp
 ·exact (zea hp h).1
 ·exact (zd9 hp h).1
theorem zaL(hs:SSA iops pr){call:Call}{e0 eF:Env}{SF:St}:∀(its:List DItem) (D:List Nat) (m:Nat) (e:Env) (S:St),Tmps iops e0 eF (· ∈ D) e->e.length=e0.length ->
  zcd pr (· ∈ D)->(∀i ∈ D,i<pr.length)->zbX iops pr D its=true->zj call iops its e S=some (eF,SF) ->
  ∃Sm:Nat->St,Sm m=S/\Sm (m+(zd iops its).length)=SF/\∀i k,(i,k) ∈ zI iops m its->Seen call iops pr e0 eF Sm i k
 | [],D,m,e,S,ht,hl,hc,hD,hok,hx=>by
  simp[zj] at hx;obtain⟨rfl,rfl⟩:=hx;exact⟨λ_=>S,rfl,rfl,λi k h=>by simp[zI] at h⟩
 | .op i::its,D,m,e,S,ht,hl,hc,hD,hok,hx=>by
  simp only[zbX,Bool.and_eq_true,Bool.not_eq_true'] at hok;obtain⟨⟨⟨hio,hfresh⟩,hpr⟩,hok⟩:=hok;have hfresh:i ∉ D:=by rw[<- Bool.not_eq_true,List.contains_iff_mem] at hfresh;exact hfresh
  simp only[zj] at hx;split at hx
  ·rename_i o ho;simp only[Option.bind_eq_some_iff] at hx;obtain⟨⟨v,S1⟩,hx1,hx2⟩:=hx;have hi:i<pr.length:=by rw[hs.len];exact (List.getElem?_eq_some_iff.1 ho).1
   have hprD:∀ps,pr[i]?=some ps->∀p ∈ ps,p ∈ D:=by
    intro ps hps p hp;rw[List.getD_eq_getElem?_getD,hps] at hpr;simp only[Option.getD_some,List.all_eq_true] at hpr;exact List.contains_iff_mem.1 (hpr p hp)
   have hlook:=zfn hs ht hc hD ho hfresh hprD;obtain⟨hlen,hkeep⟩:=zbt _ _ _ _ _ hx2;have hval:∀d,o.dst=some d->eF.getD d (.tup [])=(setD e o.dst v).getD d (.tup []):=by
    intro d hd;refine hkeep d ?_
    rintro ⟨j,oj,hj,hoj,hdj⟩
    have hji:j≠i:=λh=>za9 its (i::D) hok j hj (by simp[h])
    exact hs.dst j oj d i o hoj hdj ho hji hd
   have hc':zcd pr (· ∈ i::D):=by
    intro j ps hps hj p hp;simp only[List.mem_cons] at hj ⊢;rcases hj with rfl|hj
    ·exact .inr (hprD ps hps p hp)
    ·exact .inr (hc j ps hps hj p hp)
   have ht':Tmps iops e0 eF (· ∈ i::D) (setD e o.dst v):=by
    intro t
    by_cases hti:o.dst=some t
    ·refine⟨λ_=>(hval t hti).symm,λhn=>absurd ⟨i,o,by simp,ho,hti⟩ hn⟩
    ·have hsame:(setD e o.dst v).getD t (.tup [])=e.getD t (.tup []):=by
      cases hd:o.dst with
      | none=>rfl
      | some d=>
       simp only[setD];rw[zdm,if_neg]
       rintro ⟨rfl,_⟩
       exact hti hd
     rw[hsame];refine⟨?_,λhn=>(ht t).2 λ⟨j,oj,hj,hoj,hd⟩=>hn ⟨j,oj,by simp[hj],hoj,hd⟩⟩
     rintro ⟨j,oj,hj,hoj,hd⟩
     simp only[List.mem_cons] at hj;rcases hj with rfl|hj
     ·rw[ho] at hoj;cases hoj;exact absurd hd hti
     ·exact (ht t).1 ⟨j,oj,hj,hoj,hd⟩
   have hD':∀j ∈ i::D,j<pr.length:=by
    intro j hj;simp only[List.mem_cons] at hj;rcases hj with rfl|hj
    ·exact hi
    ·exact hD j hj
   have hgood:∀d,o.dst=some d->d<e0.length->v=eF.getD d (.tup []):=by
    intro d hd hlt;rw[hval d hd,hd];simp only[setD];rw[zdm,if_pos ⟨rfl,by omega⟩]
   have hbig:iops.getD i zU=o:=by rw[List.getD_eq_getElem?_getD,ho];rfl
   by_cases hsm:zl o.k=true
   ·have hS:S1=S:=zfN hsm hx1;subst hS;obtain⟨Sm,h1,h2,h3⟩:=zaL hs its (i::D) m _ _ ht' (by rw[zaa];exact hl) hc' hD' hok hx2;refine⟨Sm,h1,by simp only[zd,hbig,hsm,if_true];exact h2,λj k hjk=>?_⟩;simp only[zI,List.mem_cons,hbig,hsm,if_true] at hjk;rcases hjk with hjk|hjk
    ·cases hjk;exact⟨o,e,v,ho,hlook,by rw[h1,if_pos hsm];exact hx1,hgood⟩
    ·exact h3 j k hjk
   ·obtain⟨Sm,h1,h2,h3⟩:=zaL hs its (i::D) (m+1) _ _ ht' (by rw[zaa];exact hl) hc' hD' hok hx2;refine⟨λk=>if k=m then S else Sm k,by simp,?_,λj k hjk=>?_⟩
    ·simp only[zd,hbig,hsm,Bool.false_eq_true,if_false,List.length_cons];rw[if_neg (by omega),<- h2];congr 1;omega
    ·simp only[zI,List.mem_cons,hbig,hsm,Bool.false_eq_true,if_false] at hjk;rcases hjk with hjk|hjk
     ·cases hjk;exact⟨o,e,v,ho,hlook,by simp[hsm,h1,hx1],hgood⟩
     ·have hk:=zcq its _ _ _ hjk;obtain⟨o',e',v',h4,h5,h6,h7⟩:=h3 j k hjk;refine⟨o',e',v',h4,h5,?_,h7⟩;have e1:k≠m:=by omega
      have e2:k+1≠m:=by omega
      simp only[e1,e2,if_false];exact h6
  ·cases hx
 | .chk i::its,D,m,e,S,ht,hl,hc,hD,hok,hx=>by
  simp only[zbX,Bool.and_eq_true] at hok;obtain⟨⟨hio,hin⟩,hok⟩:=hok;have hin:i ∈ D:=List.contains_iff_mem.1 hin;simp only[zj] at hx;split at hx
  ·rename_i o ho;rw[ho] at hio;simp only[Bool.and_eq_true] at hio;split at hx
   ·rename_i d hd;simp only[Option.bind_eq_some_iff] at hx;obtain⟨⟨v,S1⟩,hx1,hx2⟩:=hx;split at hx2
    ·rename_i hb;obtain⟨Sm,h1,h2,h3⟩:=zaL hs its D m e S ht hl hc hD hok hx2;refine⟨Sm,h1,h2,λj k hjk=>?_⟩;simp only[zI,List.mem_cons] at hjk;rcases hjk with hjk|hjk
     ·cases hjk;refine⟨o,e,v,ho,zga hs ht hc hD ho hin hio.1,?_,?_⟩
      ·rw[h1,if_pos (by simp[zl,hio.1])];exact (zd9 hio.1 hx1).2 call
      ·intro d' hd' _;rw[hd] at hd';cases hd';rw[show v=_ from AV.beq_eq hb];exact (ht d).1 ⟨i,o,hin,ho,hd⟩
     ·exact h3 j k hjk
    ·cases hx2
   ·cases hx
  ·cases hx
end
end Am
end
section
namespace Am
open Go Go.RowKit
theorem za7(a:Act)(d:Option Tmp)(u:Value):(a.put d u).defers=a.defers:=by cases d<;>rfl
def cnt:Nat->(Nat->Bool)->Nat
 | 0,_=>0
 | k+1,f=>cnt k f+if f k then 1 else 0
theorem zef:∀(n:Nat) (f g:Nat->Bool),(∀j,j<n->f j=g j)->cnt n f=cnt n g
 | 0,f,g,_=>rfl
 | n+1,f,g,h=>by simp only[cnt];rw[zef n f g λj hj=>h j (by omega),h n (by omega)]
theorem zfE:∀(n:Nat) (f g:Nat->Bool) (i:Nat),i<n->f i=true->g i=false->(∀j,j≠i->g j=f j)->cnt n g+1=cnt n f
 | 0,f,g,i,hi,_,_,_=>by omega
 | n+1,f,g,i,hi,h1,h2,h3=>by
  simp only[cnt]
  by_cases hn:i=n
  ·subst hn;rw[h1,h2,zef i g f λj hj=>h3 j (by omega)];simp
  ·have:=zfE n f g i (by omega) h1 h2 h3
   rw[h3 n λh=>hn h.symm];omega
theorem zfD:∀(n:Nat) (f:Nat->Bool),cnt n f=0->∀j,j<n->f j=false
 | 0,f,_,j,hj=>by omega
 | n+1,f,h,j,hj=>by
  simp only[cnt] at h
  by_cases hn:j=n
  ·subst hn;cases hf:f j<;>simp_all
  ·exact zfD n f (by omega) j (by omega)
theorem zcA{iops:List IOp}{an:List (List Nat)}:∀{bigs:List Nat},zdS iops an bigs=true->∀(i j:Nat) (b c:Nat),bigs[i]?=some b->bigs[j]?=some c->i<j ->
  b ∈ an.getD c []\/(iops.getD c zU).floats=true
 | [],_,i,j,b,c,hb,_,_=>by simp at hb
 | x::bs,h,i,j,b,c,hb,hc,hij=>by
  simp only[zdS,Bool.and_eq_true,List.all_eq_true] at h;cases j with
  | zero=>omega
  | succ j=>
   simp only[List.getElem?_cons_succ] at hc;cases i with
   | zero=>
    simp at hb;subst hb;have:=h.1 c (List.mem_of_getElem? hc)
    rw[Bool.or_eq_true] at this;rcases this with h9|h9
    ·exact .inl (List.contains_iff_mem.1 h9)
    ·exact .inr h9
   | succ i=>exact zcA h.2 i j b c (by simpa using hb) hc (by omega)
theorem zdi{iops:List IOp}{an:List (List Nat)}{vs:List (Nat × Nat)}{bigs:List Nat}(h:zck iops an vs bigs=true){j b x:Nat}(hj:bigs[j]?=some b)(hf:(iops.getD b zU).floats=true)(hx:x<iops.length)(hb:b ∈ an.getD x []) :
  (∀i c,i<j->bigs[i]?=some c->c ∈ an.getD x [])\/(folOk iops an vs j b x=true/\∀j' b',bigs[j']?=some b'->(iops.getD b' zU).floats=true->b' ∈ an.getD x []->j'≠j->∀i c,i<j'->bigs[i]?=some c->c ∈ an.getD x []):=by
 unfold zck at h;rw[List.all_eq_true] at h;have h1:=h x (List.mem_range.2 hx);have key:∀(j b:Nat),bigs[j]?=some b->(iops.getD b zU).floats=true->b ∈ an.getD x []->zeX iops an bigs j b x=false->∀i c,i<j->bigs[i]?=some c->c ∈ an.getD x []:=by
  intro j b hj hf hb he i c hi hc;unfold zeX at he;rw[hf,List.contains_iff_mem.2 hb,Bool.true_and,Bool.true_and,Bool.not_eq_false',List.all_eq_true] at he;refine List.contains_iff_mem.1 (he c (List.mem_of_getElem? (i:=i) ?_));rw[List.getElem?_take,if_pos hi];exact hc
 have h1:bigs.zipIdx.all (λ(b,j)=>!zeX iops an bigs j b x||(folOk iops an vs j b x&&bigs.zipIdx.all λ(b',j')=>j==j'||!zeX iops an bigs j' b' x))=true:=h1;have h2:=zav h1 hj;simp only[Bool.or_eq_true,Bool.not_eq_true',Bool.and_eq_true] at h2;rcases h2 with h2|⟨h2,h3⟩
 ·exact .inl (key j b hj hf hb h2)
 ·refine .inr ⟨h2,λj' b' hj' hf' hb' hne=>key j' b' hj' hf' hb' ?_⟩;have:=zav h3 hj'
  simp only[Bool.or_eq_true,beq_iff_eq,Bool.not_eq_true'] at this;rcases this with h4|h4
  ·exact absurd h4.symm hne
  ·exact h4
theorem zbh{iops:List IOp}:∀(its:List DItem) (m i:Nat),i ∈ zac its->∃k,(i,k) ∈ zI iops m its
 | [],m,i,h=>by simp[zac] at h
 | .op j::its,m,i,h=>by
  simp only[zac,List.mem_cons] at h;rcases h with rfl|h
  ·exact⟨m,by simp[zI]⟩
  ·obtain⟨k,hk⟩:=zbh its (if zl (iops.getD j zU).k then m else m+1) i h;exact⟨k,by simp only[zI,List.mem_cons];exact .inr hk⟩
 | .chk j::its,m,i,h=>by
  obtain⟨k,hk⟩:=zbh its m i (by simpa [zac] using h);exact⟨k,by simp only[zI,List.mem_cons];exact .inr hk⟩
theorem zaT{iops:List IOp}:∀(its:List DItem) (m i:Nat),i ∈ zac its->zl (iops.getD i zU).k=false->∃k,(zd iops its)[k]?=some i/\(i,m+k) ∈ zI iops m its
 | [],m,i,h,_=>by simp[zac] at h
 | .op j::its,m,i,h,hb=>by
  simp only[zac,List.mem_cons] at h
  by_cases hji:i=j
  ·subst hji;exact⟨0,by rw[zd,hb];simp,by simp[zI]⟩
  ·have hi:i ∈ zac its:=h.resolve_left hji;cases hs:zl (iops.getD j zU).k with
   | true=>
    obtain⟨k,h1,h2⟩:=zaT its m i hi hb;exact⟨k,by rw[zd,hs];exact h1,by simp only[zI,hs,if_true,List.mem_cons];exact .inr h2⟩
   | false=>
    obtain⟨k,h1,h2⟩:=zaT its (m+1) i hi hb;refine⟨k+1,by rw[zd,hs];simpa using h1,?_⟩;simp only[zI,hs,Bool.false_eq_true,if_false,List.mem_cons];exact .inr (by rw[show m+(k+1)=m+1+k by omega];exact h2)
 | .chk j::its,m,i,h,hb=>by
  obtain⟨k,h1,h2⟩:=zaT its m i (by simpa [zac] using h) hb;exact⟨k,h1,by simp only[zI,List.mem_cons];exact .inr h2⟩
theorem zaN{iops:List IOp}:∀(its:List DItem) (i:Nat),i ∈ zd iops its->i ∈ zac its/\zl (iops.getD i zU).k=false
 | [],i,h=>by simp[zd] at h
 | .op j::its,i,h=>by
  simp only[zd] at h;cases hs:zl (iops.getD j zU).k with
  | true=>
   rw[hs,if_pos rfl] at h;obtain⟨h1,h2⟩:=zaN its i h;exact⟨by simp[zac,h1],h2⟩
  | false=>
   rw[hs] at h;simp only[Bool.false_eq_true,if_false,List.mem_cons] at h;rcases h with rfl|h
   ·exact⟨by simp[zac],hs⟩
   ·obtain⟨h1,h2⟩:=zaN its i h;exact⟨by simp[zac,h1],h2⟩
 | .chk j::its,i,h=>by
  obtain⟨h1,h2⟩:=zaN its i (by simpa [zd] using h);exact⟨by simpa [zac] using h1,h2⟩
theorem zcp{iops:List IOp}{pr:List (List Nat)}:∀(its:List DItem) (D:List Nat),zbX iops pr D its=true->∀(j k i:Nat),(zd iops its)[j]?=some i->(zd iops its)[k]?=some i->j=k
 | [],D,_,j,k,i,h,_=>by simp[zd] at h
 | .op x::its,D,hok,j,k,i,hj,hk=>by
  simp only[zbX,Bool.and_eq_true] at hok;simp only[zd] at hj hk;split at hj
  ·rename_i hs;rw[if_pos hs] at hk;exact zcp its _ hok.2 j k i hj hk
  ·rename_i hs;rw[if_neg hs] at hk;have hnot:∀l:Nat,(zd iops its)[l]?≠some x:=by
    intro l hl;exact za9 its (x::D) hok.2 x (zaN its x (List.mem_of_getElem? hl)).1 (by simp)
   cases j with
   | zero=>
    simp at hj;subst hj;cases k with
    | zero=>rfl
    | succ k=>simp only[List.getElem?_cons_succ] at hk;exact absurd hk (hnot k)
   | succ j=>
    simp only[List.getElem?_cons_succ] at hj;cases k with
    | zero=>simp at hk;subst hk;exact absurd hj (hnot j)
    | succ k=>simp only[List.getElem?_cons_succ] at hk;rw[zcp its _ hok.2 j k i hj hk]
 | .chk x::its,D,hok,j,k,i,hj,hk=>by
  simp only[zbX,Bool.and_eq_true] at hok;exact zcp its D hok.2 j k i (by simpa [zd] using hj) (by simpa [zd] using hk)
section
variable {kf kt:Nat->Nat} {w0:Base} {P:Program}
theorem zeO{α β:Type}{f:α->Option β}:∀{xs:List α} {ys:List β},mapO f xs=some ys->xs.length=ys.length/\∀(i:Nat) (x:α),xs[i]?=some x->∃y,ys[i]?=some y/\f x=some y
 | [],ys,h=>by simp[mapO] at h;subst h;exact⟨rfl,λi x hx=>by simp at hx⟩
 | x::xs,ys,h=>by
  simp only[mapO,Option.bind_eq_some_iff,Option.map_eq_some_iff] at h;obtain⟨y,hy,ys',hys,rfl⟩:=h;obtain⟨h1,h2⟩:=zeO hys;refine⟨by simp[h1],λi z hz=>?_⟩;cases i with
  | zero=>simp at hz;subst hz;exact⟨y,by simp,hy⟩
  | succ i=>obtain⟨y',h3,h4⟩:=h2 i z (by simpa using hz);exact⟨y',by simpa using h3,h4⟩
abbrev Lst (listed:Array Bool):Nat->Prop:=λi=>listed.getD i false=true
mutual
theorem VR.below{fm:FM}:∀{c:AV} {v:Value},VR kf fm c v->AV.belowB fm.length c=true
 | .ptr b o,v,h=>by simp only[VR] at h;obtain⟨p,hp,_⟩:=h;simp[AV.belowB,(List.getElem?_eq_some_iff.1 hp).1]
 | .sl b o len cap g,v,h=>by simp only[VR] at h;obtain⟨p,_,_,hp,_⟩:=h;simp[AV.belowB,(List.getElem?_eq_some_iff.1 hp).1]
 | .agg cs,v,h=>by simp only[VR] at h;obtain⟨_,_,_,h⟩:=h;simp only[AV.belowB];exact VRs.below h
 | .tup cs,v,h=>by simp only[VR] at h;obtain⟨_,_,h⟩:=h;simp only[AV.belowB];exact VRs.below h
 | .fn _ cs,v,h=>by simp only[VR] at h;obtain⟨_,_,_,_,h⟩:=h;simp only[AV.belowB];exact VRs.below h
 | .yld b,v,h=>by simp only[VR] at h;obtain⟨p,hp,_⟩:=h;simp[AV.belowB,(List.getElem?_eq_some_iff.1 hp).1]
 | .mp b,v,h=>by simp only[VR] at h;obtain⟨p,hp,_⟩:=h;simp[AV.belowB,(List.getElem?_eq_some_iff.1 hp).1]
 | .any,_,_=>rfl
 | .bool _,_,_=>rfl
 | .int _ _,_,_=>rfl
 | .str _,_,_=>rfl
 | .nilp,_,_=>rfl
 | .nils,_,_=>rfl
 | .nilf,_,_=>rfl
 | .nilm,_,_=>rfl
 | .nili,_,_=>rfl
 | .opq,_,_=>rfl
theorem VRs.below{fm:FM}:∀{cs:List AV} {vs:List Value},VRs kf fm cs vs->AV.belowsB fm.length cs=true
 | [],_,_=>rfl
 | c::cs,vs,h=>by simp only[VRs] at h;obtain⟨_,_,_,h1,h2⟩:=h;simp only[AV.belowsB,Bool.and_eq_true];exact⟨VR.below h1,VRs.below h2⟩
end
mutual
theorem VR.narrow{fm ext:FM}:∀{c:AV} {v:Value},AV.belowB fm.length c=true->VR kf (fm++ext) c v->VR kf fm c v
 | .ptr b o,v,hb,h=>by
  simp only[VR] at h⊢;obtain⟨p,hp,hv⟩:=h;simp only[AV.belowB,decide_eq_true_eq] at hb;rw[List.getElem?_append_left hb] at hp;exact⟨p,hp,hv⟩
 | .sl b o len cap g,v,hb,h=>by
  simp only[VR] at h⊢;obtain⟨p,rc,ra,hp,hv⟩:=h;simp only[AV.belowB,decide_eq_true_eq] at hb;rw[List.getElem?_append_left hb] at hp;exact⟨p,rc,ra,hp,hv⟩
 | .agg cs,v,hb,h=>by simp only[VR] at h⊢;obtain⟨ws,h1,h2,h3⟩:=h;exact⟨ws,h1,h2,VRs.narrow (by simpa only [AV.belowB] using hb) h3⟩
 | .tup cs,v,hb,h=>by simp only[VR] at h⊢;obtain⟨ws,h1,h3⟩:=h;exact⟨ws,h1,VRs.narrow (by simpa only [AV.belowB] using hb) h3⟩
 | .fn _ cs,v,hb,h=>by simp only[VR] at h⊢;obtain⟨f,ws,h1,h2,h3⟩:=h;exact⟨f,ws,h1,h2,VRs.narrow (by simpa only [AV.belowB] using hb) h3⟩
 | .yld b,v,hb,h=>by
  simp only[VR] at h⊢;obtain⟨p,hp,hv⟩:=h;simp only[AV.belowB,decide_eq_true_eq] at hb;rw[List.getElem?_append_left hb] at hp;exact⟨p,hp,hv⟩
 | .mp b,v,hb,h=>by
  simp only[VR] at h⊢;obtain⟨p,hp,hv⟩:=h;simp only[AV.belowB,decide_eq_true_eq] at hb;rw[List.getElem?_append_left hb] at hp;exact⟨p,hp,hv⟩
 | .any,_,_,_=>by simp[VR]
 | .bool _,_,_,h=>by simpa [VR] using h
 | .int _ _,_,_,h=>by simpa [VR] using h
 | .str _,_,_,h=>by simpa [VR] using h
 | .nilp,_,_,h=>by simpa [VR] using h
 | .nils,_,_,h=>by simpa [VR] using h
 | .nilf,_,_,h=>by simpa [VR] using h
 | .nilm,_,_,h=>by simpa [VR] using h
 | .nili,_,_,h=>by simpa [VR] using h
 | .opq,_,_,h=>by simpa [VR] using h
theorem VRs.narrow{fm ext:FM}:∀{cs:List AV} {vs:List Value},AV.belowsB fm.length cs=true->VRs kf (fm++ext) cs vs->VRs kf fm cs vs
 | [],_,_,h=>by simpa [VRs] using h
 | c::cs,vs,hb,h=>by
  simp only[AV.belowsB,Bool.and_eq_true] at hb;simp only[VRs] at h⊢;obtain⟨u,us,h0,h1,h2⟩:=h;exact⟨u,us,h0,VR.narrow hb.1 h1,VRs.narrow hb.2 h2⟩
end
theorem MapR.below{fm:FM}:∀{r:List (List UInt8 × AV)} {es:List MapEntry},MapR kf fm r es->∀x ∈ r,AV.belowB fm.length x.2=true
 | [],_,_,x,hx=>by cases hx
 | (k,v)::r,es,h,x,hx=>by
  obtain⟨e,es',_,_,_,h4,h5⟩:=h;rcases List.mem_cons.1 hx with rfl|hx
  ·exact h4.below
  ·exact MapR.below h5 x hx
theorem MapR.narrow{fm ext:FM}:∀{r:List (List UInt8 × AV)} {es:List MapEntry},(∀x ∈ r,AV.belowB fm.length x.2=true)->MapR kf (fm++ext) r es->MapR kf fm r es
 | [],_,_,h=>h
 | (k,v)::r,es,hb,h=>by
  obtain⟨e,es',h1,h2,h3,h4,h5⟩:=h;exact⟨e,es',h1,h2,h3,h4.narrow (hb _ List.mem_cons_self),MapR.narrow (λx hx=>hb x (List.mem_cons_of_mem _ hx)) h5⟩
inductive Fam0 where
 | c (v:AV)
 | p (o:Nat)
 | s (o l k:Nat) (g:Option Nat)
inductive Fam where
 | one (f:Fam0)
 | ag (fs:List Fam0)
def Fam0.at(n:Nat):Fam0->AV
 | .c v=>v
 | .p o=>.ptr n o
 | .s o l k g=>.sl n o l k g
def Fam.at(n:Nat):Fam->AV
 | .one f=>f.at n
 | .ag fs=>.agg (fs.map (Fam0.at n))
def Fam0.low(n:Nat):Fam0->Prop
 | .c v=>AV.belowB n v=true
 | _=>True
def Fam.low(n:Nat):Fam->Prop
 | .one f=>f.low n
 | .ag fs=>∀f ∈ fs,f.low n
theorem Fam0.low_mono{n m:Nat}(h:n<=m):∀{f:Fam0},f.low n->f.low m
 | .c v,hl=>AV.belowB_mono h hl
 | .p _,_=>trivial
 | .s ..,_=>trivial
theorem Fam.low_mono{n m:Nat}(h:n<=m):∀{F:Fam},F.low n->F.low m
 | .one f,hl=>Fam0.low_mono h hl
 | .ag fs,hl=>λf hf=>Fam0.low_mono h (hl f hf)
theorem zd6{fm ext:FM}{q:Addr × Nat}:∀{f:Fam0} {u:Value},VR kf (fm++[q]) (f.at fm.length) u->f.low fm.length->VR kf (fm++ext++[q]) (f.at (fm.length+ext.length)) u
 | .c v,u,h,hl=>by
  have h1:VR kf fm v u:=VR.narrow (ext:=[q]) hl h;have h2:=h1.mono (ext:=ext++[q]);rw[<- List.append_assoc] at h2;exact h2
 | .p o,u,h,_=>by
  simp only[Fam0.at,VR] at h⊢;obtain⟨p,hp,hv⟩:=h;simp at hp;subst hp;exact⟨_,by rw[<- List.length_append,List.getElem?_append_right (Nat.le_refl _)];simp,hv⟩
 | .s o l k g,u,h,_=>by
  simp only[Fam0.at,VR] at h⊢;obtain⟨p,rc,ra,hp,hv⟩:=h;simp at hp;subst hp;exact⟨_,rc,ra,by rw[<- List.length_append,List.getElem?_append_right (Nat.le_refl _)];simp,hv⟩
theorem zd5{fm ext:FM}{q:Addr × Nat}:∀{fs:List Fam0} {us:List Value},VRs kf (fm++[q]) (fs.map (Fam0.at fm.length)) us->(∀f ∈ fs,f.low fm.length)->VRs kf (fm++ext++[q]) (fs.map (Fam0.at (fm.length+ext.length))) us
 | [],us,h,_=>by simpa [VRs] using h
 | f::fs,us,h,hl=>by
  simp only[List.map_cons,VRs] at h⊢;obtain⟨u,vs,h0,h1,h2⟩:=h;exact⟨u,vs,h0,zd6 h1 (hl f List.mem_cons_self),zd5 h2 λg hg=>hl g (List.mem_cons_of_mem _ hg)⟩
theorem fam0_sc{n m:Nat}:∀{f:Fam0},(f.at n).sc=true->(f.at m).sc=true
 | .c v,h=>h
 | .p _,_=>rfl
 | .s ..,_=>rfl
theorem fam_move{fm ext:FM}{q:Addr × Nat}:∀{F:Fam} {u:Value},VR kf (fm++[q]) (F.at fm.length) u->F.low fm.length->VR kf (fm++ext++[q]) (F.at (fm.length+ext.length)) u
 | .one f,u,h,hl=>zd6 h hl
 | .ag fs,u,h,hl=>by
  simp only[Fam.at,VR] at h⊢;obtain⟨ws,h0,h1,h2⟩:=h;refine⟨ws,h0,λc hc=>?_,zd5 h2 hl⟩;obtain⟨f,hf,rfl⟩:=List.mem_map.1 hc;exact fam0_sc (h1 _ (List.mem_map.2 ⟨f,hf,rfl⟩))
def Fam.flat:Fam->Option (List Fam0)
 | .one (.c v)=>v.flat.map (·.map .c)
 | .one f=>some [f]
 | .ag fs=>some fs
theorem map_c(n:Nat)(cs:List AV):(cs.map Fam0.c).map (Fam0.at n)=cs:=by
 rw[List.map_map];have:(Fam0.at n ∘ Fam0.c)=id:=rfl
 rw[this,List.map_id]
theorem fam_flat{i:Nat}:∀{F:Fam} {us:List AV},(F.at i).flat=some us->∃fs,F.flat=some fs/\us=fs.map (Fam0.at i)/\(∀n,(F.at n).flat=some (fs.map (Fam0.at n)))/\∀n,F.low n->∀f ∈ fs,f.low n
 | .one (.c v),us,h=>by
  have h:v.flat=some us:=h;refine⟨us.map .c,by simp[Fam.flat,h],(map_c i us).symm,λn=>by rw[map_c];exact h,λn hl f hf=>?_⟩;obtain⟨c,hc,rfl⟩:=List.mem_map.1 hf;exact zM.1 (zb1 hl h) c hc
 | .one (.p o),us,h=>by
  cases h;exact⟨[.p o],rfl,rfl,λn=>rfl,λn _ f hf=>by rw[List.mem_singleton.1 hf];trivial⟩
 | .one (.s o l k g),us,h=>by
  cases h;exact⟨[.s o l k g],rfl,rfl,λn=>rfl,λn _ f hf=>by rw[List.mem_singleton.1 hf];trivial⟩
 | .ag fs,us,h=>by
  cases h;exact⟨fs,rfl,rfl,λn=>rfl,λn hl=>hl⟩
def putF(cs:List Fam0)(o:Nat):List Fam0->List Fam0
 | []=>cs
 | v::vs=>putF (cs.set o v) (o+1) vs
theorem zeD(n:Nat):∀(us cs:List Fam0) (o:Nat),zaI (cs.map (Fam0.at n)) o (us.map (Fam0.at n))=(putF cs o us).map (Fam0.at n)
 | [],cs,o=>rfl
 | u::us,cs,o=>by
  have ih:=zeD n us (cs.set o u) (o+1);show zaI ((cs.map (Fam0.at n)).set o (u.at n)) (o+1) (us.map (Fam0.at n))=(putF (cs.set o u) (o+1) us).map (Fam0.at n);rw[<- ih,List.map_set]
theorem zfh{n:Nat}:∀(us cs:List Fam0) (o:Nat),(∀f ∈ cs,f.low n)->(∀f ∈ us,f.low n)->∀f ∈ putF cs o us,f.low n
 | [],cs,o,hc,_,f,hf=>hc f hf
 | u::us,cs,o,hc,hu,f,hf=>by
  refine zfh us (cs.set o u) (o+1) (λg hg=>?_) (λg hg=>hu g (List.mem_cons_of_mem _ hg)) f hf;rcases List.mem_or_eq_of_mem_set hg with h|h
  ·exact hc g h
  ·rw[h];exact hu u List.mem_cons_self
theorem zfq{i:Nat}:∀(ps:List (Nat × Nat)) (FA:List Fam) (zf:List Fam0) (us:List AV),fill ps (FA.map (Fam.at i)) (zf.map (Fam0.at i))=some us ->
  ∃fs:List Fam0,us=fs.map (Fam0.at i)/\(∀n,fill ps (FA.map (Fam.at n)) (zf.map (Fam0.at n))=some (fs.map (Fam0.at n)))/\∀n,(∀F ∈ FA,F.low n)->(∀f ∈ zf,f.low n)->∀f ∈ fs,f.low n
 | [],[],zf,us,h=>by
  simp[fill] at h;subst h;exact⟨zf,rfl,λn=>by simp[fill],λn _ hz=>hz⟩
 | [],F::FA,zf,us,h=>by simp[fill] at h
 | (off,size)::ps,[],zf,us,h=>by simp[fill] at h
 | (off,size)::ps,F::FA,zf,us,h=>by
  simp only[List.map_cons,fill,Option.bind_eq_some_iff] at h;obtain⟨vs,hv,h⟩:=h;obtain⟨fs0,h1,rfl,h3,h4⟩:=fam_flat hv;split at h
  ·rename_i hc;rw[zeD] at h;obtain⟨fs,h5,h6,h7⟩:=zfq ps FA _ us h;refine⟨fs,h5,λn=>?_,λn hF hz=>h7 n (λG hG=>hF G (List.mem_cons_of_mem _ hG)) (zfh _ _ _ hz (h4 n (hF F List.mem_cons_self)))⟩;simp only[List.map_cons,fill,h3 n,Option.bind_some];rw[List.length_map,List.length_map] at hc;rw[if_pos (by rw[List.length_map,List.length_map];exact hc),zeD];exact h6 n
  ·cases h
theorem binS_low{call:AV->List AV->St->Option (AV × St)}{op:BinOp}{vs:List AV}{S S':St}{v:AV}{n:Nat}(h:ap call (.binS op) vs S=some (v,S')):AV.belowB n v=true:=by
 match vs,h with
 | [.str x,.str y],h=>
  simp only[ap,Option.map_eq_some_iff] at h;obtain⟨u,hu,h⟩:=h;have h:u=v:=congrArg Prod.fst h;subst h;cases op<;>simp only[binS] at hu<;>(try (cases hu;done))<;>(try (cases hu;rfl))
  split at hu
  ·cases hu;rfl
  ·cases hu
theorem zdl{call:AV->List AV->St->Option (AV × St)}{es:Nat}{a x:AV}{S S':St}{v:AV}(h:ap call (.iadr es) [a,x] S=some (v,S')) :
  ∃b o l k g j,a = .sl b o l k g/\zu x=some j/\j<l/\v = .ptr b (o+j*es):=by
 cases a<;>(try (simp only[ap] at h;cases h;done))
 rename_i b o l k g;simp only[ap,Option.bind_eq_some_iff] at h;obtain⟨j,hj,h⟩:=h;split at h
 ·rename_i hjl;cases h;exact⟨_,_,_,_,_,j,rfl,hj,hjl,rfl⟩
 ·cases h
theorem nat_fam{i j:Nat}:∀{F:Fam},zu (F.at i)=some j->∃w,F = .one (.c w)/\zu w=some j
 | .one (.c w),h=>⟨w,rfl,h⟩
 | .one (.p o),h=>by cases h
 | .one (.s o l k g),h=>by cases h
 | .ag fs,h=>by cases h
theorem fam_iadr{call:AV->List AV->St->Option (AV × St)}{i es:Nat}{F1 F2:Fam}{S S':St}{v:AV}(h:ap call (.iadr es) [F1.at i,F2.at i] S=some (v,S')) :
  ∃F:Fam,v=F.at i/\(∀n,F1.low n->F.low n)/\(∀n S2,ap call (.iadr es) [F1.at n,F2.at n] S2=some (F.at n,S2))/\((∃o l k g,F1 = .one (.s o l k g))->∃o,F = .one (.p o)):=by
 obtain⟨b,o,l,k,g,j,h1,h2,h3,rfl⟩:=zdl h;obtain⟨w,rfl,hw⟩:=nat_fam h2;cases F1 with
 | ag gs=>cases h1
 | one f=>cases f with
  | p o=>cases h1
  | c w1=>
   have h1:w1 = .sl b o l k g:=h1;subst h1;refine⟨.one (.c (.ptr b (o+j*es))),rfl,λn hl=>hl,λn S2=>?_,λ⟨_,_,_,_,he⟩=>by cases he⟩;show ap call (.iadr es) [.sl b o l k g,w] S2=some (.ptr b (o+j*es),S2);simp only[ap,hw,Option.bind_some,if_pos h3]
  | s o' l' k' g'=>
   cases h1;refine⟨.one (.p (o+j*es)),rfl,λn _=>trivial,λn S2=>?_,λ_=>⟨_,rfl⟩⟩;show ap call (.iadr es) [.sl n o l k g,w] S2=some (.ptr n (o+j*es),S2);simp only[ap,hw,Option.bind_some,if_pos h3]
theorem zg7{call:AV->List AV->St->Option (AV × St)}{i:Nat}{z:List AV}{ps:List (Nat × Nat)}{FA:List Fam}{S S':St}{v:AV}(h:ap call (.build z ps) (FA.map (Fam.at i)) S=some (v,S')) :
  ∃F:Fam,v=F.at i/\(∀n,(∀G ∈ FA,G.low n)->AV.belowsB n z=true->F.low n)/\∀n S2,ap call (.build z ps) (FA.map (Fam.at n)) S2=some (F.at n,S2):=by
 simp only[ap,Option.map_eq_some_iff] at h;obtain⟨cs,hc,h⟩:=h;cases h;rw[<- map_c i z] at hc;obtain⟨fs,rfl,h2,h3⟩:=zfq ps FA _ cs hc;refine⟨.ag fs,rfl,λn hF hz=>h3 n hF λf hf=>?_,λn S2=>?_⟩
 ·obtain⟨c,hc,rfl⟩:=List.mem_map.1 hf;exact zM.1 hz c hc
 ·have:=h2 n
  rw[map_c] at this;simp only[ap,this,Option.map_some];rfl
theorem RowAt.narrow{fm ext:FM}{w:World}{tag:Nat}{cs:List AV}{p:Addr × Nat}(hb:AV.belowsB fm.length cs=true)(h:RowAt kf kt (fm++ext) w tag cs p):RowAt kf kt fm w tag cs p:=by
 obtain⟨h1,⟨c,elem,fr,h2,h3,h4,h5,h6⟩,h7⟩:=h;refine⟨h1,⟨c,elem,fr,h2,h3,h4,h5,λi u hu=>?_⟩,h7⟩;obtain⟨h8,v,h9,h10⟩:=h6 i u hu;exact⟨h8,v,h9,h10.narrow (zM.1 hb u (List.mem_of_getElem? hu))⟩
theorem RowAt.below{fm:FM}{w:World}{tag:Nat}{cs:List AV}{p:Addr × Nat}(h:RowAt kf kt fm w tag cs p):AV.belowsB fm.length cs=true:=by
 rw[zM];intro c hc;obtain⟨i,hi⟩:=List.getElem?_of_mem hc;obtain⟨_,_,_,_,_,_,_,h6⟩:=h.row;obtain⟨_,v,_,hr⟩:=h6 i c hi;exact hr.below
theorem RowAt.kept{fm ext:FM}{w w':World}{tag:Nat}{cs:List AV}{p:Addr × Nat}(hk:w'.heap[p.1.block]?=w.heap[p.1.block]?)(h:RowAt kf kt fm w tag cs p):RowAt kf kt (fm++ext) w' tag cs p :=
 BR.kept (w0:=⟨w,λ_=>False,λ_=>False,λ_ h=>h.elim,λ_ h=>h⟩) (k:=.own tag cs) hk h
theorem R.pop{fm ext:FM}{S:St}{k:Blk}{w w':World}(h0:R kf kt w0 fm S w)(_:ext.length=1)(h:R kf kt w0 (fm++ext) (S++[k]) w'):R kf kt w0 fm S w':=by
 have hS:∀{b:Nat} {k':Blk},S[b]?=some k'->(S++[k])[b]?=some k':=λhb=>by rw[List.getElem?_append_left (List.getElem?_eq_some_iff.1 hb).1];exact hb
 have hF:∀{b:Nat} {p:Addr × Nat},fm[b]?=some p->(fm++ext)[b]?=some p:=λhb=>by rw[List.getElem?_append_left (List.getElem?_eq_some_iff.1 hb).1];exact hb
 refine⟨h0.len,h.below,λb k' p hb hp=>?_,λb k' p hb hp=>h.low b k' p (hS hb) (hF hp),λb b' k1 k2 p p' hb hb' hp hp'=>h.sep b b' k1 k2 p p' (hS hb) (hS hb') (hF hp) (hF hp')⟩;have h1:=h0.blk b k' p hb hp;have h2:=h.blk b k' p (hS hb) (hF hp);cases k' with
 | own tag cs=>exact RowAt.narrow (RowAt.below h1) h2
 | ro cs=>
  refine⟨h2.1,λi u hu=>?_⟩;obtain⟨h3,v,h4,h5⟩:=h2.2 i u hu;obtain⟨_,v0,_,h6⟩:=h1.2 i u hu;exact⟨h3,v,h4,h5.narrow h6.below⟩
 | map es c=>
  obtain⟨ents,clock,h3,h4⟩:=h2;obtain⟨ents0,_,_,h5⟩:=h1;exact⟨ents,clock,h3,MapR.narrow (MapR.below h5) h4⟩
 | _=>exact h2
def Base.more(B:Base)(w:World)(X:Nat->Prop)(hX:∀k,X k->k<w.heap.size)(hs:B.w.heap.size<=w.heap.size):Base where
 w:=w
 K:=λk=>B.K k\/X k
 O:=B.O
 wf:=λk hk=>hk.elim (λh=>Nat.lt_of_lt_of_le (B.wf k h) hs) (hX k)
 sub:=λk hk=>.inl (B.sub k hk)
def zch(G:Base->Prop):Prop:=∀(B:Base) (w:World) (X:Nat->Prop) (hX:∀k,X k->k<w.heap.size) (hs:B.w.heap.size<=w.heap.size),Turned B B.w w->G B->G (B.more w X hX hs)
theorem R.rebase{fm:FM}{S:St}{w:World}(h:R kf kt w0 fm S w){X:Nat->Prop}(hX:∀k,X k->k<w.heap.size)
  (hfree:∀(b:Nat) (k:Blk) (p:Addr × Nat),S[b]?=some k->fm[b]?=some p->k.excl=true->¬ X p.1.block):R kf kt (w0.more w X hX h.below.size) fm S w:=by
 refine⟨h.len,⟨rfl,rfl,rfl,Nat.le_refl _,λ_ _=>rfl⟩,λb k p hb hp=>?_,λb k p hb hp he=>⟨λhk=>hk.elim (h.low b k p hb hp he).1 (hfree b k p hb hp he),(h.low b k p hb hp he).2⟩,h.sep⟩;have:=h.blk b k p hb hp
 cases k with
 | own tag cs=>exact this
 | ro cs=>exact this
 | _=>exact this
theorem R.unbase{fm fm':FM}{S S':St}{w w':World}{X:Nat->Prop}{hX:∀k,X k->k<w.heap.size}(h:R kf kt w0 fm S w)(h':R kf kt (w0.more w X hX h.below.size) fm' S' w'):R kf kt w0 fm' S' w':=by
 refine⟨h'.len,h.below.trans ⟨h'.below.os,h'.below.tape,h'.below.output,h'.below.size,λk hk=>h'.below.block k (.inl hk)⟩,λb k p hb hp=>?_,
  λb k p hb hp he=>⟨λhk=>(h'.low b k p hb hp he).1 (.inl hk),(h'.low b k p hb hp he).2⟩,h'.sep⟩
 have:=h'.blk b k p hb hp
 cases k with
 | own tag cs=>exact this
 | ro cs=>exact this
 | _=>exact this
theorem zfP{mk:Nat->AV}(hs:Shape mk){fm fm':FM}{q:Addr × Nat}{u:Value}(h:VR kf (fm++[q]) (mk fm.length) u):VR kf (fm'++[q]) (mk fm'.length) u:=by
 rcases hs with rfl|⟨k,rfl⟩
 ·simp only[VR] at h⊢;obtain⟨p,hp,hv⟩:=h;simp at hp;subst hp;exact⟨_,by simp,hv⟩
 ·simp only[VR] at h⊢;obtain⟨p,rc,ra,hp,hv⟩:=h;simp at hp;subst hp;exact⟨_,rc,ra,by simp,hv⟩
structure Pend (kf kt:Nat->Nat) (w0:Base) (eF:Env) (Sm:Nat->St) (m:Nat) (fm:FM) (w:World) (a:Act) (j:Nat) (o:IOp) (q:Addr × Nat):Prop where
 float:o.floats=true
 row:∃tag cs mk,Sm (j+1)=Sm j++[.own tag cs]/\Shape mk/\RowAt kf kt fm w tag cs q /\
  ∀d,o.dst=some d->d<eF.length->eF.getD d (.tup [])=mk (Sm j).length/\∀fm':FM,VR kf (fm'++[q]) (mk fm'.length) (a.tmps.getD d undef)
 out:¬ w0.K q.1.block
 size:q.1.block<w.heap.size
 free:∀(b:Nat) (k:Blk) (p:Addr × Nat),(Sm m)[b]?=some k->fm[b]?=some p->k.excl=true->p.1.block≠q.1.block
def PDst(iops:List IOp)(pr:List (List Nat))(bigs:List Nat)(listed:Array Bool)(m:Nat)(t:Nat):Prop :=
 ∃(x:Nat) (o:IOp) (j b:Nat),Lst listed x/\iops[x]?=some o/\o.dst=some t/\m<=j/\bigs[j]?=some b/\Lst listed b/\(x=b\/b ∈ (ancs [] pr).getD x [])
structure DInv (kf kt:Nat->Nat) (w0:Base) (iops:List IOp) (pr:List (List Nat)) (bigs:List Nat) (e0 eF:Env) (Sm:Nat->St) (ds:List Deferred) (qf:Nat->Addr × Nat) (listed:Array Bool) (m:Nat) (fm:FM) (w:World) (a:Act):Prop where
 size:listed.size=iops.length
 closed:zcd pr (Lst listed)
 le:m<=bigs.length
 low:∀(j b:Nat),bigs[j]?=some b->j<m->Lst listed b
 tl:a.tmps.size=e0.length
 tmps:∀t,¬ PDst iops pr bigs listed m t->(Hit iops (Lst listed) t->VR kf fm (eF.getD t (.tup [])) (a.tmps.getD t undef))/\(¬ Hit iops (Lst listed) t->VR kf fm (e0.getD t (.tup [])) (a.tmps.getD t undef))
 rel:R kf kt w0 fm (Sm m) w
 pend:∀(j b:Nat),m<=j->bigs[j]?=some b->Lst listed b->∃o,iops[b]?=some o/\Pend kf kt w0 eF Sm m fm w a j o (qf j)
 apart:∀(j b j' b':Nat),m<=j->m<=j'->bigs[j]?=some b->bigs[j']?=some b'->Lst listed b->Lst listed b'->j≠j'->(qf j).1.block≠(qf j').1.block
 ds:a.defers=ds
 fol:∀(x:Nat) (o:IOp) (j b d:Nat),Lst listed x->iops[x]?=some o->o.dst=some d->d<eF.length->m<=j->bigs[j]?=some b->Lst listed b->b ∈ (ancs [] pr).getD x [] ->
  ∃F:Fam,eF.getD d (.tup [])=F.at (Sm j).length/\F.low fm.length/\(zbm iops (ancs [] pr) b x=true->∃o,F = .one (.p o))/\(zeY iops x=true->∃v,F = .one (.c v))/\∀ext:FM,VR kf (fm++ext++[qf j]) (F.at (fm.length+ext.length)) (a.tmps.getD d undef)
theorem lst_set{listed:Array Bool}{i:Nat}(hi:i<listed.size)(j:Nat):Lst (listed.setIfInBounds i true) j↔j=i\/Lst listed j:=by
 unfold Lst
 by_cases hij:i=j
 ·subst hij;simp[hi]
 ·rw[getD_set_ne false hij];constructor
  ·exact .inr
  ·rintro (h|h)
   ·exact absurd h.symm hij
   ·exact h
theorem lst_lt{listed:Array Bool}{i:Nat}(h:Lst listed i):i<listed.size:=by
 rcases Nat.lt_or_ge i listed.size with h'|h'
 ·exact h'
 ·simp[Lst,Array.getElem?_eq_none h'] at h
open Classical in
noncomputable def envL(iops:List IOp)(e0 eF:Env)(L:Nat->Prop):Env:=(List.range e0.length).map λt=>if Hit iops L t then eF.getD t (.tup []) else e0.getD t (.tup [])
theorem zcL{iops:List IOp}{e0 eF:Env}(hlen:eF.length=e0.length)(L:Nat->Prop):Tmps iops e0 eF L (envL iops e0 eF L):=by
 intro t
 by_cases ht:t<e0.length
 ·have:(envL iops e0 eF L)[t]?=some (open Classical in if Hit iops L t then eF.getD t (.tup []) else e0.getD t (.tup [])):=by
   unfold envL;rw[List.getElem?_map,List.getElem?_range ht];rfl
  constructor<;>intro h<;>rw[List.getD_eq_getElem?_getD,this]<;>simp[h]
 ·have h1:(envL iops e0 eF L)[t]?=none:=by simp[envL];omega
  have h2:eF[t]?=none:=by simp;omega
  have h3:e0[t]?=none:=by simp;omega
  simp[List.getD_eq_getElem?_getD,h1,h2,h3]
open Classical in
noncomputable def envP(iops:List IOp)(pr:List (List Nat))(bigs:List Nat)(e0 eF:Env)(listed:Array Bool)(m:Nat):Env :=
 (List.range e0.length).map λt=>if PDst iops pr bigs listed m t then .any else (envL iops e0 eF (Lst listed)).getD t (.tup [])
theorem zec{iops:List IOp}{pr:List (List Nat)}{bigs:List Nat}{e0 eF:Env}{listed:Array Bool}{m t:Nat}(h:¬ PDst iops pr bigs listed m t):(envP iops pr bigs e0 eF listed m).getD t (.tup [])=(envL iops e0 eF (Lst listed)).getD t (.tup []):=by
 by_cases ht:t<e0.length
 ·have:(envP iops pr bigs e0 eF listed m)[t]?=some (open Classical in if PDst iops pr bigs listed m t then .any else (envL iops e0 eF (Lst listed)).getD t (.tup [])):=by
   unfold envP;rw[List.getElem?_map,List.getElem?_range ht];rfl
  rw[List.getD_eq_getElem?_getD,this];simp[h]
 ·have h1:(envP iops pr bigs e0 eF listed m)[t]?=none:=by simp[envP];omega
  have h2:(envL iops e0 eF (Lst listed))[t]?=none:=by simp[envL];omega
  simp[List.getD_eq_getElem?_getD,h1,h2]
section
variable {iops:List IOp} {pr:List (List Nat)} {bigs:List Nat} {e0 eF:Env} {Sm:Nat->St} {ds:List Deferred} {qf:Nat->Addr × Nat} {listed:Array Bool} {m:Nat} {fm:FM} {w:World} {a:Act}
theorem DInv.env(h:DInv kf kt w0 iops pr bigs e0 eF Sm ds qf listed m fm w a)(hlen:eF.length=e0.length):EnvR kf fm (envP iops pr bigs e0 eF listed m) a.tmps:=by
 refine⟨by simp[envP,h.tl],λt=>?_⟩
 by_cases hp:PDst iops pr bigs listed m t
 ·by_cases ht:t<e0.length
  ·have:(envP iops pr bigs e0 eF listed m)[t]?=some (open Classical in if PDst iops pr bigs listed m t then .any else (envL iops e0 eF (Lst listed)).getD t (.tup [])):=by
    unfold envP;rw[List.getElem?_map,List.getElem?_range ht];rfl
   rw[List.getD_eq_getElem?_getD,this];simp[hp,VR]
  ·have h1:(envP iops pr bigs e0 eF listed m)[t]?=none:=by simp[envP];omega
   have h2:a.tmps[t]?=none:=by have:=h.tl;simp;omega
   rw[List.getD_eq_getElem?_getD,h1,Array.getD_eq_getD_getElem?,h2];exact zO
 ·rw[zec hp]
  by_cases hh:Hit iops (Lst listed) t
  ·rw[(zcL hlen _ t).1 hh];exact (h.tmps t hp).1 hh
  ·rw[(zcL hlen _ t).2 hh];exact (h.tmps t hp).2 hh
theorem DInv.settle(hs:SSA iops pr)(hinj:∀(j k i:Nat),bigs[j]?=some i->bigs[k]?=some i->j=k)(hlen:eF.length=e0.length):∀(n m:Nat) (fm:FM),bigs.length-m=n->DInv kf kt w0 iops pr bigs e0 eF Sm ds qf listed m fm w a ->
  ∃m' ext,DInv kf kt w0 iops pr bigs e0 eF Sm ds qf listed m' (fm++ext) w a/\∀b,bigs[m']?=some b->¬ Lst listed b
 | 0,m,fm,hn,h=>⟨m,[],by simpa using h,λb hb=>by have:=(List.getElem?_eq_some_iff.1 hb).1;omega⟩
 | n+1,m,fm,hn,h=>by
  have hlt:m<bigs.length:=by omega
  have hb:=List.getElem?_eq_getElem hlt
  by_cases hl:Lst listed bigs[m]
  ·obtain⟨o,ho,hp⟩:=h.pend m _ (Nat.le_refl m) hb hl;obtain⟨tag,cs,mk,h1,h2,h3,h4⟩:=hp.row;have hR:R kf kt w0 (fm++[qf m]) (Sm (m+1)) w:=by
    rw[h1];exact h.rel.adopt hp.out hp.size hp.free (RowAt.kept (ext:=[qf m]) rfl h3)
   have h':DInv kf kt w0 iops pr bigs e0 eF Sm ds qf listed (m+1) (fm++[qf m]) w a:=by
    refine⟨h.size,h.closed,hlt,?_,h.tl,?_,hR,?_,?_,h.ds,?_⟩
    ·intro j b hj hjm
     by_cases hjm':j=m
     ·subst hjm';rw[hb] at hj;cases hj;exact hl
     ·exact h.low j b hj (by omega)
    ·intro t ht
     by_cases htd:o.dst=some t
     ·refine⟨λ_=>?_,λhn=>absurd ⟨_,o,hl,ho,htd⟩ hn⟩
      by_cases htl:t<eF.length
      ·obtain⟨h5,h6⟩:=h4 t htd htl;rw[h5,<- h.rel.len];exact h6 fm
      ·have e1:eF[t]?=none:=by simp;omega
       have e2:a.tmps[t]?=none:=by have:=h.tl;simp;omega
       rw[List.getD_eq_getElem?_getD,e1,Array.getD_eq_getD_getElem?,e2];exact zO
     by_cases hfo:∃(x:Nat) (ox:IOp),Lst listed x/\iops[x]?=some ox/\ox.dst=some t/\bigs[m] ∈ (ancs [] pr).getD x []
     ·obtain⟨x,ox,hx1,hx2,hx3,hx4⟩:=hfo;refine⟨λ_=>?_,λhn=>absurd ⟨x,ox,hx1,hx2,hx3⟩ hn⟩
      by_cases htl:t<eF.length
      ·obtain⟨F,f1,f2,_,_,f3⟩:=h.fol x ox m _ t hx1 hx2 hx3 htl (Nat.le_refl m) hb hl hx4;have f4:=f3 [];rw[List.append_nil,List.length_nil,Nat.add_zero] at f4;rw[f1,<- h.rel.len];exact f4
      ·have e1:eF[t]?=none:=by simp;omega
       have e2:a.tmps[t]?=none:=by have:=h.tl;simp;omega
       rw[List.getD_eq_getElem?_getD,e1,Array.getD_eq_getD_getElem?,e2];exact zO
     ·have hnp:¬ PDst iops pr bigs listed m t:=by
       rintro ⟨x,ox,j,b,g1,g2,g3,g4,g5,g6,g7⟩
       by_cases hjm:j=m
       ·subst hjm;rw[hb] at g5;cases g5;rcases g7 with rfl|g7
        ·rw[ho] at g2;cases g2;exact htd g3
        ·exact hfo ⟨x,ox,g1,g2,g3,g7⟩
       ·exact ht ⟨x,ox,j,b,g1,g2,g3,by omega,g5,g6,g7⟩
      exact⟨λhh=>((h.tmps t hnp).1 hh).mono,λhh=>((h.tmps t hnp).2 hh).mono⟩
    ·intro j b hjm hj hlb;obtain⟨o',ho',hp'⟩:=h.pend j b (by omega) hj hlb;obtain⟨tag',cs',mk',h5,h6,h7,h8⟩:=hp'.row;refine⟨o',ho',hp'.float,⟨tag',cs',mk',h5,h6,RowAt.kept rfl h7,h8⟩,hp'.out,hp'.size,?_⟩;intro b2 k p hk hpp he;rw[h1,zo] at hk;rw[zo,h.rel.len] at hpp;split at hk
     ·rename_i hlt2;rw[if_pos hlt2] at hpp;exact hp'.free b2 k p hk hpp he
     ·rename_i hlt2;rw[if_neg hlt2] at hpp;split at hk
      ·rename_i he2;rw[if_pos he2] at hpp;cases hpp;exact h.apart m _ j b (Nat.le_refl m) (by omega) hb hj hl hlb (by omega)
      ·cases hk
    ·intro j b j' b' hj hj' h5 h6 h7 h8 h9;exact h.apart j b j' b' (by omega) (by omega) h5 h6 h7 h8 h9
    ·intro x ox j b d g1 g2 g3 g4 g5 g6 g7 g8;obtain⟨F,f1,f2,f3,f3c,f4⟩:=h.fol x ox j b d g1 g2 g3 g4 (by omega) g6 g7 g8;refine⟨F,f1,Fam.low_mono (by simp) f2,f3,f3c,λext=>?_⟩;have f5:=f4 ([qf m]++ext);rw[<- List.append_assoc] at f5;rw[List.length_append] at f5 ⊢;rw[Nat.add_assoc];exact f5
   obtain⟨m',ext,h5,h6⟩:=DInv.settle hs hinj hlen n (m+1) (fm++[qf m]) (by omega) h';exact⟨m',[qf m]++ext,by simpa using h5,h6⟩
  ·exact⟨m,[],by simpa using h,λb hb'=>by rw[hb] at hb';cases hb';exact hl⟩
end
set_option maxHeartbeats 2000000 in
theorem any_main{G:Base->Prop}{call:Call}(hcall:CallOk P kf kt G call)(hGm:zch G)(hG:G w0){ops:Array Oper}{iops:List IOp}(hm:mapO (zcb P kf kt ops) ops.toList=some iops)
  {its:List DItem} (hs:SSA iops (ops.toList.map zy)) (hrow:zbX iops (ops.toList.map zy) [] its=true) (hall:∀i,i<iops.length->i ∈ zac its)
  (hbigs:zdS iops (ancs [] (ops.toList.map zy)) (zd iops its)=true) (hfloats:zck iops (ancs [] (ops.toList.map zy)) (zI iops 0 its) (zd iops its)=true)
  (hreads:zeL iops (ancs [] (ops.toList.map zy)) (zd iops its) (zI iops 0 its)=true)
  {e0 eF:Env} {Sm:Nat->St} (hlen:eF.length=e0.length) (hkeep:∀t,¬ Hit iops (λi=>i<iops.length) t->eF.getD t (.tup [])=e0.getD t (.tup []))
  (hv:∀i k,(i,k) ∈ zI iops 0 its->Seen call iops (ops.toList.map zy) e0 eF Sm i k) {r:Option Nat} {Q:Exit->Act->World->Prop} {ds:List Deferred} :
  ∀(fuel:Nat) (qf:Nat->Addr × Nat) (listed:Array Bool) (m:Nat) (fm:FM) (w:World) (a:Act),DInv kf kt w0 iops (ops.toList.map zy) (zd iops its) e0 eF Sm ds qf listed m fm w a ->
   (∀b,(zd iops its)[m]?=some b->¬ Lst listed b) ->
   cnt iops.length (λi=>!listed.getD i false)<=fuel ->
   (∀ext a' w',R kf kt w0 (fm++ext) (Sm (zd iops its).length) w'->EnvR kf (fm++ext) eF a'.tmps->a'.defers=ds->Q .normal a' w') ->
   wpAnyIn (FR r) 0 P .any ops Q fuel listed a w:=by
 obtain⟨hml,hmat⟩:=zeO hm;have hsize:ops.size=iops.length:=by simpa using hml
 have hblt:∀(j b:Nat),(zd iops its)[j]?=some b->b<iops.length:=by
  intro j b hb;have h1:=zaN its _ (List.mem_of_getElem? hb);rcases Nat.lt_or_ge b iops.length with h'|h'
  ·exact h'
  ·exfalso
   have h2:iops[b]?=none:=by simp;omega
   obtain⟨k,hk⟩:=zbh (iops:=iops) its 0 _ h1.1;obtain⟨o,_,_,ho,_⟩:=hv _ _ hk;rw[h2] at ho;cases ho
 have hend:∀(qf:Nat->Addr × Nat) (listed:Array Bool) (m:Nat) (fm:FM) (w:World) (a:Act),DInv kf kt w0 iops (ops.toList.map zy) (zd iops its) e0 eF Sm ds qf listed m fm w a ->
   (∀b,(zd iops its)[m]?=some b->¬ Lst listed b)->(∀i,i<iops.length->Lst listed i) ->
   (∀ext a' w',R kf kt w0 (fm++ext) (Sm (zd iops its).length) w'->EnvR kf (fm++ext) eF a'.tmps->a'.defers=ds->Q .normal a' w')->Q .normal a w:=by
  intro qf listed m fm w a hI htop hl hQ;have hmm:m=(zd iops its).length:=by
   rcases Nat.lt_or_ge m (zd iops its).length with h|h
   ·exfalso
    have hb:=List.getElem?_eq_getElem h;exact htop _ hb (hl _ (hblt m _ hb))
   ·have:=hI.le;omega
  subst hmm;refine hQ [] a w (by simpa using hI.rel) ?_ hI.ds;rw[List.append_nil];refine⟨by rw[hI.tl,hlen],λt=>?_⟩;have hnp:¬ PDst iops (ops.toList.map zy) (zd iops its) listed (zd iops its).length t:=by
   rintro ⟨x,o,j,b,_,_,_,h1,h2,_⟩
   have:=(List.getElem?_eq_some_iff.1 h2).1;omega
  by_cases hh:Hit iops (Lst listed) t
  ·exact (hI.tmps t hnp).1 hh
  ·rw[hkeep t λ⟨j,o,h1,h2,h3⟩=>hh ⟨j,o,hl j h1,h2,h3⟩];exact (hI.tmps t hnp).2 hh
 have hnone:∀(listed:Array Bool),listed.size=iops.length->Region.ready .any ops listed=[]->∀i,i<iops.length->Lst listed i:=by
  intro listed hsz hr i
  induction i using Nat.strongRecOn with
  | _ i ih=>
   intro hi;cases hli:listed.getD i false with
   | true=>exact hli
   | false=>
    exfalso
    have ho:ops[i]?=some (ops[i]'(by omega)):=Array.getElem?_eq_getElem (by omega);have:i ∈ Region.ready .any ops listed:=by
     rw[mem_ready];refine⟨?_,_,ho,λe he hb=>?_⟩
     ·have hlt:i<listed.size:=by omega
      simp[hlt] at hli ⊢;exact hli
     ·have hps:(ops.toList.map zy)[i]?=some (zy (ops[i]'(by omega))):=by simp[ho]
      have hmem:e.on ∈ zy (ops[i]'(by omega)):=by
       unfold zy;exact List.mem_map.2 ⟨e,List.mem_filter.2 ⟨by simpa using he,hb⟩,rfl⟩
      have hlt:=hs.lt i _ hps _ hmem;exact ih e.on hlt (by omega)
    rw[hr] at this;cases this
 intro fuel
 induction fuel with
 | zero=>
  intro qf listed m fm w a hI htop hc hQ;have hl:∀i,i<iops.length->Lst listed i:=λi hi=>by
   have:=zfD _ _ (Nat.le_zero.1 hc) i hi
   rw[Bool.not_eq_false'] at this;exact this
  refine⟨?_,hend qf listed m fm w a hI htop hl hQ⟩;rcases hr:Region.ready .any ops listed with _|⟨i,rs⟩
  ·rfl
  ·exfalso
   have hi:i ∈ Region.ready .any ops listed:=by rw[hr];simp
   obtain⟨h1,o,h2,_⟩:=mem_ready.1 hi;have hlt:i<iops.length:=by rw[<- hsize];exact (Array.getElem?_eq_some_iff.1 h2).1
   have:=hl i hlt
   have hlt':i<listed.size:=by rw[hI.size];exact hlt
   simp[Lst,hlt'] at this h1;rw[this] at h1;cases h1
 | succ fuel ih=>
  intro qf listed m fm w a hI htop hc hQ;refine⟨λhr=>hend qf listed m fm w a hI htop (hnone listed hI.size hr) hQ,λi hi=>?_⟩;obtain⟨hun,o,ho,hedges⟩:=mem_ready.1 hi;have hlt:i<iops.length:=by rw[<- hsize];exact (Array.getElem?_eq_some_iff.1 ho).1
  have hltl:i<listed.size:=by rw[hI.size];exact hlt
  have hunl:¬ Lst listed i:=by
   simp[Lst,hltl] at hun ⊢;exact hun
  obtain⟨io,hio,hcomp⟩:=hmat i o (by simpa using ho);have hps:(ops.toList.map zy)[i]?=some (zy o):=by simp[ho]
  have hpl:∀p ∈ zy o,Lst listed p:=by
   intro p hp;unfold zy at hp;obtain⟨e,he,rfl⟩:=List.mem_map.1 hp;obtain⟨h1,h2⟩:=List.mem_filter.1 he;exact hedges e (by simpa using h1) h2
  have hL:∀j,Lst listed j->j<(ops.toList.map zy).length:=λj hj=>by rw[hs.len,<- hI.size];exact lst_lt hj
  have hps':∀ps,(ops.toList.map zy)[i]?=some ps->∀p ∈ ps,Lst listed p:=by intro ps h;rw[hps] at h;cases h;exact hpl
  have han:=zfe hs.lt hI.closed hL hps hpl;have hT:=zcL (iops:=iops) (e0:=e0) hlen (Lst listed);have hlook:=zfn hs hT hI.closed hL hio hunl hps';have hE:=hI.env hlen;have hgd:iops.getD i zU=io:=by rw[List.getD_eq_getElem?_getD,hio];rfl
  have hdst:io.dst=o.dst:=by
   unfold zcb at hcomp;simp only[Option.map_eq_some_iff] at hcomp;obtain⟨_,_,rfl⟩:=hcomp;rfl
  have hsetL:=lst_set hltl;have hcnt:cnt iops.length (λj=>!(listed.setIfInBounds i true).getD j false)<=fuel:=by
   have:=zfE iops.length (λj=>!listed.getD j false) (λj=>!(listed.setIfInBounds i true).getD j false) i hlt (by simpa [Lst] using hunl) (by simp[hltl])
    λj hj=>by rw[getD_set_ne false (Ne.symm hj)]
   omega
  have hclosed':zcd (ops.toList.map zy) (Lst (listed.setIfInBounds i true)):=by
   intro j ps hjps hj p hp;rw[hsetL] at hj ⊢;rcases hj with rfl|hj
   ·exact .inr (hps' ps hjps p hp)
   ·exact .inr (hI.closed j ps hjps hj p hp)
  have hbinj:=λ(j k i:Nat)=>zcp (iops:=iops) its [] hrow j k i
  have hother:∀(u:Value) (t:Nat),io.dst≠some t->(a.put o.dst u).tmps.getD t undef=a.tmps.getD t undef:=by
   intro u t hti;rw[<- hdst];cases hd:io.dst with
   | none=>rfl
   | some d=>
    have hne:d≠t:=λh=>hti (by rw[hd,h])
    simp[Act.put,Array.getD_eq_getD_getElem?,hne]
  have hown:∀(u:Value) (t:Nat),io.dst=some t->t<a.tmps.size->(a.put o.dst u).tmps.getD t undef=u:=by
   intro u t hti htl;rw[<- hdst,hti];simp[Act.put,Array.getD_eq_getD_getElem?,htl]
  have htl':∀u,(a.put o.dst u).tmps.size=e0.length:=by intro u;cases o.dst<;>simp[Act.put,hI.tl]
  by_cases hpen:∃(j b:Nat),m<=j/\(zd iops its)[j]?=some b/\Lst listed b/\b ∈ (ancs [] (ops.toList.map zy)).getD i []
  ·-- it is looked at while one that floats waits for its turn
   obtain⟨j,b,hmj,hb,hl,hin⟩:=hpen;obtain⟨ob,hob,hp⟩:=hI.pend j b hmj hb hl;have hfl:(iops.getD b zU).floats=true:=by rw[List.getD_eq_getElem?_getD,hob];exact hp.float
   have hmlt:m<(zd iops its).length:=by have:=(List.getElem?_eq_some_iff.1 hb).1;omega
   have hbm:=List.getElem?_eq_getElem hmlt;have hjm:j≠m:=by
    intro h;subst h;rw[hbm] at hb;cases hb;exact htop _ hbm hl
   have notan:¬ (zd iops its)[m] ∈ (ancs [] (ops.toList.map zy)).getD i []:=λh=>htop _ hbm (han _ h)
   rcases zdi hfloats hb hfl hlt hin with h|⟨hfo,huniq⟩
   ·exact absurd (h m _ (by omega) hbm) notan
   have huni:∀j' b',m<=j'->(zd iops its)[j']?=some b'->Lst listed b'->b' ∈ (ancs [] (ops.toList.map zy)).getD i []->j'=j:=by
    intro j' b' h1 h2 h3 h4;refine Classical.byContradiction λhne=>?_
    obtain⟨ob',hob',hp'⟩:=hI.pend j' b' h1 h2 h3;have hj'm:j'≠m:=by
     intro h;subst h;rw[hbm] at h2;cases h2;exact htop _ hbm h3
    exact notan (huniq j' b' h2 (by rw[List.getD_eq_getElem?_getD,hob'];exact hp'.float) h4 hne m _ (by omega) hbm)
   obtain⟨tag,cs,mk,h5,h6,h7,h8⟩:=hp.row;have hbi:b≠i:=λh=>hunl (h ▸ hl)
   have hnl:=hI.rel.len;unfold folOk at hfo;rw[hgd] at hfo;simp only[Bool.and_eq_true] at hfo;obtain⟨⟨hgn,hargs⟩,hkind⟩:=hfo;have hgn:io.guard=none:=by simpa using hgn
   have hexo:∀(e:Env) (S:St),exOp call io e S=ap call io.k (io.args.map (·.ev e)) S:=λe S=>by
    unfold exOp;rw[hgn];rfl
   have hsmall:zl io.k=true:=by
    revert hkind
    generalize io.k=kk;generalize io.args=aa;intro hkind;split at hkind
    ·rfl
    ·rfl
    ·rfl
    ·rfl
    ·cases hkind
   have hseenL:∀k,Seen call iops (ops.toList.map zy) e0 eF Sm i k->∃v,ap call io.k (io.args.map (·.ev (envL iops e0 eF (Lst listed)))) (Sm k)=some (v,Sm k)/\(∀d,io.dst=some d->d<e0.length->v=eF.getD d (.tup [])):=by
    rintro k ⟨o',e',v,h1,h2,h3,h4⟩
    rw[hio] at h1;cases h1;rw[if_pos hsmall] at h3;exact⟨v,by rw[<- hexo,zbv (hlook.same h2)];exact h3,h4⟩
   have hlenL:(envL iops e0 eF (Lst listed)).length=e0.length:=by simp[envL]
   have famT:∀t ∈ io.reads,∃F:Fam,(envL iops e0 eF (Lst listed)).getD t (.tup [])=F.at (Sm j).length/\F.low fm.length/\(∀ext:FM,VR kf (fm++ext++[qf j]) (F.at (fm.length+ext.length)) (a.tmps.getD t undef)) /\
     (t<e0.length->ob.dst=some t->(∃o,F = .one (.p o))\/∃o l k g,F = .one (.s o l k g)) /\
     (t<e0.length->∀(y:Nat) (oy:IOp),iops[y]?=some oy->oy.dst=some t->Lst listed y->zbm iops (ancs [] (ops.toList.map zy)) b y=true->∃o,F = .one (.p o)) /\
     ((∀(y:Nat) (oy:IOp),iops[y]?=some oy->oy.dst=some t->y≠b/\(¬ b ∈ (ancs [] (ops.toList.map zy)).getD y []\/zeY iops y=true))->∃v,F = .one (.c v)):=by
    intro t ht
    by_cases htl:t<e0.length
    case neg=>
     refine⟨.one (.c (.tup [])),?_,rfl,λext=>?_,λh=>absurd h htl,λh=>absurd h htl,λ_=>⟨_,rfl⟩⟩
     ·rw[List.getD_eq_getElem?_getD,List.getElem?_eq_none (by rw[hlenL];omega)];rfl
     ·have e2:a.tmps[t]?=none:=by have:=hI.tl;simp;omega
      rw[Array.getD_eq_getD_getElem?,e2];exact zO
    by_cases hpt:PDst iops (ops.toList.map zy) (zd iops its) listed m t
    ·obtain⟨x,ox,j',b',g1,g2,g3,g4,g5,g6,g7⟩:=hpt;have hxi:x≠i:=λh=>hunl (h ▸ g1)
     have hxan:x ∈ (ancs [] (ops.toList.map zy)).getD i []:=by
      rcases hs.sees x ox t i io g2 g3 hio hxi ht with h|h
      ·exact absurd (zaC hs.lt hI.closed hL x g1 i h.2) hunl
      ·exact h
     have hb'an:b' ∈ (ancs [] (ops.toList.map zy)).getD i []:=by
      rcases g7 with rfl|g7
      ·exact hxan
      ·exact zfH hs.lt i hxan g7
     have hjj:=huni j' b' g4 g5 g6 hb'an;subst hjj;rw[hb] at g5;cases g5;have heL:(envL iops e0 eF (Lst listed)).getD t (.tup [])=eF.getD t (.tup []):=(hT t).1 ⟨x,ox,g1,g2,g3⟩;have hsame:∀(y:Nat) (oy:IOp),iops[y]?=some oy->oy.dst=some t->y=x:=λy oy h1 h2=>by
      refine Classical.byContradiction λhne=>?_
      exact hs.dst x ox t y oy g2 g3 h1 (λh=>hne h.symm) h2
     rcases g7 with rfl|g7
     ·rw[hob] at g2;cases g2;obtain⟨h9,h10⟩:=h8 t g3 (by omega);have hnoel:∀(y:Nat) (oy:IOp),iops[y]?=some oy->oy.dst=some t->Lst listed y->zbm iops (ancs [] (ops.toList.map zy)) x y=true->False:=λy oy h1 h2 _ h3=>by
       have:=hsame y oy h1 h2
       subst this;unfold zbm at h3;simp only[Bool.and_eq_true] at h3;exact absurd (an_lt hs.lt _ (List.contains_iff_mem.1 h3.1)) (Nat.lt_irrefl _)
      rcases h6 with rfl|⟨k,rfl⟩
      ·exact⟨.one (.p 0),heL.trans h9,trivial,λext=>by have:=h10 (fm++ext);rw[List.length_append] at this;exact this,λ_ _=>.inl ⟨_,rfl⟩,λ_ y oy h1 h2 h3 h4=>(hnoel y oy h1 h2 h3 h4).elim,λhcon=>absurd rfl (hcon x ob hob g3).1⟩
      ·exact⟨.one (.s 0 k k none),heL.trans h9,trivial,λext=>by have:=h10 (fm++ext);rw[List.length_append] at this;exact this,λ_ _=>.inr ⟨_,_,_,_,rfl⟩,λ_ y oy h1 h2 h3 h4=>(hnoel y oy h1 h2 h3 h4).elim,λhcon=>absurd rfl (hcon x ob hob g3).1⟩
     ·obtain⟨F,f1,f2,f3,f3c,f4⟩:=hI.fol x ox j' b t g1 g2 g3 (by omega) hmj hb hl g7;refine⟨F,heL.trans f1,f2,f4,λ_ hd=>?_,λ_ y oy h1 h2 h3 h4=>?_,λhcon=>f3c ((hcon x ox g2 g3).2.resolve_left λh=>h g7)⟩
      ·have:=hsame b ob hob hd
       subst this;exact absurd (an_lt hs.lt _ g7) (Nat.lt_irrefl _)
      ·have:=hsame y oy h1 h2
       subst this;exact f3 h4
    ·have hv0:VR kf fm ((envL iops e0 eF (Lst listed)).getD t (.tup [])) (a.tmps.getD t undef):=by
      by_cases hh:Hit iops (Lst listed) t
      ·rw[(hT t).1 hh];exact (hI.tmps t hpt).1 hh
      ·rw[(hT t).2 hh];exact (hI.tmps t hpt).2 hh
     refine⟨.one (.c ((envL iops e0 eF (Lst listed)).getD t (.tup []))),rfl,hv0.below,λext=>?_,λ_ hd=>absurd ⟨b,ob,j,b,hl,hob,hd,hmj,hb,hl,.inl rfl⟩ hpt,λ_ y oy h1 h2 h3 h4=>?_,λ_=>⟨_,rfl⟩⟩
     ·have:=hv0.mono (ext:=ext++[qf j])
      rw[<- List.append_assoc] at this;exact this
     ·unfold zbm at h4;simp only[Bool.and_eq_true] at h4;exact absurd ⟨y,oy,j,b,h3,h1,h2,hmj,hb,hl,.inr (List.contains_iff_mem.1 h4.1)⟩ hpt
   let FT:Nat->Fam:=λt=>if h:t ∈ io.reads then (famT t h).choose else .one (.c .any)
   have hFT:∀t (h:t ∈ io.reads),FT t=(famT t h).choose:=λt h=>dif_pos h
   let eQ:Env:=(List.range e0.length).map λt=>if t ∈ io.reads then (FT t).at fm.length else .any
   have heQ:∀t ∈ io.reads,eQ.getD t (.tup [])=(FT t).at fm.length:=by
    intro t ht
    by_cases htl:t<e0.length
    ·have:eQ[t]?=some (if t ∈ io.reads then (FT t).at fm.length else .any):=by
      show ((List.range e0.length).map _)[t]?=_;rw[List.getElem?_map,List.getElem?_range htl];rfl
     rw[List.getD_eq_getElem?_getD,this,if_pos ht];rfl
    ·have h1:eQ[t]?=none:=by show ((List.range e0.length).map _)[t]?=none;simp;omega
     have h2:AV.tup []=(FT t).at (Sm j).length:=by
      rw[hFT t ht];refine Eq.trans ?_ (famT t ht).choose_spec.1;rw[List.getD_eq_getElem?_getD,List.getElem?_eq_none (by rw[hlenL];omega)];rfl
     rw[List.getD_eq_getElem?_getD,h1];show AV.tup []=_;generalize FT t=F at h2;cases F with
     | ag fs=>cases h2
     | one f=>cases f with
      | c v=>exact h2
      | p o=>cases h2
      | s o l k g=>cases h2
   have hEQ:EnvR kf (fm++[qf j]) eQ a.tmps:=by
    refine⟨by simp[eQ,hI.tl],λt=>?_⟩
    by_cases ht:t ∈ io.reads
    ·rw[heQ t ht,hFT t ht];have:=(famT t ht).choose_spec.2.2.1 []
     rw[List.append_nil,List.length_nil,Nat.add_zero] at this;exact this
    ·by_cases htl:t<e0.length
     ·have:eQ[t]?=some (if t ∈ io.reads then (FT t).at fm.length else .any):=by
       show ((List.range e0.length).map _)[t]?=_;rw[List.getElem?_map,List.getElem?_range htl];rfl
      rw[List.getD_eq_getElem?_getD,this,if_neg ht];simp[VR]
     ·have h1:eQ[t]?=none:=by show ((List.range e0.length).map _)[t]?=none;simp;omega
      have h2:a.tmps[t]?=none:=by have:=hI.tl;simp;omega
      rw[List.getD_eq_getElem?_getD,h1,Array.getD_eq_getD_getElem?,h2];exact zO
   let FO:Opd->Fam:=fun|.t t=>FT t|.c v=>.one (.c v)
   have hrd:∀t,Opd.t t ∈ io.args->t ∈ io.reads:=λt h=>List.mem_append_left _ (List.mem_filterMap.2 ⟨_,h,rfl⟩)
   have hA1:io.args.map (·.ev (envL iops e0 eF (Lst listed)))=(io.args.map FO).map (Fam.at (Sm j).length):=by
    rw[List.map_map];refine List.map_congr_left λp hp=>?_
    cases p with
    | c v=>rfl
    | t t=>
     show (envL iops e0 eF (Lst listed)).getD t (.tup [])=(FT t).at _;rw[hFT t (hrd t hp)];exact (famT t (hrd t hp)).choose_spec.1
   have hA2:io.args.map (·.ev eQ)=(io.args.map FO).map (Fam.at fm.length):=by
    rw[List.map_map];refine List.map_congr_left λp hp=>?_
    cases p with
    | c v=>rfl
    | t t=>exact heQ t (hrd t hp)
   have hAl:∀F ∈ io.args.map FO,F.low fm.length:=by
    intro F hF;obtain⟨p,hp,rfl⟩:=List.mem_map.1 hF;cases p with
    | c v=>
     have:=List.all_eq_true.1 hargs _ hp
     exact AV.belowB_mono (Nat.zero_le _) this
    | t t=>
     show (FT t).low _;rw[hFT t (hrd t hp)];exact (famT t (hrd t hp)).choose_spec.2.1
   have hop:∃F:Fam,(∀d,io.dst=some d->d<e0.length->eF.getD d (.tup [])=F.at (Sm j).length)/\F.low fm.length/\(zbm iops (ancs [] (ops.toList.map zy)) b i=true->∃o,F = .one (.p o))/\(zeY iops i=true->∃v,F = .one (.c v)) /\
     ap call io.k (io.args.map (·.ev eQ)) (Sm m++[.own tag cs])=some (F.at fm.length,Sm m++[.own tag cs]):=by
    rw[hA2];obtain⟨k,hk⟩:=zbh (iops:=iops) its 0 i (hall i hlt);obtain⟨v,hv1,hv2⟩:=hseenL k (hv i k hk);rw[hA1] at hv1;split at hkind
    ·rename_i es x1 x2 hk1 hk2;rw[hk1,hk2] at hv1 ⊢;rw[hk2] at hAl;obtain⟨F,g1,g2,g3,g4⟩:=fam_iadr (call:=call) (F1:=FO x1) (F2:=FO x2) hv1;refine⟨F,λd h1 h2=>by rw[<- hv2 d h1 h2];exact g1,g2 _ (hAl _ (by simp)),λhel=>?_,λhco=>(by unfold zeY at hco;rw[hgd,hk1] at hco;cases hco),g3 _ _⟩;unfold zbm at hel;simp only[Bool.and_eq_true] at hel;have hel:=hel.2;rw[hgd,hk1,hk2] at hel;cases x1 with
     | c w=>cases hel
     | t tb=>
      have hel:((iops.getD b zU).dst==some tb)=true:=hel;rw[List.getD_eq_getElem?_getD,hob] at hel;have hel:ob.dst=some tb:=by simpa using hel
      have htr:=hrd tb (by rw[hk2];simp)
      by_cases htl:tb<e0.length
      ·have hsh:=(famT tb htr).choose_spec.2.2.2.1 htl hel;rw[<- hFT tb htr] at hsh;rcases hsh with⟨o,ho⟩|hsh
       ·exfalso
        obtain⟨_,_,_,_,_,_,h1,_⟩:=zdl hv1;have h1:(FT tb).at _=_:=h1;rw[ho] at h1;cases h1
       ·exact g4 hsh
      ·exfalso
       obtain⟨_,_,_,_,_,_,h1,_⟩:=zdl hv1;have h1:(FT tb).at _=_:=h1;have h2:AV.tup []=(FT tb).at (Sm j).length:=by
        rw[hFT tb htr];refine Eq.trans ?_ (famT tb htr).choose_spec.1;rw[List.getD_eq_getElem?_getD,List.getElem?_eq_none (by rw[hlenL];omega)];rfl
       rw[h1] at h2;cases h2
    ·rename_i t hk1 hk2;rw[Bool.and_eq_true] at hkind;obtain⟨hvis,hkind⟩:=hkind;have hvis:=List.contains_iff_mem.1 hvis;obtain⟨v2,hv3,hv4⟩:=hseenL (j+1) (hv i (j+1) hvis);rw[hA1,hk1,hk2] at hv3;rw[hk1,hk2];obtain⟨y,hy1,hy2⟩:=List.any_eq_true.1 hkind;simp only[Bool.and_eq_true,decide_eq_true_eq] at hy2;obtain⟨⟨hy3,hy4⟩,hy5⟩:=hy2;have hyl:=han y hy1;have hyo:=List.getElem?_eq_getElem hy5;have hyd:iops[y].dst=some t:=by
      rw[List.getD_eq_getElem?_getD,hyo] at hy3;simpa using hy3
     have htr:=hrd t (by rw[hk2];simp);have htl:t<e0.length:=by
      refine Classical.byContradiction λhtl=>?_
      have h2:AV.tup []=(FT t).at (Sm j).length:=by
       rw[hFT t htr];refine Eq.trans ?_ (famT t htr).choose_spec.1;rw[List.getD_eq_getElem?_getD,List.getElem?_eq_none (by rw[hlenL];omega)];rfl
      have hv3:ap call .load1 [(FT t).at (Sm j).length] (Sm (j+1))=some (v2,Sm (j+1)):=hv3;rw[<- h2] at hv3;simp[ap] at hv3
     obtain⟨o,ho⟩:=(famT t htr).choose_spec.2.2.2.2.1 htl y _ hyo hyd hyl hy4;rw[<- hFT t htr] at ho;have hv3:ap call .load1 [(FT t).at (Sm j).length] (Sm (j+1))=some (v2,Sm (j+1)):=hv3;rw[ho,h5] at hv3;have hv3:ap call .load1 [.ptr (Sm j).length o] (Sm j++[.own tag cs])=some (v2,Sm j++[.own tag cs]):=hv3;have hld:∀S:St,(S++[Blk.own tag cs]).load1 S.length o=cs[o]?:=λS=>by
      unfold St.load1;rw[List.getElem?_append_right (Nat.le_refl _)];simp[Blk.cells]
     simp only[ap,hld,Option.map_eq_some_iff] at hv3;obtain⟨u0,hu0,hu1⟩:=hv3;have hu1:u0=v2:=congrArg Prod.fst hu1;refine⟨.one (.c u0),λd h1 h2=>(hv4 d h1 h2).symm.trans hu1.symm,?_,λhel=>?_,λ_=>⟨_,rfl⟩,?_⟩
     ·obtain⟨c,elem,fr,_,_,_,_,hcell⟩:=h7.row;obtain⟨_,vv,_,hvr⟩:=hcell o u0 hu0;exact hvr.below
     ·unfold zbm at hel;simp only[Bool.and_eq_true] at hel;have hel:=hel.2;rw[hgd,hk1] at hel;cases hel
     ·show ap call .load1 [(FT t).at fm.length] (Sm m++[.own tag cs])=_;rw[ho];show ap call .load1 [.ptr fm.length o] (Sm m++[.own tag cs])=_;rw[hnl];simp only[ap,hld,hu0,Option.map_some];rfl
    ·rename_i z ps hk1;rw[hk1] at hv1 ⊢;obtain⟨F,g1,g2,g3⟩:=zg7 (call:=call) hv1;refine⟨F,λd h1 h2=>by rw[<- hv2 d h1 h2];exact g1,g2 _ hAl (zM.2 λc hc=>AV.belowB_mono (Nat.zero_le _) (zM.1 hkind c hc)),λhel=>?_,λhco=>(by unfold zeY at hco;rw[hgd,hk1] at hco;cases hco),g3 _ _⟩;unfold zbm at hel;simp only[Bool.and_eq_true] at hel;have hel:=hel.2;rw[hgd,hk1] at hel;cases hel
    ·rename_i bop hk1;rw[hk1] at hv1 ⊢;have hsm2:(io.args.map FO).map (Fam.at (Sm j).length)=(io.args.map FO).map (Fam.at fm.length):=by
      rw[List.map_map,List.map_map];refine List.map_congr_left λp hp=>?_
      cases p with
      | c v=>rfl
      | t t=>
       have h9:=List.all_eq_true.1 hkind _ hp;have h9:((List.range iops.length).all λy=>!((iops.getD y zU).dst==some t)||(y != b&&(!((ancs [] (ops.toList.map zy)).getD y []).contains b||zeY iops y)))=true:=h9;rw[List.all_eq_true] at h9;obtain⟨v,hv⟩:=(famT t (hrd t hp)).choose_spec.2.2.2.2.2 (λy oy h1 h2=>by
        have hyl:=(List.getElem?_eq_some_iff.1 h1).1;have h10:=h9 y (List.mem_range.2 hyl);have hyg:iops.getD y zU=oy:=by rw[List.getD_eq_getElem?_getD,h1];rfl
        rw[hyg,h2] at h10;simp only[beq_self_eq_true,Bool.not_true,Bool.false_or,Bool.and_eq_true,bne_iff_ne,Bool.or_eq_true,Bool.not_eq_true'] at h10;refine⟨h10.1,h10.2.imp (λh=>?_) id⟩;intro hm;rw[List.contains_iff_mem.2 hm] at h;cases h)
       show (FT t).at _=(FT t).at _;rw[hFT t (hrd t hp),hv];rfl
     rw[hsm2] at hv1;refine⟨.one (.c v),λd h1 h2=>(hv2 d h1 h2).symm,binS_low hv1,λhel=>?_,λ_=>⟨_,rfl⟩,(ze2 (k:=.binS bop) rfl hv1).2 _ _⟩;unfold zbm at hel;simp only[Bool.and_eq_true] at hel;have hel:=hel.2;rw[hgd,hk1] at hel;cases hel
    ·cases hkind
   obtain⟨F,hF1,hF2,hF3,hF3c,hF4⟩:=hop;have R0:R kf kt w0 (fm++[qf j]) (Sm m++[.own tag cs]) w:=hI.rel.adopt hp.out hp.size hp.free (RowAt.kept (ext:=[qf j]) rfl h7)
   let X:Nat->Prop:=λk=>∃(j' b':Nat),m<=j'/\(zd iops its)[j']?=some b'/\Lst listed b'/\j'≠j/\k=(qf j').1.block
   have hX:∀k,X k->k<w.heap.size:=by
    rintro k ⟨j',b',h1,h2,h3,_,rfl⟩
    obtain⟨_,_,hp'⟩:=hI.pend j' b' h1 h2 h3;exact hp'.size
   have hRB:=R0.rebase hX (λb2 k2 p hk2 hp2 he2=>by
    rintro ⟨j',b',h1,h2,h3,hne,h4⟩
    obtain⟨_,_,hp'⟩:=hI.pend j' b' h1 h2 h3;rw[zo] at hk2;rw[zo,hnl] at hp2;split at hk2
    ·rename_i hlt2;rw[if_pos hlt2] at hp2;exact hp'.free b2 k2 p hk2 hp2 he2 h4
    ·rename_i hlt2;rw[if_neg hlt2] at hp2;split at hk2
     ·rename_i he3;rw[if_pos he3] at hp2;cases hp2;exact hI.apart j b j' b' hmj h1 hb h2 hl h3 (λh=>hne h.symm) h4
     ·cases hk2)
   refine (zcu (i:=i) hcall (hGm w0 w X hX _ R0.below hG) hcomp hEQ hRB ((hexo _ _).trans hF4) ?_ ho).2;intro ext u w' hR' hvu;have hext:ext=[]:=by
    have h9:=R0.len;have h10:=hR'.len;rw[List.length_append] at h10;exact List.eq_nil_of_length_eq_zero (by omega)
   subst hext;rw[List.append_nil] at hR' hvu;have hRw:R kf kt w0 (fm++[qf j]) (Sm m++[.own tag cs]) w':=R0.unbase hR';have hRm:R kf kt w0 fm (Sm m) w':=hI.rel.pop (ext:=[qf j]) rfl hRw;have hrow':RowAt kf kt (fm++[qf j]) w' tag cs (qf j):=hRw.blk (Sm m).length (.own tag cs) (qf j) (by simp) (by rw[<- hnl];simp);have hsz:w.heap.size<=w'.heap.size:=hR'.below.size;have hLb:∀j' b',m<=j'->(zd iops its)[j']?=some b'->Lst (listed.setIfInBounds i true) b'->Lst listed b':=by
    intro j' b' h1 h2 h3;rcases (hsetL b').1 h3 with h|h
    ·subst h;have:=(zaN its _ (List.mem_of_getElem? h2)).2
     rw[hgd,hsmall] at this;cases this
    ·exact h
   refine ih qf _ m fm w' _ ?_ ?_ hcnt hQ
   ·refine⟨by simp[hI.size],hclosed',hI.le,λj' b' h1 h2=>(hsetL b').2 (.inr (hI.low j' b' h1 h2)),htl' u,?_,hRm,?_,?_,by rw[za7];exact hI.ds,?_⟩
    ·intro t ht;have hti:io.dst≠some t:=λh=>ht ⟨i,io,j,b,(hsetL i).2 (.inl rfl),hio,h,hmj,hb,(hsetL b).2 (.inr hl),.inr hin⟩
     have hnp:¬ PDst iops (ops.toList.map zy) (zd iops its) listed m t:=λ⟨x,ox,j',b',g1,g2,g3,g4,g5,g6,g7⟩=>ht ⟨x,ox,j',b',(hsetL x).2 (.inr g1),g2,g3,g4,g5,(hsetL b').2 (.inr g6),g7⟩
     rw[hother u t hti];refine⟨?_,λhn=>(hI.tmps t hnp).2 λ⟨y,oy,hy,hoy,hd⟩=>hn ⟨y,oy,(hsetL y).2 (.inr hy),hoy,hd⟩⟩
     rintro ⟨y,oy,hy,hoy,hd⟩
     rcases (hsetL y).1 hy with rfl|hy
     ·rw[hio] at hoy;cases hoy;exact absurd hd hti
     ·exact (hI.tmps t hnp).1 ⟨y,oy,hy,hoy,hd⟩
    ·intro j' b' h1 h2 h3;have h3:=hLb j' b' h1 h2 h3;obtain⟨ob',hob',hp'⟩:=hI.pend j' b' h1 h2 h3;obtain⟨tag2,cs2,mk2,g5,g6,g7,g8⟩:=hp'.row;refine⟨ob',hob',hp'.float,⟨tag2,cs2,mk2,g5,g6,?_,λd hd hdl=>?_⟩,hp'.out,Nat.lt_of_lt_of_le hp'.size hsz,hp'.free⟩
     ·by_cases hjj:j'=j
      ·subst hjj;rw[h5] at g5;have hcc:tag2=tag/\cs2=cs:=by
        have:=List.append_cancel_left g5
        simp at this;exact⟨this.1.symm,this.2.symm⟩
       obtain⟨rfl,rfl⟩:=hcc;exact RowAt.narrow (RowAt.below g7) hrow'
      ·have:=RowAt.kept (ext:=[]) (w':=w') (hR'.below.block _ (.inr ⟨j',b',h1,h2,h3,hjj,rfl⟩)) g7
       simpa using this
     ·have hdi:io.dst≠some d:=by
       have hb'i:b'≠i:=λh=>hunl (h ▸ h3)
       exact hs.dst b' ob' d i io hob' hd hio hb'i
      rw[hother u d hdi];exact g8 d hd hdl
    ·intro j1 b1 j2 b2 h1 h2 h3 h4 h9 h10 hne;exact hI.apart j1 b1 j2 b2 h1 h2 h3 h4 (hLb j1 b1 h1 h3 h9) (hLb j2 b2 h2 h4 h10) hne
    ·intro x ox j' b' d g1 g2 g3 g4 g5 g6 g7 g8;have g7n:=hLb j' b' g5 g6 g7;rcases (hsetL x).1 g1 with hx|g1n
     ·rw[hx] at g2 g8;have hjj:=huni j' b' g5 g6 g7n g8;rw[hjj] at g6 ⊢;rw[hb] at g6;have hbb:b=b':=by simpa using g6
      rw[hio] at g2;have hoo:io=ox:=by simpa using g2
      rw[<- hbb,hx];rw[<- hoo] at g3;refine⟨F,hF1 d g3 (by omega),hF2,hF3,hF3c,λext2=>?_⟩;rw[hown u d g3 (by rw[hI.tl];omega)];exact fam_move hvu hF2
     ·obtain⟨F',f1,f2,f3,f3c,f4⟩:=hI.fol x ox j' b' d g1n g2 g3 g4 g5 g6 g7n g8;have hxi:x≠i:=λh=>hunl (h ▸ g1n)
      refine⟨F',f1,f2,f3,f3c,λext2=>?_⟩;rw[hother u d (hs.dst x ox d i io g2 g3 hio hxi)];exact f4 ext2
   ·intro b' h1 h2;exact htop b' h1 (hLb m b' (Nat.le_refl m) h1 h2)
  have hfree:∀(j b:Nat),m<=j->(zd iops its)[j]?=some b->Lst listed b->b ∉ (ancs [] (ops.toList.map zy)).getD i []:=λj b h1 h2 h3 h4=>hpen ⟨j,b,h1,h2,h3,h4⟩
  have hreadsNP:∀t ∈ io.reads,¬ PDst iops (ops.toList.map zy) (zd iops its) listed m t:=by
   rintro t ht ⟨x,ox,j,b,g1,g2,g3,g4,g5,g6,g7⟩
   have hne:x≠i:=λh=>hunl (h ▸ g1)
   rcases hs.sees x ox t i io g2 g3 hio hne ht with h|h
   ·exact hunl (zaC hs.lt hI.closed hL x g1 i h.2)
   ·rcases g7 with rfl|g7
    ·exact hfree j x g4 g5 g6 h
    ·exact hfree j b g4 g5 g6 (zfH hs.lt i h g7)
  have hlookP:ze6 iops (ops.toList.map zy) e0 eF i io (envP iops (ops.toList.map zy) (zd iops its) e0 eF listed m):=by
   intro t ht;rw[zec (hreadsNP t ht)];exact hlook t ht
  let X:Nat->Prop:=λk=>∃(j b:Nat),m<=j/\(zd iops its)[j]?=some b/\Lst listed b/\k=(qf j).1.block
  have hX:∀k,X k->k<w.heap.size:=by
   rintro k ⟨j,b,hmj,hb,hl,rfl⟩
   obtain⟨_,_,hp⟩:=hI.pend j b hmj hb hl;exact hp.size
  have hRB:=hI.rel.rebase hX (λb k p hk hp he=>by
   rintro ⟨j,b',hmj,hb,hl,h⟩
   obtain⟨_,_,hpe⟩:=hI.pend j b' hmj hb hl;exact hpe.free b k p hk hp he h)
  have hseen:∀k,Seen call iops (ops.toList.map zy) e0 eF Sm i k->∃v,exOp call io (envP iops (ops.toList.map zy) (zd iops its) e0 eF listed m) (Sm k)=some (v,if zl io.k then Sm k else Sm (k+1)) /\
    (∀d,io.dst=some d->d<e0.length->v=eF.getD d (.tup [])):=by
   rintro k ⟨o',e',v,h1,h2,h3,h4⟩
   rw[hio] at h1;cases h1;exact⟨v,by rw[zbv (hlookP.same h2)];exact h3,h4⟩
  by_cases hearly:∃k,m<k/\(zd iops its)[k]?=some i
  ·-- it comes ahead of its turn
   obtain⟨k,hmk,hk⟩:=hearly;have hbig:zl io.k=false:=by rw[<- hgd];exact (zaN its _ (List.mem_of_getElem? hk)).2
   have hmlt:m<(zd iops its).length:=by have:=(List.getElem?_eq_some_iff.1 hk).1;omega
   have hbm:=List.getElem?_eq_getElem hmlt;have hfl:io.floats=true:=by
    rcases zcA hbigs m k _ _ hbm hk hmk with h|h
    ·exact absurd (han _ h) (htop _ hbm)
    ·rw[hgd] at h;exact h
   obtain⟨k',hk1,hk2⟩:=zaT (iops:=iops) its 0 i (hall i hlt) (by rw[hgd];exact hbig);have hkk:k'=k:=hbinj k' k i hk1 hk;subst hkk;rw[Nat.zero_add] at hk2;obtain⟨v,hx,hval⟩:=hseen k' (hv i k' hk2);rw[hbig] at hx;simp only[Bool.false_eq_true,if_false] at hx;obtain⟨tag,cs,mk,hS,hvm,hmk',hrun,hbelow⟩:=zgc hfl hx;refine (zcu (i:=i) hcall (hGm w0 w X hX _ hI.rel.below hG) hcomp hE hRB (hrun (Sm m)) ?_ ho).2;intro ext u w' hR' hvu;have hext:ext.length=1:=by
    have h8:=hI.rel.len;have h9:=hR'.len;rw[List.length_append,List.length_append] at h9;simp only[List.length_cons,List.length_nil] at h9;omega
   obtain⟨q,rfl⟩:∃q,ext=[q]:=by
    match ext,hext with
    | [q],_=>exact⟨q,rfl⟩
   have hflen:=hI.rel.len;have hnew:(Sm m++[Blk.own tag cs])[(Sm m).length]?=some (.own tag cs):=by simp
   have hnewf:(fm++[q])[(Sm m).length]?=some q:=by rw[<- hflen];simp
   have hrow':RowAt kf kt (fm++[q]) w' tag cs q:=hR'.blk _ _ _ hnew hnewf;have hcsb:AV.belowsB fm.length cs=true:=hbelow _ λt _=>(hE.rel t).below
   have hRm:R kf kt w0 fm (Sm m) w':=(hI.rel).unbase (hRB.pop hext hR');have hlowq:=hR'.low _ _ _ hnew hnewf rfl;have hkeepq:∀(j b:Nat),m<=j->(zd iops its)[j]?=some b->Lst listed b->w'.heap[(qf j).1.block]?=w.heap[(qf j).1.block]?:=by
    intro j b hmj hb hl;exact hR'.below.block _ (.inr ⟨j,b,hmj,hb,hl,rfl⟩)
   have hnk:∀(j b:Nat),(zd iops its)[j]?=some b->Lst listed b->j≠k':=by
    intro j b hb hl h;subst h;rw[hk] at hb;cases hb;exact hunl hl
   have hsame:∀(j b:Nat),(zd iops its)[j]?=some b->Lst (listed.setIfInBounds i true) b->(j=k'/\b=i)\/(j≠k'/\Lst listed b):=by
    intro j b hb hl;rcases (hsetL b).1 hl with h|h
    ·subst h;exact .inl ⟨hbinj j k' b hb hk,rfl⟩
    ·exact .inr ⟨hnk j b hb h,h⟩
   refine ih (λj=>if j=k' then q else qf j) _ m fm w' _ ?_ ?_ hcnt hQ
   ·refine⟨by simp[hI.size],hclosed',hI.le,λj b hb hj=>(hsetL b).2 (.inr (hI.low j b hb hj)),htl' u,?_,hRm,?_,?_,by rw[za7];exact hI.ds,?_⟩
    ·intro t ht;have hti:io.dst≠some t:=λh=>ht ⟨i,io,k',i,(hsetL i).2 (.inl rfl),hio,h,by omega,hk,(hsetL i).2 (.inl rfl),.inl rfl⟩
     have hnp:¬ PDst iops (ops.toList.map zy) (zd iops its) listed m t:=λ⟨x,ox,j,b,g1,g2,g3,g4,g5,g6,g7⟩=>ht ⟨x,ox,j,b,(hsetL x).2 (.inr g1),g2,g3,g4,g5,(hsetL b).2 (.inr g6),g7⟩
     rw[hother u t hti];refine⟨?_,λhn=>(hI.tmps t hnp).2 λ⟨j,oj,hj,hoj,hd⟩=>hn ⟨j,oj,(hsetL j).2 (.inr hj),hoj,hd⟩⟩
     rintro ⟨j,oj,hj,hoj,hd⟩
     rcases (hsetL j).1 hj with rfl|hj
     ·rw[hio] at hoj;cases hoj;exact absurd hd hti
     ·exact (hI.tmps t hnp).1 ⟨j,oj,hj,hoj,hd⟩
    ·intro j b hmj hb hl;rcases hsame j b hb hl with⟨rfl,rfl⟩|⟨hjk,hl⟩
     ·rw[if_pos rfl];refine⟨io,hio,hfl,⟨tag,cs,mk,hS,hmk',RowAt.narrow hcsb hrow',λd hd hdl=>⟨?_,λfm'=>?_⟩⟩,λh=>hlowq.1 (.inl h),hlowq.2,?_⟩
      ·rw[<- hval d hd (by omega),hvm]
      ·rw[hown u d hd (by rw[hI.tl];omega)];rw[<- hflen] at hvu;exact zfP hmk' hvu
      ·intro b2 k2 p hk2 hp2 he2;have hlt2:=(List.getElem?_eq_some_iff.1 hk2).1;refine hR'.sep b2 _ k2 _ p q (by rw[List.getElem?_append_left hlt2];exact hk2) hnew (by rw[List.getElem?_append_left (by omega)];exact hp2) hnewf he2 rfl (by omega)
     ·rw[if_neg hjk];obtain⟨ob,hob,hp⟩:=hI.pend j b hmj hb hl;obtain⟨tag2,cs2,mk2,h5,h6,h7,h8⟩:=hp.row;refine⟨ob,hob,hp.float,⟨tag2,cs2,mk2,h5,h6,?_,λd hd hdl=>?_⟩,hp.out,Nat.lt_of_lt_of_le hp.size hR'.below.size,hp.free⟩
      ·have:=RowAt.kept (ext:=[]) (w':=w') (hkeepq j b hmj hb hl) h7
       simpa using this
      ·have hdi:io.dst≠some d:=by
        have hbi:b≠i:=λh=>hunl (h ▸ hl)
        exact hs.dst b ob d i io hob hd hio hbi
       rw[hother u d hdi];exact h8 d hd hdl
    ·intro j b j' b' hmj hmj' hb hb' hl hl' hne;rcases hsame j b hb hl with⟨h8,_⟩|⟨hjk,hl1⟩<;>rcases hsame j' b' hb' hl' with⟨h9,_⟩|⟨hjk',hl1'⟩
     ·exact absurd (h8.trans h9.symm) hne
     ·rw[if_pos h8,if_neg hjk'];intro h;exact hlowq.1 (.inr ⟨j',b',hmj',hb',hl1',h⟩)
     ·rw[if_neg hjk,if_pos h9];intro h;exact hlowq.1 (.inr ⟨j,b,hmj,hb,hl1,h.symm⟩)
     ·rw[if_neg hjk,if_neg hjk'];exact hI.apart j b j' b' hmj hmj' hb hb' hl1 hl1' hne
    ·intro x ox j b d g1 g2 g3 g4 g5 g6 g7 g8;rcases (hsetL x).1 g1 with hx|g1n
     ·rw[hx] at g8;rcases (hsetL b).1 g7 with hbx|g7n
      ·rw[hbx] at g8;exact absurd (an_lt hs.lt _ g8) (Nat.lt_irrefl _)
      ·exact absurd g8 (hfree j b g5 g6 g7n)
     ·rcases (hsetL b).1 g7 with hbx|g7n
      ·rw[hbx] at g8;exact absurd (zaC hs.lt hI.closed hL x g1n _ g8) hunl
      ·have hjk:j≠k':=hnk j b g6 g7n;obtain⟨F,f1,f2,f3,f3c,f4⟩:=hI.fol x ox j b d g1n g2 g3 g4 g5 g6 g7n g8;refine⟨F,f1,f2,f3,f3c,λext=>?_⟩;have hxi:x≠i:=λh=>hunl (h ▸ g1n)
       rw[if_neg hjk,hother u d (hs.dst x ox d i io g2 g3 hio hxi)];exact f4 ext
   ·intro b hb hl;rcases hsame m b hb hl with⟨h,_⟩|⟨_,hl⟩
    ·omega
    ·exact htop b hb hl
  ·-- it comes in its turn
   have hstep:∃v,exOp call io (envP iops (ops.toList.map zy) (zd iops its) e0 eF listed m) (Sm m)=some (v,if zl io.k then Sm m else Sm (m+1))/\(∀d,io.dst=some d->d<e0.length->v=eF.getD d (.tup [])) /\
     (zl io.k=false->(zd iops its)[m]?=some i):=by
    by_cases hsm:zl io.k=true
    ·by_cases hpu:zd0 io.k=true
     ·obtain⟨k,hk⟩:=zbh (iops:=iops) its 0 i (hall i hlt);obtain⟨v,h1,h2⟩:=hseen k (hv i k hk);rw[if_pos hsm] at h1;exact⟨v,by rw[if_pos hsm];exact (zea hpu h1).2 _,h2,λh=>by rw[hsm] at h;cases h⟩
     ·have hrd:zaY io.k=true:=by
       unfold zl at hsm;rw[Bool.or_eq_true] at hsm;exact hsm.resolve_left hpu
      have hmem:(i,m) ∈ zI iops 0 its:=by
       unfold zeL at hreads;have h1:=zav hreads hio;simp only[hrd,Bool.not_true,Bool.false_or,List.all_eq_true] at h1;have h2:=h1 m (List.mem_range.2 (by have:=hI.le;omega));simp only[Bool.or_eq_true,Bool.not_eq_true',List.contains_iff_mem] at h2;rcases h2 with h2|h2
       ·exfalso
        rw[<- Bool.not_eq_true] at h2;apply h2;simp only[Bool.and_eq_true,List.all_eq_true,Bool.not_eq_true'];refine⟨λb hb=>?_,λb hb=>?_⟩
        ·obtain⟨j,hj⟩:=List.getElem?_of_mem hb;rw[List.getElem?_take] at hj;split at hj
         ·rename_i hjm;have:=hI.low j b hj hjm
          rw[<- Bool.not_eq_true,List.contains_iff_mem];intro hin;exact hunl (zaC hs.lt hI.closed hL b this i hin)
         ·cases hj
        ·obtain⟨j,hj⟩:=List.getElem?_of_mem hb;rw[List.getElem?_drop] at hj;rw[<- Bool.not_eq_true,List.contains_iff_mem];intro hin;exact hfree _ b (by omega) hj (han b hin) hin
       ·exact h2
      obtain⟨v,h1,h2⟩:=hseen m (hv i m hmem);exact⟨v,h1,h2,λh=>by rw[hsm] at h;cases h⟩
    ·have hsm':zl io.k=false:=by simpa using hsm
     obtain⟨k,h1,h2⟩:=zaT (iops:=iops) its 0 i (hall i hlt) (by rw[hgd];exact hsm');rw[Nat.zero_add] at h2;have hkm:k=m:=by
      rcases Nat.lt_trichotomy k m with h|h|h
      ·exact absurd (hI.low k i h1 h) hunl
      ·exact h
      ·exact absurd ⟨k,h,h1⟩ hearly
     subst hkm;obtain⟨v,h3,h4⟩:=hseen k (hv i k h2);exact⟨v,h3,h4,λ_=>h1⟩
   obtain⟨v,hx,hval,hbig⟩:=hstep;refine (zcu (i:=i) hcall (hGm w0 w X hX _ hI.rel.below hG) hcomp hE hRB hx ?_ ho).2;intro ext u w' hR' hvu;have hRm:=(hI.rel).unbase hR';have hweak:DInv kf kt w0 iops (ops.toList.map zy) (zd iops its) e0 eF Sm ds qf (listed.setIfInBounds i true) (if zl io.k then m else m+1) (fm++ext) w' (a.put o.dst u):=by
    have hle:m<=(if zl io.k then m else m+1):=by split<;>omega
    have hold:∀(j b:Nat),(if zl io.k then m else m+1)<=j->(zd iops its)[j]?=some b->Lst (listed.setIfInBounds i true) b->Lst listed b:=by
     intro j b hmj hb hl;rcases (hsetL b).1 hl with h|h
     ·exfalso
      subst h
      by_cases hsm:zl io.k=true
      ·have:=(zaN its _ (List.mem_of_getElem? hb)).2
       rw[hgd,hsm] at this;cases this
      ·rw[if_neg hsm] at hmj;have:=hbinj j m b hb (hbig (by simpa using hsm));omega
     ·exact h
    refine⟨by simp[hI.size],hclosed',?_,?_,htl' u,?_,?_,?_,?_,by rw[za7];exact hI.ds,?_⟩
    ·split
     ·exact hI.le
     ·rename_i hsm;have:=(List.getElem?_eq_some_iff.1 (hbig (by simpa using hsm))).1
      omega
    ·intro j b hb hj;rw[hsetL]
     by_cases hsm:zl io.k=true
     ·rw[if_pos hsm] at hj;exact .inr (hI.low j b hb hj)
     ·rw[if_neg hsm] at hj
      by_cases hjm:j=m
      ·subst hjm;rw[hbig (by simpa using hsm)] at hb;cases hb;exact .inl rfl
      ·exact .inr (hI.low j b hb (by omega))
    ·intro t ht
     by_cases hti:io.dst=some t
     ·refine⟨λ_=>?_,λhn=>absurd ⟨i,io,(hsetL i).2 (.inl rfl),hio,hti⟩ hn⟩
      by_cases htl:t<a.tmps.size
      ·rw[hown u t hti htl,<- hval t hti (by rw[<- hI.tl];exact htl)];exact hvu
      ·have e1:eF[t]?=none:=by have:=hI.tl;simp;omega
       have e2:(a.put o.dst u).tmps[t]?=none:=by have:=htl' u;have:=hI.tl;simp;omega
       rw[List.getD_eq_getElem?_getD,e1,Array.getD_eq_getD_getElem?,e2];exact zO
     ·have hnp:¬ PDst iops (ops.toList.map zy) (zd iops its) listed m t:=by
       rintro ⟨x,ox,j,b,g1,g2,g3,g4,g5,g6,g7⟩
       by_cases hj:(if zl io.k then m else m+1)<=j
       ·exact ht ⟨x,ox,j,b,(hsetL x).2 (.inr g1),g2,g3,hj,g5,(hsetL b).2 (.inr g6),g7⟩
       ·have hjm:j=m:=by split at hj<;>omega
        subst hjm;exact htop b g5 g6
      rw[hother u t hti];refine⟨?_,λhn=>((hI.tmps t hnp).2 λ⟨j,oj,hj,hoj,hd⟩=>hn ⟨j,oj,(hsetL j).2 (.inr hj),hoj,hd⟩).mono⟩
      rintro ⟨j,oj,hj,hoj,hd⟩
      rcases (hsetL j).1 hj with rfl|hj
      ·rw[hio] at hoj;cases hoj;exact absurd hd hti
      ·exact ((hI.tmps t hnp).1 ⟨j,oj,hj,hoj,hd⟩).mono
    ·by_cases hsm:zl io.k=true
     ·rw[if_pos hsm] at hRm ⊢;exact hRm
     ·rw[if_neg hsm] at hRm ⊢;exact hRm
    ·intro j b hmj hb hl;have hl:=hold j b hmj hb hl;have hmj':m<=j:=by omega
     obtain⟨ob,hob,hp⟩:=hI.pend j b hmj' hb hl;obtain⟨tag2,cs2,mk2,h5,h6,h7,h8⟩:=hp.row;refine⟨ob,hob,hp.float,⟨tag2,cs2,mk2,h5,h6,?_,λd hd hdl=>?_⟩,hp.out,Nat.lt_of_lt_of_le hp.size hR'.below.size,?_⟩
     ·exact RowAt.kept (hR'.below.block _ (.inr ⟨j,b,hmj',hb,hl,rfl⟩)) h7
     ·have hdi:io.dst≠some d:=by
       have hbi:b≠i:=λh=>hunl (h ▸ hl)
       exact hs.dst b ob d i io hob hd hio hbi
      rw[hother u d hdi];exact h8 d hd hdl
     ·intro b2 k2 p hk2 hp2 he2 h;have hk3:(if zl io.k=true then Sm m else Sm (m+1))[b2]?=some k2:=by
       by_cases hsm:zl io.k=true
       ·rw[if_pos hsm] at hk2 ⊢;exact hk2
       ·rw[if_neg hsm] at hk2 ⊢;exact hk2
      have hgoal:=hR'.low b2 k2 p hk3 hp2 he2;exact hgoal.1 (.inr ⟨j,b,hmj',hb,hl,h⟩)
    ·intro j b j' b' hmj hmj' hb hb' hl hl' hne;exact hI.apart j b j' b' (by omega) (by omega) hb hb' (hold j b hmj hb hl) (hold j' b' hmj' hb' hl') hne
    ·intro x ox j b d g1 g2 g3 g4 g5 g6 g7 g8;have g7n:=hold j b g5 g6 g7;have hmj:m<=j:=by omega
     rcases (hsetL x).1 g1 with hx|g1n
     ·rw[hx] at g8;exact absurd g8 (hfree j b hmj g6 g7n)
     ·obtain⟨F,f1,f2,f3,f3c,f4⟩:=hI.fol x ox j b d g1n g2 g3 g4 hmj g6 g7n g8;have hxi:x≠i:=λh=>hunl (h ▸ g1n)
      refine⟨F,f1,Fam.low_mono (by simp) f2,f3,f3c,λext2=>?_⟩;rw[hother u d (hs.dst x ox d i io g2 g3 hio hxi)];have f5:=f4 (ext++ext2);rw[<- List.append_assoc] at f5;rw[List.length_append] at f5 ⊢;rw[Nat.add_assoc];exact f5
   obtain⟨m',ext2,h9,h10⟩:=hweak.settle hs hbinj hlen _ _ _ rfl;exact ih qf _ m' _ w' _ h9 h10 hcnt λext3 a' w2 h1 h2 h3=>hQ (ext++ext2++ext3) a' w2 (by simpa using h1) (by simpa using h2) h3
theorem sim_dreg{G:Base->Prop}{call:AV->List AV->St->Option (AV × St)}(hcall:CallOk P kf kt G call)(hGm:zch G)(hG:G w0){ops:Array Oper}{iops:List IOp}{id:Nat}
  {e e':Env} {S S':St} {fm:FM} {w:World} {a:Act} {r:Option Nat} {Q:Exit->Act->World->Prop} (hm:mapO (zcb P kf kt ops) ops.toList=some iops)
  (hok:zeK iops (ops.toList.map zy) (sched iops (ops.toList.map zy))=true) (hP:P.follows .mixedOrders=true)
  (hR:R kf kt w0 fm S w) (he:EnvR kf fm e a.tmps) (hx:zj call iops (sched iops (ops.toList.map zy)) e S=some (e',S'))
  (hQ:∀ext a' w',R kf kt w0 (fm++ext) S' w'->EnvR kf (fm++ext) e' a'.tmps->a'.defers=a.defers->Q .normal a' w') :
  (Code.region id ops true).wpIn (FR r) 0 P Q a w:=by
 generalize hits:sched iops (ops.toList.map zy)=its at hok hx;unfold zeK at hok;simp only[Bool.and_eq_true] at hok;obtain⟨⟨⟨⟨⟨h1,h2⟩,h3⟩,h4⟩,h45⟩,h5⟩:=hok;have hs:=ssa_of h1;have hall:∀i,i<iops.length->i ∈ zac its:=by
  intro i hi;simp only[List.all_eq_true] at h3;exact List.contains_iff_mem.1 (h3 i (List.mem_range.2 hi))
 obtain⟨hml,_⟩:=zeO hm;have hsize:ops.size=iops.length:=by simpa using hml
 obtain⟨hlen,hkeep⟩:=zbt _ _ _ _ _ hx;have hno:∀t,¬ Hit iops (· ∈ ([]:List Nat)) t:=λt ⟨j,o,hj,_⟩=>by cases hj
 obtain⟨Sm,h6,h7,h8⟩:=zaL hs its [] 0 e S (λt=>⟨λh=>absurd h (hno t),λ_=>rfl⟩) rfl (λi ps _ hi=>by cases hi) (λi hi=>by cases hi) h2 hx;rw[Nat.zero_add] at h7;refine wpIn_region_any hP ?_;have hL:∀i,¬ Lst (Array.replicate ops.size false) i:=by
  intro i hi;have hlt:=lst_lt hi;simp only[Array.size_replicate] at hlt;simp[Lst,hlt] at hi
 refine any_main hcall hGm hG hm hs h2 hall h4 h45 h5 hlen (λt ht=>hkeep t λ⟨j,o,hj,hoj,hd⟩=>ht ⟨j,o,(List.getElem?_eq_some_iff.1 hoj).1,hoj,hd⟩) h8 (ds:=a.defers) ops.size (λ_=>(⟨0,0,none⟩,0)) _ 0 fm _ a ?_
  (λb _=>hL b) ?_ λext a' w' h9 h10 h11=>hQ ext a' w' (h7 ▸ h9) h10 h11
 ·refine⟨by simp[hsize],λi ps _ hi=>absurd hi (hL i),Nat.zero_le _,λj b _ h=>by omega,he.len.symm,λt _=>?_,by rw[h6];exact hR.drawn _,λj b _ _ h=>absurd h (hL b),λj b j' b' _ _ _ _ h=>absurd h (hL b),rfl,λx _ _ _ _ h=>absurd h (hL x)⟩;exact⟨λ⟨j,o,hj,_⟩=>absurd hj (hL j),λ_=>he.rel t⟩
 ·rw[hsize];have:∀(n:Nat) (f:Nat->Bool),cnt n f<=n:=by
   intro n f
   induction n with
   | zero=>simp[cnt]
   | succ n ih=>simp only[cnt];split<;>omega
  exact this _ _
end
end Am
end
section
namespace Am
open Go Go.RowKit
def zhf:Ex->Exit
 | .normal=>.normal
 | .ret=>.ret
 | .exit id=>.exit id
section
variable {kf kt:Nat->Nat} {w0:Base} {P:Program}
theorem zgl{G:Base->Prop}{call:AV->List AV->St->Option (AV × St)}(hcall:CallOk P kf kt G call)(hG:G w0){ops:Array Oper}{r:Option Nat}{e':Env}{S':St}{Q:Exit->Act->World->Prop} :
  ∀(os:List Oper) (ios:List IOp) (i:Nat) (_:∀j,os[j]?=ops[i+j]?) (_:mapO (zcb P kf kt ops) os=some ios)
   (e:Env) (S:St) (fm:FM) (w:World) (a:Act) (_:R kf kt w0 fm S w) (_:EnvR kf fm e a.tmps) (_:zX call ios e S=some (e',S'))
   (_:∀ext a' w',R kf kt w0 (fm++ext) S' w'->EnvR kf (fm++ext) e' a'.tmps->a'.defers=a.defers->Q .normal a' w'),
   wpOpsIn (FR r) 0 P ops Q (List.range' i os.length) a w
 | [],ios,i,_,hm,e,S,fm,w,a,hR,he,hx,hQ=>by
  simp only[mapO] at hm;cases hm;simp only[zX] at hx;cases hx;simp only[List.length_nil,List.range'_zero];have:=hQ [] a w (by simpa using hR) (by simpa using he) rfl
  simpa [wpOpsIn] using this
 | o::os,ios,i,hs,hm,e,S,fm,w,a,hR,he,hx,hQ=>by
  simp only[mapO,Option.bind_eq_some_iff,Option.map_eq_some_iff] at hm;obtain⟨io,hio,ios',hios,rfl⟩:=hm;simp only[zX,Option.bind_eq_some_iff] at hx;obtain⟨⟨v,S1⟩,hx1,hx2⟩:=hx;rw[List.length_cons,List.range'_succ,wpOpsIn_cons];have ho:ops[i]?=some o:=by have:=hs 0;simpa using this.symm
  refine (zcu (i:=i) (S':=S1) (v:=v) hcall hG hio he hR hx1 ?_ ho).2;intro ext u w' hR' hv;have hd:io.dst=o.dst:=(zcu (i:=i) (S':=S1) (v:=v) (r:=r) (K:=λ_ _=>True) (Q:=λ_ _ _=>True) hcall hG hio he hR hx1 (λ_ _ _ _ _=>trivial) ho).1;rw[hd] at hx2;refine zgl hcall hG os ios' (i+1) (λj=>by have:=hs (j+1);simpa [Nat.add_comm,Nat.add_left_comm] using this) hios _ S1 (fm++ext) w' _ hR' ((he.mono (ext:=ext)).put o.dst hv) hx2 ?_;intro ext2 a' w2 h1 h2 h3;refine hQ (ext++ext2) a' w2 (by simpa using h1) (by simpa using h2) ?_;rw[h3,za7]
theorem zdX{fm:FM}{live:List Nat}{e:Env}{tmps:Array Value}(he:EnvR kf fm e tmps):EnvR kf fm (zB live e) tmps:=by
 refine⟨by simp[zB,he.len],λi=>?_⟩;have:=he.rel i
 simp only[zB,List.getD_eq_getElem?_getD,List.getElem?_mapIdx] at this ⊢;cases h:e[i]? with
 | none=>simpa [h] using this
 | some v=>
  simp only[h,Option.map_some,Option.getD_some] at this ⊢;split
  ·exact this
  ·simp[VR]
def zhv(kf kt:Nat->Nat)(w0:Base)(fm:FM)(x:Ex)(e':Env)(S':St)(ds:List Deferred)(Q:Exit->Act->World->Prop):Prop :=
 ∀ext a' w',R kf kt w0 (fm++ext) S' w'->EnvR kf (fm++ext) e' a'.tmps->a'.defers=ds->Q (zhf x) a' w'
theorem zg2{f:Loc->St->Option (Ex × Loc × St)}(hf:∀l S x l' S',f l S=some (x,l',S')->l'.ds=l.ds) :
  ∀(n:Nat) (l:Loc) (S:St) (x:Ex) (l':Loc) (S':St),iter f n l S=some (x,l',S')->l'.ds=l.ds
 | 0,l,S,x,l',S',h=>by simp[iter] at h
 | n+1,l,S,x,l',S',h=>by
  simp only[iter] at h;split at h
  ·rename_i l1 S1 h1;rw[zg2 hf n _ _ _ _ _ h,hf _ _ _ _ _ h1]
  ·exact hf _ _ _ _ _ h
theorem code_ds{call:AV->List AV->St->Option (AV × St)}{N:Nat} :
  ∀(code:Code) (ls:List (List Nat)) (l l':Loc) (S S':St) (x:Ex),exC call N (zan P kf kt code ls).1 l S=some (x,l',S')->l'.ds=l.ds:=by
 intro code
 induction code with
 | region id ops draw=>
  intro ls l l' S S' x hx;simp only[zan,zeZ] at hx;split at hx
  ·simp[exC] at hx
  ·split at hx
   ·split at hx
    ·simp only[exC,Option.map_eq_some_iff] at hx;obtain⟨y,_,h9⟩:=hx;cases h9;rfl
    ·simp[exC] at hx
   ·simp only[exC,Option.map_eq_some_iff] at hx;obtain⟨y,_,h9⟩:=hx;cases h9;rfl
 | seq c d ihc ihd=>
  intro ls l l' S S' x hx;simp only[zan,exC] at hx;split at hx
  ·rename_i l1 S1 h1;rw[ihd _ _ _ _ _ _ hx,ihc _ _ _ _ _ _ h1]
  ·exact ihc _ _ _ _ _ _ hx
 | cond c a b iha ihb=>
  intro ls l l' S S' x hx;simp only[zan] at hx;cases hc:cv kf c with
  | none=>simp[hc,exC] at hx
  | some p=>
   simp only[hc,exC] at hx;split at hx
   ·exact iha _ _ _ _ _ _ hx
   ·exact ihb _ _ _ _ _ _ hx
   ·cases hx
 | block id c ih=>
  intro ls l l' S S' x hx;simp only[zan,exC] at hx;split at hx
  ·rename_i id' l1 S1 h1;have:=ih _ _ _ _ _ _ h1
   split at hx<;>cases hx<;>exact this
  ·exact ih _ _ _ _ _ _ hx
 | loop c ih=>
  intro ls l l' S S' x hx;simp only[zan,exC] at hx;exact zg2 (λl S x l' S' h=>by have:=ih _ _ _ _ _ _ h;simpa using this) N _ _ _ _ _ hx
 | _=>
  intro ls l l' S S' x hx;simp only[zan,exC] at hx<;>cases hx<;>rfl
theorem ze9{F:Fence}{c:Code}{f:Loc->St->Option (Ex × Loc × St)}
  (hf:∀(l l':Loc) (S S':St) (x:Ex) (fm:FM) (w:World) (a:Act) (Q:Exit->Act->World->Prop) (_:R kf kt w0 fm S w) (_:EnvR kf fm l.e a.tmps)
   (_:f l S=some (x,l',S')) (_:zhv kf kt w0 fm x l'.e S' a.defers Q),c.wpIn F 0 P Q a w) :
  ∀(n:Nat) (l l':Loc) (S S':St) (x:Ex) (fm:FM) (w:World) (a:Act) (Q:Exit->Act->World->Prop) (_:x ≠ .normal) (_:R kf kt w0 fm S w) (_:EnvR kf fm l.e a.tmps)
   (_:iter f n l S=some (x,l',S')) (_:zhv kf kt w0 fm x l'.e S' a.defers Q),Code.roundsIn F 0 P c Q n a w
 | 0,l,l',S,S',x,fm,w,a,Q,_,hR,he,hx,hQ=>by simp[iter] at hx
 | n+1,l,l',S,S',x,fm,w,a,Q,hne,hR,he,hx,hQ=>by
  simp only[iter] at hx;rw[roundsIn_succ];split at hx
  ·rename_i l1 S1 h1;refine hf l l1 S S1 .normal fm w a _ hR he h1 ?_;intro ext a1 w1 h2 h3 h4;refine ze9 hf n l1 l' S1 S' x (fm++ext) w1 a1 Q hne h2 h3 hx ?_;intro ext2 a' w' h5 h6 h7;exact hQ (ext++ext2) a' w' (by simpa using h5) (by simpa using h6) (by rw[h7,h4])
  ·rename_i hnn;refine hf l l' S S' x fm w a _ hR he hx ?_;intro ext a' w' h5 h6 h7;have:=hQ ext a' w' h5 h6 h7
   cases x with
   | normal=>exact absurd rfl hne
   | ret=>exact this
   | exit id=>exact this
theorem zbj{f:Loc->St->Option (Ex × Loc × St)}:∀(n:Nat) (l:Loc) (S:St) (l':Loc) (S':St),iter f n l S≠some (.normal,l',S')
 | 0,l,S,l',S',h=>by simp[iter] at h
 | n+1,l,S,l',S',h=>by
  simp only[iter] at h;split at h
  ·exact zbj n _ _ _ _ h
  ·rename_i h1;exact h1 _ _ h
theorem sim_code{G:Base->Prop}{call:AV->List AV->St->Option (AV × St)}(hcall:CallOk P kf kt G call)(hGm:zch G)(hG:G w0){N:Nat}{r:Option Nat} :
  ∀(code:Code) (ls:List (List Nat)) (l l':Loc) (S S':St) (x:Ex) (fm:FM) (w:World) (a:Act) (Q:Exit->Act->World->Prop) (_:R kf kt w0 fm S w) (_:EnvR kf fm l.e a.tmps)
   (_:exC call N (zan P kf kt code ls).1 l S=some (x,l',S')) (_:zhv kf kt w0 fm x l'.e S' a.defers Q),code.wpIn (FR r) 0 P Q a w:=by
 intro code
 induction code with
 | skip=>
  intro ls l l' S S' x fm w a Q hR he hx hQ;simp only[zan,exC] at hx;cases hx;exact wpIn_skip (hQ [] a w (by simpa using hR) (by simpa using he) rfl)
 | label n=>
  intro ls l l' S S' x fm w a Q hR he hx hQ;simp only[zan,exC] at hx;cases hx;exact wpIn_label (hQ [] a w (by simpa using hR) (by simpa using he) rfl)
 | ret=>
  intro ls l l' S S' x fm w a Q hR he hx hQ;simp only[zan,exC] at hx;cases hx;exact wpIn_ret (hQ [] a w (by simpa using hR) (by simpa using he) rfl)
 | exit id=>
  intro ls l l' S S' x fm w a Q hR he hx hQ;simp only[zan,exC] at hx;cases hx;exact wpIn_exit (hQ [] a w (by simpa using hR) (by simpa using he) rfl)
 | region id ops draw=>
  intro ls l l' S S' x fm w a Q hR he hx hQ;simp only[zan,zeZ] at hx;cases hm:mapO (zcb P kf kt ops) ops.toList with
  | none=>simp[hm,exC] at hx
  | some iops=>
   simp only[hm] at hx;cases draw with
   | true=>
    simp only[if_true] at hx;split at hx
    ·rename_i hh;simp only[Bool.and_eq_true] at hh;simp only[exC,Option.map_eq_some_iff] at hx;obtain⟨⟨e',S1⟩,hx,h9⟩:=hx;cases h9;exact sim_dreg hcall hGm hG hm hh.1 hh.2 hR he hx λext a' w' h1 h2 h3=>hQ ext a' w' h1 h2 h3
    ·simp[exC] at hx
   | false=>
    simp only[Bool.false_eq_true,if_false,exC,Option.map_eq_some_iff] at hx;obtain⟨⟨e',S1⟩,hx,h9⟩:=hx;cases h9;refine wpIn_region ?_;have:=zgl (r:=r) (Q:=Q) hcall hG (ops:=ops) ops.toList iops 0 (λj=>by simp) hm l.e S fm w a hR he hx λext a' w' h1 h2 h3=>hQ ext a' w' h1 h2 h3
    simpa [List.range_eq_range'] using this
 | seq c d ihc ihd=>
  intro ls l l' S S' x fm w a Q hR he hx hQ;simp only[zan,exC] at hx;refine wpIn_seq ?_;split at hx
  ·rename_i l1 S1 h1;refine ihc ls l l1 S S1 .normal fm w a _ hR he h1 ?_;intro ext a1 w1 h2 h3 h4;refine ihd _ l1 l' S1 S' x (fm++ext) w1 a1 Q h2 h3 hx ?_;intro ext2 a' w' h5 h6 h7;exact hQ (ext++ext2) a' w' (by simpa using h5) (by simpa using h6) (by rw[h7,h4])
  ·rename_i hnn;refine ihc ls l l' S S' x fm w a _ hR he hx ?_;intro ext a' w' h5 h6 h7;have:=hQ ext a' w' h5 h6 h7
   cases x with
   | normal=>exact absurd hx (hnn _ _)
   | ret=>exact this
   | exit id=>exact this
 | cond c y z ihy ihz=>
  intro ls l l' S S' x fm w a Q hR he hx hQ;simp only[zan] at hx;cases hc:cv kf c with
  | none=>simp[hc,exC] at hx
  | some p=>
   simp only[hc,exC] at hx;have hv:=cv_rel hc he;split at hx
   ·rename_i hp;rw[hp] at hv;simp only[VR] at hv;exact wpIn_cond_true hv (ihy _ _ _ _ _ _ _ _ _ _ hR he hx hQ)
   ·rename_i hp;rw[hp] at hv;simp only[VR] at hv;exact wpIn_cond_false hv (ihz _ _ _ _ _ _ _ _ _ _ hR he hx hQ)
   ·cases hx
 | block id c ih=>
  intro ls l l' S S' x fm w a Q hR he hx hQ;simp only[zan,exC] at hx;refine wpIn_block ?_;split at hx
  ·rename_i id' l1 S1 h1;refine ih _ _ _ _ _ _ _ _ _ _ hR he h1 ?_;intro ext a' w' h5 h6 h7;split at hx
   ·rename_i hi;cases hx;have:=hQ ext a' w' h5 h6 h7
    simpa [zhf,Exit.inBlock,hi] using this
   ·rename_i hi;cases hx;have:=hQ ext a' w' h5 h6 h7
    simpa [zhf,Exit.inBlock,hi] using this
  ·rename_i hnn;refine ih _ _ _ _ _ _ _ _ _ _ hR he hx ?_;intro ext a' w' h5 h6 h7;have:=hQ ext a' w' h5 h6 h7
   cases x with
   | normal=>exact this
   | ret=>exact this
   | exit id=>exact absurd hx (hnn _ _ _)
 | loop c ih=>
  intro ls l l' S S' x fm w a Q hR he hx hQ;simp only[zan,exC] at hx;refine wpIn_loop_rounds N ?_;refine ze9 (λl l' S S' x fm w a Q hR he hx hQ=>?_) N l l' S S' x fm w a Q (λh=>?_) hR he hx hQ
  ·exact ih _ _ _ _ _ _ _ _ _ _ hR (zdX he) hx hQ
  ·subst h;exact zbj _ _ _ _ _ hx
 | _=>
  intro ls l l' S S' x fm w a Q hR he hx hQ;simp[zan,exC] at hx
end
end Am
end
