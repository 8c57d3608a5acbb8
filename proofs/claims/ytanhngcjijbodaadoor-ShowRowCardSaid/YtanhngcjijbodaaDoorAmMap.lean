/- Maps whose keys are texts: made,looked at,set. -/
import Derived.Test.YtanhngcjijbodaaDoorAmJa
import Derived.MapKept
namespace Am
open Go Go.RowKit
section
variable {kf kt:Nat->Nat} {w0:Base} {fm:FM} {S:St} {w:World} {P:Program}
theorem zcO{a b:ByteArray}:(a.data.toList==b.data.toList)=true↔a=b:=by
 obtain⟨⟨a⟩⟩:=a;obtain⟨⟨b⟩⟩:=b;constructor
 ·intro h;have h:a=b:=by simpa using h
  rw[h]
 ·intro h;cases h;simp
theorem zeM{bs bs':ByteArray}:Instr.sameNow .string (.string bs) (.string bs')=some (bs==bs'):=rfl
theorem zcI{bs:ByteArray}:∀{r:List (List UInt8 × AV)} {es:List MapEntry} (i:Nat),MapR kf fm r es->z7 bs.data.toList r=none->Instr.findNow .string (.string bs) es i=some none
 | [],es,i,h,_=>by
  have h:es=[]:=h;rw[h];rfl
 | (k,v)::r,es,i,h,hf=>by
  obtain⟨e,es',rfl,⟨bs',hb,hk⟩,_,_,h5⟩:=h;unfold z7 at hf;split at hf
  ·cases hf
  ·rename_i hne;have hne':(bs==bs')=false:=by
    cases hh:bs==bs' with
    | false=>rfl
    | true=>exact absurd (by rw[<- hk];exact zcO.2 ((MapKept.bytes_beq bs bs').1 hh)) hne
   have ih:=zcI (i+1) h5 hf;simp[Instr.findNow,hb,zeM,hne',ih]
theorem zcH{bs:ByteArray}{v:AV}:∀{r:List (List UInt8 × AV)} {es:List MapEntry} (i:Nat),MapR kf fm r es->z7 bs.data.toList r=some v ->
  ∃j e,Instr.findNow .string (.string bs) es i=some (some (i+j,e.val))/\es[j]?=some e/\e.key = .string bs/\v.sc=true/\VR kf fm v e.val /\
   ∀(v':AV) (u:Value),v'.sc=true->VR kf fm v' u->MapR kf fm (zbf bs.data.toList v' r) (es.set j { e with key:=.string bs,val:=u })
 | [],es,i,h,hf=>by cases hf
 | (k,v0)::r,es,i,h,hf=>by
  obtain⟨e,es',rfl,⟨bs',hb,hk⟩,hs,hv,h5⟩:=h;unfold z7 at hf;split at hf
  ·rename_i he;cases hf;have hbb:bs=bs':=zcO.1 (by rw[hk];exact he);subst hbb;have hbe:(bs==bs)=true:=(MapKept.bytes_beq bs bs).2 rfl;refine⟨0,e,by simp[Instr.findNow,hb,zeM,hbe],rfl,hb,hs,hv,λv' u h1 h2=>?_⟩;unfold zbf;rw[if_pos he];exact⟨_,es',rfl,⟨bs,rfl,hk⟩,h1,h2,h5⟩
  ·rename_i hne;have hne':(bs==bs')=false:=by
    cases hh:bs==bs' with
    | false=>rfl
    | true=>exact absurd (by rw[<- hk];exact zcO.2 ((MapKept.bytes_beq bs bs').1 hh)) hne
   obtain⟨j,e1,q1,q2,q3,q4,q5,q6⟩:=zcH (i+1) h5 hf;refine⟨j+1,e1,?_,q2,q3,q4,q5,λv' u h1 h2=>?_⟩
   ·simp[Instr.findNow,hb,zeM,hne',q1];omega
   ·unfold zbf;rw[if_neg hne];exact⟨e,es'.set j _,rfl,⟨bs',hb,hk⟩,hs,hv,q6 v' u h1 h2⟩
theorem zfa{bs:ByteArray}{v':AV}{u:Value}{born:Nat}(h1:v'.sc=true)(h2:VR kf fm v' u):∀{r:List (List UInt8 × AV)} {es:List MapEntry},MapR kf fm r es->z7 bs.data.toList r=none->MapR kf fm (zbf bs.data.toList v' r) (es++[⟨.string bs,u,born⟩])
 | [],es,h,_=>by
  have h:es=[]:=h;rw[h];exact⟨_,[],rfl,⟨bs,rfl,rfl⟩,h1,h2,rfl⟩
 | (k,v)::r,es,h,hf=>by
  obtain⟨e,es',rfl,hkk,hs,hv,h5⟩:=h;unfold z7 at hf;unfold zbf;split at hf
  ·cases hf
  ·rename_i hne;rw[if_neg hne];exact⟨e,_,rfl,hkk,hs,hv,zfa h1 h2 h5 hf⟩
theorem zcF{t:TypeId}(h:zd1 P t=true):∃k e,P.underlying t=some (.map k e)/\P.underlying k=some .string:=by
 unfold zd1 at h;split at h
 ·rename_i k e hu;split at h
  ·rename_i hk;exact⟨k,e,hu,hk⟩
  ·cases h
 ·cases h
theorem zfK{t k e:TypeId}{z:AV}(hu:P.underlying t=some (.map k e))(h:zero1 P kf t=some z):∃zv,(∀w,(zeroValue e).run P w = .ok zv w)/\VR kf fm z zv/\z.sc=true:=by
 unfold zero1 at h;rw[hu] at h;simp only at h;split at h
 ·rename_i i hi;split at h
  ·rename_i zv hz;obtain⟨h1,h2⟩:=zcs (fm:=fm) h;exact⟨zv,λw=>zat hi hz w,h1,h2⟩
  ·cases h
 ·cases h
theorem ok_mkmap{t:TypeId}(h:R kf kt w0 fm S w):Ok1 kf kt w0 fm w P (Instr.makeMap t none) (.mp S.length) (S++[.map [] 0]):=by
 refine⟨[(⟨w.heap.size,0,none⟩,0)],.map (some w.heap.size),{ w with heap:=w.heap.push (.map #[] 0) },?_,h.pushMap,?_⟩
 ·simp[Instr.makeMap,newObj,Sem.run]
 ·simp only[VR];exact⟨_,zca h _,rfl⟩
theorem R.mapAt(h:R kf kt w0 fm S w){b:Nat}{es:List (List UInt8 × AV)}{c:Nat}(hb:S[b]?=some (.map es c)){x:Value}(hx:VR kf fm (.mp b) x):∃(p:Addr × Nat) (ents:Array MapEntry) (clock:Nat),fm[b]?=some p/\x = .map (some p.1.block)/\w.heap[p.1.block]?=some (.map ents clock)/\MapR kf fm es ents.toList:=by
 obtain⟨p,hp,hk⟩:=h.get hb;simp only[VR] at hx;obtain⟨q,hq,rfl⟩:=hx;rw[hp] at hq;cases hq;obtain⟨ents,clock,h1,h2⟩:=hk;exact⟨p,ents,clock,hp,rfl,h1,h2⟩
theorem zgM{t k e:TypeId}{b:Nat}{es:List (List UInt8 × AV)}{c:Nat}{s:List UInt8}{z:AV}{zv x i:Value}{ok:Bool}(h:R kf kt w0 fm S w)(ht:P.underlying t=some (.map k e))(hk:P.underlying k=some .string)
  (hz:∀w,(zeroValue e).run P w = .ok zv w) (hzr:VR kf fm z zv) (hb:S[b]?=some (.map es c)) (hx:VR kf fm (.mp b) x) (hi:VR kf fm (.str s) i) :
  Ok1 kf kt w0 fm w P (Instr.lookup t x i ok) (match z7 s es with
   | some v=>if ok then .tup [v,.bool true] else v
   | none=>if ok then .tup [z,.bool false] else z) S:=by
 obtain⟨p,ents,clock,hp,rfl,h1,h2⟩:=h.mapAt hb hx;simp only[VR] at hi;obtain⟨bs,rfl,rfl⟩:=hi;have hkey:MapKept.IsKey .string (.string bs):=trivial;cases hf:z7 bs.data.toList es with
 | none=>
  have hn:=zcI 0 h2 hf;refine Ok1.mk h (u:=if ok then .tuple #[zv,.bool false] else zv) ?_ ?_
  ·simp[Instr.lookup,run_underlying ht,MapKept.run_getObj_map h1,MapKept.run_checkKey hk hkey,MapKept.run_findKey hk hn,hz,Result.andThen]
  ·cases ok
   ·simpa using hzr
   ·simp only[if_pos];simp only[VR,VRs];exact⟨_,rfl,zv,_,rfl,hzr,_,_,rfl,rfl,rfl⟩
 | some v=>
  obtain⟨j,e0,q1,q2,q3,q4,q5,_⟩:=zcH 0 h2 hf;refine Ok1.mk h (u:=if ok then .tuple #[e0.val,.bool true] else e0.val) ?_ ?_
  ·simp[Instr.lookup,run_underlying ht,MapKept.run_getObj_map h1,MapKept.run_checkKey hk hkey,MapKept.run_findKey hk q1,Result.andThen]
  ·cases ok
   ·simpa using q5
   ·simp only[if_pos];simp only[VR,VRs];exact⟨_,rfl,e0.val,_,rfl,q5,_,_,rfl,rfl,rfl⟩
theorem zdQ{t k e:TypeId}{s:List UInt8}{z:AV}{zv x i:Value}{ok:Bool}(h:R kf kt w0 fm S w)(ht:P.underlying t=some (.map k e))(hk:P.underlying k=some .string)
  (hz:∀w,(zeroValue e).run P w = .ok zv w) (hzr:VR kf fm z zv) (hx:VR kf fm .nilm x) (hi:VR kf fm (.str s) i) :
  Ok1 kf kt w0 fm w P (Instr.lookup t x i ok) (if ok then .tup [z,.bool false] else z) S:=by
 simp only[VR] at hx;subst hx;simp only[VR] at hi;obtain⟨bs,rfl,rfl⟩:=hi;have hkey:MapKept.IsKey .string (.string bs):=trivial;have hn:Instr.findNow .string (.string bs) [] 0=some none:=rfl;refine Ok1.mk h (u:=if ok then .tuple #[zv,.bool false] else zv) ?_ ?_
 ·simp[Instr.lookup,run_underlying ht,MapKept.run_checkKey hk hkey,MapKept.run_findKey hk hn,hz,Result.andThen]
 ·cases ok
  ·simpa using hzr
  ·simp only[if_pos];simp only[VR,VRs];exact⟨_,rfl,zv,_,rfl,hzr,_,_,rfl,rfl,rfl⟩
theorem zgL{t k e:TypeId}{b:Nat}{es:List (List UInt8 × AV)}{c c':Nat}{s:List UInt8}{v:AV}{x i u:Value}(h:R kf kt w0 fm S w)(ht:P.underlying t=some (.map k e))(hk:P.underlying k=some .string)
  (hb:S[b]?=some (.map es c)) (hx:VR kf fm (.mp b) x) (hi:VR kf fm (.str s) i) (hv:VR kf fm v u) (hs:v.sc=true) :
  ∃w',(Instr.mapUpdate t x i u).run P w = .ok () w'/\R kf kt w0 fm (S.set b (.map (zbf s v es) c')) w':=by
 obtain⟨p,ents,clock,hp,rfl,h1,h2⟩:=h.mapAt hb hx;simp only[VR] at hi;obtain⟨bs,rfl,rfl⟩:=hi;have hkey:MapKept.IsKey .string (.string bs):=trivial;have turn:∀(ents':Array MapEntry) (clock':Nat),MapR kf fm (zbf bs.data.toList v es) ents'.toList->R kf kt w0 fm (S.set b (.map (zbf bs.data.toList v es) c')) { w with heap:=w.heap.setIfInBounds p.1.block (.map ents' clock') }:=λents' clock' hm=>by
  obtain⟨g1,g2⟩:=MapKept.heap_set (w:=w) (o':=.map ents' clock') h1;exact h.turn hb hp rfl g2 (by simp) rfl rfl rfl ⟨ents',clock',g1,hm⟩
 cases hf:z7 bs.data.toList es with
 | none=>
  have hn:=zcI 0 h2 hf;refine⟨_,?_,turn (ents.push ⟨.string bs,u,clock⟩) (clock+1) (by rw[Array.toList_push];exact zfa hs hv h2 hf)⟩;simp[Instr.mapUpdate,run_underlying ht,MapKept.run_getObj_map h1,MapKept.run_checkKey hk hkey,MapKept.run_findKey hk hn,MapKept.run_setObj_map _ h1,Result.andThen]
 | some v0=>
  obtain⟨j,e0,q1,q2,q3,_,_,q6⟩:=zcH 0 h2 hf;have hj:ents[j]?=some e0:=by simpa using q2
  have hlt:j<ents.size:=(Array.getElem?_eq_some_iff.1 hj).1;have hmod:(ents.modify j λe=>{ e with key:=.string bs,val:=u }).toList=ents.toList.set j { e0 with key:=.string bs,val:=u }:=by
   apply List.ext_getElem?;intro q;rw[Array.getElem?_toList,Array.getElem?_modify,List.getElem?_set]
   by_cases hq:j=q
   ·subst hq;rw[if_pos rfl,if_pos rfl,if_pos (by simpa using hlt),hj];rfl
   ·rw[if_neg hq,if_neg hq];simp
  refine⟨_,?_,turn (ents.modify j λe=>{ e with key:=.string bs,val:=u }) clock (by rw[hmod];exact q6 v u hs hv)⟩;simp[Instr.mapUpdate,run_underlying ht,MapKept.run_getObj_map h1,MapKept.run_checkKey hk hkey,MapKept.run_findKey hk q1,hj,q3,MapKept.run_keyThatStays hkey,MapKept.run_setObj_map _ h1,Result.andThen]
end
end Am
