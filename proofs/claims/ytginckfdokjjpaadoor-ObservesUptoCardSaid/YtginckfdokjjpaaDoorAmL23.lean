/- Walks: Observes,ObserveAll. -/
import Derived.Test.YtginckfdokjjpaaDoorAmOb
import Derived.Test.YtginckfdokjjpaaDoorAmGL23W
import Derived.Test.YtginckfdokjjpaaDoorAmAwk
import Derived.Test.YtginckfdokjjpaaDoorAmSm
import Derived.Test.YtginckfdokjjpaaDoorAmJd
import Derived.Test.YtginckfdokjjpaaDoorAmJg
open Nat (reduceAdd reduceMul)
open Int (reduceToNat)
set_option linter.unusedSimpArgs false
set_option linter.unusedVariables false
namespace Am.F
open Go Am
theorem obs_big{ns:List Nd}(hT:zcy ns){f:Int}:ns.length<=512/\(obsO f ns).length<=512/\∀y ∈ obsO f ns,y.length<9223372036854775800:=by
 have l512:ns.length<=512:=by
  refine Nat.le_of_not_lt λhlt=>?_
  have:=(hT.2 512 _ (List.getElem?_eq_getElem (by omega))).1
  omega
 have hl:=zcX f ns ns.length (Nat.le_refl _);rw[List.take_length] at hl;refine⟨l512,by omega,λy hy=>?_⟩;have hy':y ∈ obsO f (ns.take ns.length):=by rw[List.take_length];exact hy
 obtain⟨x,hx,rfl⟩:=zeB f ns ns.length (Nat.le_refl _) hy';obtain⟨q,hq⟩:=List.mem_iff_getElem?.1 hx;obtain⟨h1,h2,h3,h4,h5⟩:=zcG (hT.2 q x hq).2.1;unfold zbC;have bound:∀(ws:List (List UInt8)) (M:Nat),(∀w ∈ ws,w.length<=M)->(Lib.join ws [32]).length<=ws.length*(M+1):=by
  intro ws M
  induction ws with
  | nil=>intro _;simp[Lib.join]
  | cons w ws ih=>
   intro hw;have h1:=hw w List.mem_cons_self;have ih:=ih λx hx=>hw x (List.mem_cons_of_mem _ hx)
   cases ws with
   | nil=>simp[Lib.join];omega
   | cons v vs=>
    have e:Lib.join (w::v::vs) [32]=w++[32]++Lib.join (v::vs) [32]:=by simp[Lib.join]
    rw[e,List.length_append,List.length_append,List.length_cons (a:=w)];simp only[List.length_cons,List.length_nil] at ih ⊢;have e1:(vs.length+1+1)*(M+1)=(vs.length+1)*(M+1)+(M+1):=Nat.succ_mul _ _;omega
 have hit:(102::Lib.itoa x.fn).length<=1024:=by
  have:=zeF (x:=x.fn) (by omega) (by omega)
  simp only[List.length_cons];omega
 have:=bound ((102::Lib.itoa x.fn)::(x.args++[[61],x.res])) 1024 λw hw=>by
  rcases List.mem_cons.1 hw with rfl|hw
  ·exact hit
  ·rcases List.mem_append.1 hw with hw|hw
   ·exact (h3 w hw).2
   ·rcases List.mem_cons.1 hw with rfl|hw
    ·simp
    ·rw[List.mem_singleton.1 hw];exact h5
 simp only[List.length_cons,List.length_append,List.length_nil] at this;have h6:(x.args.length+(0+1+1)+1)*(1024+1)<=6*1025:=Nat.mul_le_mul (by omega) (by omega);omega
theorem zc5.sl{h h':H}{v:AV}{xs:List (List UInt8)}(s:zc5 h h' v xs):SlAt h' v (strs xs):=by
 obtain⟨lo,hi,_,h2,h3⟩:=s;exact h3.sl h2
section
variable {β:Type} {t:ETree}
set_option maxHeartbeats 1000000 in
theorem GL23.w304(TL:GL23 t)(TO:GO23 t)(TR:GR23 t)(TP:GP t)(TS:GT12 t)(TC:GC t)(TB:GB t)(T:GA t)(L:GI t)(hA:t.get 264=some (eAw 264))(n M:Nat){h:H}{v:AV}{ns:List Nd}(hn:ns.length+M+4000<=n)(hv:LAt 4 NdC h v ns)(hf:∀x ∈ ns,zf7 x)(hM:∀x ∈ ns,x.args.length<=M)(hMs:M<=1048576)(hl:ns.length<=1048576)(f:Int) :
  Sp (β:=β) (za t stdI n (.fn 304 []) [v,.int .i64 f] h) λu h'=>u = .bool true:=by
 intro k R hk;have hroom:room=68719476736:=rfl;obtain⟨m,rfl⟩:∃m,n=m+2:=⟨n-2,by omega⟩
 have haw:=λ(hh:H) (kk:K β)=>awk_q (β:=β) (k:=264) rfl hA m hh kk
 rw[TL.c304];unfold f304;simp (disch:=first|omega|simp only[zD]<;>omega|assumption) only[↓zR,↓zRM,zR,zRM,reduceAdd,reduceMul,reduceToNat];refine TB.w244 (m+1) hv.nds (by omega) (λx hx=>by have:=hM x hx;omega) (by omega) _ _ ?_;intro xv h1 ⟨e1,hxv⟩;simp (disch:=first|omega|simp only[zD]<;>omega|assumption) only[↓zR,↓zRM,zR,zRM,reduceAdd,reduceMul,reduceToNat];refine TO.w266 TC TB T L (m+1) (by omega) hxv.lat hf (by omega) f _ _ ?_;intro u2 h2 ⟨e2,p1,p2⟩;have W3:=TR.w307 (β:=β) TS TB T (m+1) M (by omega) (hv.ext NdC.stays (e1.trans e2)) hf hM (by omega) (by omega) f
 by_cases may:zfq ns f
 case neg=>
  have eu2:=p2 may;subst eu2;simp (disch:=first|omega|simp only[zD]<;>omega|assumption) only[↓zR,↓zRM,zR,zRM,reduceAdd,reduceMul,reduceToNat];refine W3 _ _ ?_;intro u3 h3 ⟨e3,q1,q2⟩;have eu3:=q2 may;subst eu3;have h15:=λ(kk:K β)=>T.w15 (m+1) (xs:=[]) (ys:=[]) (v:=.nils) (u:=.nils) (h:=h3) (.inl ⟨rfl,rfl⟩) (.inl ⟨rfl,rfl⟩) (by simp;omega) (by simp) kk
  simp (disch:=first|omega|simp only[zD]<;>omega|assumption) only[↓zR,↓zRM,zR,zRM,reduceAdd,reduceMul,reduceToNat,↓h15,T.w16,↓f304_J7];refine T.w19 (m+1) (xs:=[]) (λx hx=>by cases hx) (lo:=h3.n) (hi:=h3.n) (zE.nil _ _ _ _) (by simp;omega) (by simp) _ _ ?_;intro u4 h4 ⟨eu4,n4,low4⟩;subst eu4;have e34:Ext h3 h4:=⟨by omega,λi hi=>low4 i (.inl hi)⟩
  have S:=TP.w138 (β:=β) TB T (m+1) (hxv.lat.ext NdC.stays (e2.trans (e3.trans e34))) (hv.ext NdC.stays (e1.trans (e2.trans (e3.trans e34)))) M hM (by omega) (by omega) (by omega);simp (disch:=first|omega|simp only[zD]<;>omega|assumption) only[↓zR,↓zRM,zR,zRM,reduceAdd,reduceMul,reduceToNat];refine S _ _ ?_;intro u5 h5 ⟨e5,eu5⟩;subst eu5;simp (disch:=first|omega|simp only[zD]<;>omega|assumption) only[↓zR,↓zRM,zR,zRM,reduceAdd,reduceMul,reduceToNat,haw];exact hk _ _ rfl
 obtain⟨w2,eu2,nt2⟩:=p1 may;subst eu2;simp (disch:=first|omega|simp only[zD]<;>omega|assumption) only[↓zR,↓zRM,zR,zRM,reduceAdd,reduceMul,reduceToNat];refine W3 _ _ ?_;intro u3 h3 ⟨e3,q1,q2⟩;refine Exists.elim (q1 may) λw3 hw3=>?_
 have eu3:=hw3.1;subst eu3;have big:=obs_big may.1 (f:=f);have h15:=λ(kk:K β)=>T.w15 (m+1) (h:=h3) (nt2.sl.ext e3) hw3.2.sl (by omega) (by omega) kk
 refine Exists.elim nt2 λlo nt=>Exists.elim nt λhi nt=>?_
 have ow:=nt.2.2.ext e3 nt.2.1;have en3:=e3.n;simp (disch:=first|omega|simp only[zD]<;>omega|assumption) only[↓zR,↓zRM,zR,zRM,reduceAdd,reduceMul,reduceToNat,↓h15,T.w16,↓f304_J7];refine T.w19 (m+1) big.2.2 ow (by omega) (by omega) _ _ ?_;intro u4 h4 ⟨eu4,n4,low4⟩;subst eu4;have e14:Ext h1 h4:=⟨by have:=e2.n;omega,λi hi=>by rw[low4 i (.inl (by have:=nt.1;omega)),(e2.trans e3).get i hi]⟩
 have S:=TP.w138 (β:=β) TB T (m+1) (hxv.lat.ext NdC.stays e14) (hv.ext NdC.stays (e1.trans e14)) M hM (by omega) (by omega) (by omega);simp (disch:=first|omega|simp only[zD]<;>omega|assumption) only[↓zR,↓zRM,zR,zRM,reduceAdd,reduceMul,reduceToNat];refine S _ _ ?_;intro u5 h5 ⟨e5,eu5⟩;subst eu5;simp (disch:=first|omega|simp only[zD]<;>omega|assumption) only[↓zR,↓zRM,zR,zRM,reduceAdd,reduceMul,reduceToNat,haw];exact hk _ _ rfl
end
end Am.F
