/- A run by need with more fuel;plain. -/
import Derived.Test.YtlidemdbimpkaaaDoorAmJn
set_option linter.unusedVariables false
namespace Am.F
open Go Am
def Mc.plus(M:Mc)(d:Nat):Mc:={ M with left:=M.left+d }
theorem zi0(b:List Ex)(t:List Nat)(nd a:Int)(M:Mc)(d:Nat):kidM b t nd a (M.plus d)=((kidM b t nd a M).1,(kidM b t nd a M).2.plus d):=by
 unfold kidM;split
 ·rfl
 ·split
  ·rfl
  ·rfl
theorem zez(b:List Ex)(t:List Nat)(nd:Int)(d:Nat):∀(as:List Int) (M:Mc),zS b t nd as (M.plus d)=((zS b t nd as M).1,(zS b t nd as M).2.plus d)
 | [],M=>rfl
 | a::as,M=>by
  show ((kidM b t nd a (M.plus d)).1::(zS b t nd as (kidM b t nd a (M.plus d)).2).1,(zS b t nd as (kidM b t nd a (M.plus d)).2).2)=_;rw[zi0,zez b t nd d as];rfl
theorem ziG(M:Mc)(k:Nat)(x:Fd)(d:Nat):(M.plus d).put k x=(M.put k x).plus d:=by
 have e:(M.plus d).cells[k]?=M.cells[k]?:=rfl;unfold Mc.put;rw[e];cases M.cells[k]? with
 | none=>rfl
 | some c=>rfl
def StP(P:Pt):Prop:=∀M b t nd a,(P M b t nd a).2.out=false->M.out=false
def PlusP(d:Nat)(P:Pt):Prop:=∀M b t nd a,(P M b t nd a).2.out=false->P (M.plus d) b t nd a=((P M b t nd a).1,(P M b t nd a).2.plus d)
theorem zhy(p:List Df):∀N,StP (zj p N)
 | 0=>λM _ _ _ _ h=>h
 | N+1=>λM body there node a h=>by
  cases ho:M.out with
  | false=>rfl
  | true=>
   have e:zj p (N+1) M body there node a=(fd0,M):=by
    show (if M.out=true then _ else _:Fd × Mc)=_;rw[if_pos ho]
   rw[e] at h;have h:M.out=false:=h;rw[ho] at h;cases h
theorem zfn{d:Nat}{P:Pt}(hP:PlusP d P){M:Mc}{k:Nat}(ho:(zz P M k).2.out=false):zz P (M.plus d) k=((zz P M k).1,(zz P M k).2.plus d):=by
  unfold zz at ho ⊢;show (match M.cells[k]? with|none=>_|some c=>_:Fd × Mc)=_;cases hk:M.cells[k]? with
  | none=>rfl
  | some c=>
    rw[hk] at ho;have ho:(if c.done=true then (c.f,M) else if (P M c.body c.there c.node c.at_).2.out=true then ((((P M c.body c.there c.node c.at_).2.cells[k]?).map Cl.f).getD fd0,(P M c.body c.there c.node c.at_).2) else ((P M c.body c.there c.node c.at_).1,(P M c.body c.there c.node c.at_).2.put k (P M c.body c.there c.node c.at_).1):Fd × Mc).2.out=false:=ho;show (if c.done=true then (c.f,M.plus d) else if (P (M.plus d) c.body c.there c.node c.at_).2.out=true then ((((P (M.plus d) c.body c.there c.node c.at_).2.cells[k]?).map Cl.f).getD fd0,(P (M.plus d) c.body c.there c.node c.at_).2) else ((P (M.plus d) c.body c.there c.node c.at_).1,(P (M.plus d) c.body c.there c.node c.at_).2.put k (P (M.plus d) c.body c.there c.node c.at_).1):Fd × Mc) =
      ((if c.done=true then (c.f,M) else if (P M c.body c.there c.node c.at_).2.out=true then ((((P M c.body c.there c.node c.at_).2.cells[k]?).map Cl.f).getD fd0,(P M c.body c.there c.node c.at_).2) else ((P M c.body c.there c.node c.at_).1,(P M c.body c.there c.node c.at_).2.put k (P M c.body c.there c.node c.at_).1):Fd × Mc).1,
       (if c.done=true then (c.f,M) else if (P M c.body c.there c.node c.at_).2.out=true then ((((P M c.body c.there c.node c.at_).2.cells[k]?).map Cl.f).getD fd0,(P M c.body c.there c.node c.at_).2) else ((P M c.body c.there c.node c.at_).1,(P M c.body c.there c.node c.at_).2.put k (P M c.body c.there c.node c.at_).1):Fd × Mc).2.plus d)
    by_cases hd:c.done=true
    · rw[if_pos hd,if_pos hd]
    rw[if_neg hd] at ho;rw[if_neg hd,if_neg hd]
    by_cases hr:(P M c.body c.there c.node c.at_).2.out=true
    · rw[if_pos hr] at ho
      have ho:(P M c.body c.there c.node c.at_).2.out=false:=ho;rw[hr] at ho;cases ho
    have e:=hP M c.body c.there c.node c.at_ (by simpa using hr);rw[e,if_neg hr];show (if (P M c.body c.there c.node c.at_).2.out=true then _ else _:Fd × Mc)=_;rw[if_neg hr,ziG]
theorem zfr{p:List Df}{d:Nat}{P:Pt}(hP:PlusP d P){M:Mc}{fn parent:Int}{args:List Nat}(ho:(callM p P M fn parent args).2.out=false):callM p P (M.plus d) fn parent args=((callM p P M fn parent args).1,(callM p P M fn parent args).2.plus d):=by
 generalize hr:P (M.call fn parent args) (zm p fn.toNat) args (M.calls.length:Int) (((zm p fn.toNat).length:Int)-1)=r;have e1:callM p P M fn parent args=(r.1,if r.2.out=true then r.2 else r.2.put M.cells.length r.1):=by rw[<- hr];rfl
 rw[e1] at ho ⊢;have hro:¬ r.2.out=true:=λh=>by
  have ho:(if r.2.out=true then r.2 else r.2.put M.cells.length r.1:Mc).out=false:=ho;rw[if_pos h,h] at ho;cases ho
 have e2:=hP (M.call fn parent args) (zm p fn.toNat) args (M.calls.length:Int) (((zm p fn.toNat).length:Int)-1) (by rw[hr];simpa using hro);rw[hr] at e2;have e3:callM p P (M.plus d) fn parent args=(((P ((M.call fn parent args).plus d) (zm p fn.toNat) args (M.calls.length:Int) (((zm p fn.toNat).length:Int)-1))).1,if (P ((M.call fn parent args).plus d) (zm p fn.toNat) args (M.calls.length:Int) (((zm p fn.toNat).length:Int)-1)).2.out=true then (P ((M.call fn parent args).plus d) (zm p fn.toNat) args (M.calls.length:Int) (((zm p fn.toNat).length:Int)-1)).2 else (P ((M.call fn parent args).plus d) (zm p fn.toNat) args (M.calls.length:Int) (((zm p fn.toNat).length:Int)-1)).2.put M.cells.length (P ((M.call fn parent args).plus d) (zm p fn.toNat) args (M.calls.length:Int) (((zm p fn.toNat).length:Int)-1)).1):=rfl;rw[e3,e2,if_neg hro];show (r.1,if r.2.out=true then _ else _)=_;rw[if_neg hro,ziG]
theorem zkX{d:Nat}{P:Pt}(hP:PlusP d P)(hS:StP P){M:Mc}{body:List Ex}{there:List Nat}{node:Int}{e:Ex}(ho:(zaS P M body there node e).2.out=false):zaS P (M.plus d) body there node e=((zaS P M body there node e).1,(zaS P M body there node e).2.plus d):=by
 generalize hr:P M body there node (e.kids.getD 0 0)=r;have e1:zaS P M body there node e=if ¬ r.1.kind=1 then (zcb,r.2) else if ¬ (P r.2 body there node (e.kids.getD 1 0)).1.kind=1 then (zcb,(P r.2 body there node (e.kids.getD 1 0)).2) else (⟨1,doV e.num r.1.num (P r.2 body there node (e.kids.getD 1 0)).1.num,[]⟩,(P r.2 body there node (e.kids.getD 1 0)).2):=by rw[<- hr];rfl
 have e2:zaS P (M.plus d) body there node e=if ¬ (P (M.plus d) body there node (e.kids.getD 0 0)).1.kind=1 then (zcb,(P (M.plus d) body there node (e.kids.getD 0 0)).2) else if ¬ (P (P (M.plus d) body there node (e.kids.getD 0 0)).2 body there node (e.kids.getD 1 0)).1.kind=1 then (zcb,(P (P (M.plus d) body there node (e.kids.getD 0 0)).2 body there node (e.kids.getD 1 0)).2) else (⟨1,doV e.num (P (M.plus d) body there node (e.kids.getD 0 0)).1.num (P (P (M.plus d) body there node (e.kids.getD 0 0)).2 body there node (e.kids.getD 1 0)).1.num,[]⟩,(P (P (M.plus d) body there node (e.kids.getD 0 0)).2 body there node (e.kids.getD 1 0)).2):=rfl
 rw[e1] at ho ⊢;rw[e2]
 by_cases h1:r.1.kind=1
 ·have hn:¬ ¬ r.1.kind=1:=λh=>h h1
  rw[if_neg hn] at ho ⊢;generalize hq:P r.2 body there node (e.kids.getD 1 0)=q at ho ⊢;have hqo:q.2.out=false:=by
   split at ho
   ·exact ho
   ·exact ho
  have hro:r.2.out=false:=hS r.2 body there node (e.kids.getD 1 0) (by rw[hq];exact hqo);have f1:=hP M body there node (e.kids.getD 0 0) (by rw[hr];exact hro);have f2:=hP r.2 body there node (e.kids.getD 1 0) (by rw[hq];exact hqo);rw[hr] at f1;rw[hq] at f2;rw[f1];dsimp only;rw[if_neg hn,f2];dsimp only
  by_cases h2:¬ q.1.kind=1
  ·rw[if_pos h2,if_pos h2]
  ·rw[if_neg h2,if_neg h2]
 ·rw[if_pos h1] at ho ⊢;have hro:r.2.out=false:=ho;have f1:=hP M body there node (e.kids.getD 0 0) (by rw[hr];exact hro);rw[hr] at f1;rw[f1,if_pos h1]
set_option maxHeartbeats 1000000 in
theorem zet(p:List Df)(d:Nat):∀N,PlusP d (zj p N)
  | 0=>λM _ _ _ _ _=>rfl
  | N+1=>λM body there node a h=>by
    have ih:=zet p d N;have st:=zhy p N;have ho:=zhy p (N+1) M body there node a h
    by_cases hz:M.left=0
    · have e:zj p (N+1) M body there node a=(fd0,{ M with out:=true }):=by
        show (if M.out=true then _ else _:Fd × Mc)=_;rw[if_neg (by rw[ho];simp)];show (if M.left=0 then _ else _:Fd × Mc)=_;rw[if_pos hz]
      rw[e] at h;cases h
    have hz2:¬ (M.plus d).left=0:=by show ¬ M.left+d=0;omega
    have e1:({ M.plus d with left:=(M.plus d).left-1 }:Mc)=Mc.plus { M with left:=M.left-1 } d:=by
      show (⟨M.left+d-1,M.out,M.cells,M.calls⟩:Mc)=⟨M.left-1+d,M.out,M.cells,M.calls⟩;rw[show M.left+d-1=M.left-1+d by omega]
    cases he:body[a.toNat]? with
    | none=>
      have f:∀M':Mc,M'.out=false->¬ M'.left=0->zj p (N+1) M' body there node a=(fd0,{ M' with left:=M'.left-1 }):=λM' h1 h2=>by
        show (if M'.out=true then _ else _:Fd × Mc)=_;rw[if_neg (by rw[h1];simp)];show (if M'.left=0 then _ else _:Fd × Mc)=_;rw[if_neg h2];show (match body[a.toNat]? with|none=>_|some e=>_:Fd × Mc)=_;rw[he]
      rw[f M ho hz,f (M.plus d) ho hz2,e1]
    | some e=>
      have s1:=zcK (p:=p) (N:=N) (there:=there) (node:=node) ho hz he;have s2:=zcK (p:=p) (N:=N) (M1:=M.plus d) (there:=there) (node:=node) ho hz2 he;rw[e1] at s2;generalize ({ M with left:=M.left-1 }:Mc)=M1 at s1 s2
      by_cases c0:e.kind=0
      · rw[if_pos c0] at s1 s2
        rw[s1,s2]
      rw[if_neg c0] at s1 s2
      by_cases c1:e.kind=1
      · rw[if_pos c1] at s1 s2
        rw[s1] at h⊢;rw[s2];exact zfn ih h
      rw[if_neg c1] at s1 s2
      by_cases c2:e.kind=2
      · rw[if_pos c2] at s1 s2
        rw[s1] at h⊢;rw[s2,zez];exact zfr ih h
      rw[if_neg c2] at s1 s2
      by_cases c3:e.kind=3
      · rw[if_pos c3] at s1 s2
        rw[s1,s2,zez]
      rw[if_neg c3] at s1 s2
      by_cases c4:e.kind=4
      · rw[if_pos c4] at s1 s2
        rw[s1] at h⊢;rw[s2];exact zkX ih st h
      rw[if_neg c4] at s1 s2
      by_cases c5:e.kind=5
      · rw[if_pos c5] at s1 s2
        rw[s1] at h⊢;rw[s2];generalize hr:zj p N M1 body there node (e.kids.getD 0 0)=r at h⊢;show (if (zj p N (M1.plus d) body there node (e.kids.getD 0 0)).2.out=true\/(zj p N (M1.plus d) body there node (e.kids.getD 0 0)).1.kind=3 then zj p N (M1.plus d) body there node (e.kids.getD 0 0)
          else if (zj p N (M1.plus d) body there node (e.kids.getD 0 0)).1.kind=2/\(zj p N (M1.plus d) body there node (e.kids.getD 0 0)).1.num=e.num/\((zj p N (M1.plus d) body there node (e.kids.getD 0 0)).1.parts.length:Int)=e.bind then zj p N (zj p N (M1.plus d) body there node (e.kids.getD 0 0)).2 body (there++(zj p N (M1.plus d) body there node (e.kids.getD 0 0)).1.parts) node (e.kids.getD 1 0)
          else zj p N (zj p N (M1.plus d) body there node (e.kids.getD 0 0)).2 body there node (e.kids.getD 2 0):Fd × Mc)=_
        have h:(if r.2.out=true\/r.1.kind=3 then r else if r.1.kind=2/\r.1.num=e.num/\(r.1.parts.length:Int)=e.bind then zj p N r.2 body (there++r.1.parts) node (e.kids.getD 1 0) else zj p N r.2 body there node (e.kids.getD 2 0):Fd × Mc).2.out=false:=h;have hro:r.2.out=false:=by
          split at h
          · exact h
          · split at h
            · exact st _ _ _ _ _ h
            · exact st _ _ _ _ _ h
        have f1:=ih M1 body there node (e.kids.getD 0 0) (by rw[hr];exact hro);rw[hr] at f1;rw[f1];show (if r.2.out=true\/r.1.kind=3 then (r.1,r.2.plus d) else if r.1.kind=2/\r.1.num=e.num/\(r.1.parts.length:Int)=e.bind then zj p N (r.2.plus d) body (there++r.1.parts) node (e.kids.getD 1 0) else zj p N (r.2.plus d) body there node (e.kids.getD 2 0):Fd × Mc) =
          ((if r.2.out=true\/r.1.kind=3 then r else if r.1.kind=2/\r.1.num=e.num/\(r.1.parts.length:Int)=e.bind then zj p N r.2 body (there++r.1.parts) node (e.kids.getD 1 0) else zj p N r.2 body there node (e.kids.getD 2 0):Fd × Mc).1,
           (if r.2.out=true\/r.1.kind=3 then r else if r.1.kind=2/\r.1.num=e.num/\(r.1.parts.length:Int)=e.bind then zj p N r.2 body (there++r.1.parts) node (e.kids.getD 1 0) else zj p N r.2 body there node (e.kids.getD 2 0):Fd × Mc).2.plus d)
        by_cases a1:r.2.out=true\/r.1.kind=3
        · rw[if_pos a1,if_pos a1]
        rw[if_neg a1] at h;rw[if_neg a1,if_neg a1]
        by_cases a2:r.1.kind=2/\r.1.num=e.num/\(r.1.parts.length:Int)=e.bind
        · rw[if_pos a2] at h
          rw[if_pos a2,if_pos a2];exact ih _ _ _ _ _ h
        · rw[if_neg a2] at h
          rw[if_neg a2,if_neg a2];exact ih _ _ _ _ _ h
      rw[if_neg c5] at s1 s2
      by_cases c6:e.kind=6
      · rw[if_pos c6] at s1 s2
        rw[s1] at h⊢;rw[s2,zi0];exact ih _ _ _ _ _ h
      rw[if_neg c6] at s1 s2;rw[s1,s2]
theorem zlx{P:Pt}(hS:StP P){M:Mc}{k:Nat}(ho:M.out=true):(zz P M k).2.out=true:=by
 unfold zz;split
 ·exact ho
 ·rename_i c hc;split
  ·exact ho
  ·have hr:(P M c.body c.there c.node c.at_).2.out=true:=by
    cases h:(P M c.body c.there c.node c.at_).2.out with
    | true=>rfl
    | false=>rw[hS _ _ _ _ _ h] at ho;cases ho
   show (if (P M c.body c.there c.node c.at_).2.out=true then _ else _:Fd × Mc).2.out=true;rw[if_pos hr];exact hr
theorem zej{F:Mc->Nat->Bool × Mc}(hF:∀M k,M.out=true->(F M k).2.out=true):∀(ks:List Nat) (M:Mc),M.out=true->(zL F M ks).2.out=true
 | [],M,h=>h
 | k::ks,M,h=>by
  show (if (F M k).1=true then _ else _:Bool × Mc).2.out=true;split
  ·exact zej hF ks _ (hF M k h)
  ·exact hF M k h
theorem ziB(p:List Df):∀n M k,M.out=true->(zao p n M k).2.out=true
 | 0,M,k,h=>h
 | n+1,M,k,h=>by
  show (match M.cells[k]? with|none=>_|some c=>_:Bool × Mc).2.out=true;split
  ·exact h
  ·rename_i c hc;split
   ·exact h
   ·have h2:=zlx (zhy p 1001) (M:=M.mark k c) (k:=k) h;show (if _ then _ else _:Bool × Mc).2.out=true;split
    ·exact h2
    ·exact zej (ziB p n) _ _ h2
theorem zfb{F:Mc->Nat->Bool × Mc}{d:Nat}(hO:∀M k,M.out=true->(F M k).2.out=true)(hF:∀M k,(F M k).2.out=false->F (M.plus d) k=((F M k).1,(F M k).2.plus d)):∀(ks:List Nat) (M:Mc),(zL F M ks).2.out=false->zL F (M.plus d) ks=((zL F M ks).1,(zL F M ks).2.plus d)
 | [],M,_=>rfl
 | k::ks,M,h=>by
  have e:∀M:Mc,zL F M (k::ks)=if (F M k).1=true then zL F (F M k).2 ks else (false,(F M k).2):=λM=>rfl
  rw[e] at h⊢;rw[e];have hf:(F M k).2.out=false:=by
   cases hx:(F M k).2.out with
   | false=>rfl
   | true=>
    have:(if (F M k).1=true then zL F (F M k).2 ks else (false,(F M k).2):Bool × Mc).2.out=true:=by
     split
     ·exact zej hO ks _ hx
     ·exact hx
    rw[this] at h;cases h
  rw[hF M k hf]
  by_cases h1:(F M k).1=true
  ·rw[if_pos h1] at h;rw[if_pos h1,if_pos h1];exact zfb hO hF ks _ h
  ·rw[if_neg h1,if_neg h1]
theorem zb2(p:List Df)(n:Nat){M:Mc}{k:Nat}{c:Cl}(hc:M.cells[k]?=some c):zao p (n+1) M k=if c.shown=true then (true,M) else if (zz (zj p 1001) (M.mark k c) k).2.out=true\/(zz (zj p 1001) (M.mark k c) k).1.kind=3 then (false,(zz (zj p 1001) (M.mark k c) k).2) else zL (zao p n) (zz (zj p 1001) (M.mark k c) k).2 (zcZ (zz (zj p 1001) (M.mark k c) k).2 k):=by
 show (match M.cells[k]? with|none=>_|some c=>_:Bool × Mc)=_;rw[hc]
theorem zgr(p:List Df)(d:Nat):∀n M k,(zao p n M k).2.out=false->zao p n (M.plus d) k=((zao p n M k).1,(zao p n M k).2.plus d)
 | 0,M,k,_=>rfl
 | n+1,M,k,h=>by
  cases hc:M.cells[k]? with
  | none=>
   have e:∀M':Mc,M'.cells[k]?=none->zao p (n+1) M' k=(true,M'):=λM' h'=>by
    show (match M'.cells[k]? with|none=>_|some c=>_:Bool × Mc)=_;rw[h']
   rw[e M hc,e (M.plus d) hc]
  | some c=>
   have s1:=zb2 p n hc;have s2:=zb2 p n (M:=M.plus d) hc;have em:(M.plus d).mark k c=(M.mark k c).plus d:=rfl;rw[em] at s2;rw[s1] at h⊢;rw[s2]
   by_cases hs:c.shown=true
   ·rw[if_pos hs,if_pos hs]
   rw[if_neg hs] at h;rw[if_neg hs,if_neg hs];have hr:(zz (zj p 1001) (M.mark k c) k).2.out=false:=by
    cases hx:(zz (zj p 1001) (M.mark k c) k).2.out with
    | false=>rfl
    | true=>
     rw[if_pos (.inl hx)] at h;have h:(zz (zj p 1001) (M.mark k c) k).2.out=false:=h;rw[hx] at h;cases h
   rw[zfn (zet p d 1001) hr];generalize zz (zj p 1001) (M.mark k c) k=r at h hr ⊢;show (if r.2.out=true\/r.1.kind=3 then (false,r.2.plus d) else zL (zao p n) (r.2.plus d) (zcZ r.2 k):Bool × Mc)=_
   by_cases h3:r.2.out=true\/r.1.kind=3
   ·rw[if_pos h3,if_pos h3]
   ·rw[if_neg h3] at h;rw[if_neg h3,if_neg h3];exact zfb (ziB p n) (zgr p d n) _ _ h
theorem ziv{p:List Df}{n:Nat}{F G:Mc->Nat->Bool × Mc}(hK:∀M k,WFM p M->Gd p M k->Kept p M (F M k).2)(hF:∀M k,WFM p M->Gd p M k->mu M<=n->F M k=G M k):∀(ks:List Nat) (M:Mc),WFM p M->Gds p M ks->mu M<=n->zL F M ks=zL G M ks
 | [],M,_,_,_=>rfl
 | k::ks,M,hw,hg,hm=>by
  have e:=hF M k hw (hg k List.mem_cons_self) hm;have K:=hK M k hw (hg k List.mem_cons_self);show (if (F M k).1=true then zL F (F M k).2 ks else (false,(F M k).2):Bool × Mc)=if (G M k).1=true then zL G (G M k).2 ks else (false,(G M k).2)
  rw[<- e,ziv hK hF ks (F M k).2 K.wf (λq hq=>(hg q (List.mem_cons_of_mem _ hq)).mono K.mo) (Nat.le_trans K.mu hm)]
theorem zku{p:List Df}(hp:zp p=true):∀n M k,WFM p M->Fo p M k->mu M<=n->zao p (n+1) M k=zao p n M k
 | 0,M,k,hw,hk,hm=>by
  obtain⟨c,hc,_⟩:=hk;rw[zb2 p 0 hc];have hs:c.shown=true:=by
   unfold mu at hm;have h2:=zfB M.cells k c { c with shown:=true } hc;have e2:un1 { c with shown:=true }=0:=rfl;cases hs:c.shown with
   | true=>rfl
   | false=>
    have e1:un1 c=1:=by unfold un1;rw[hs];rfl
    omega
  rw[if_pos hs];rfl
 | n+1,M,k,hw,hk,hm=>by
  have hk0:=hk;obtain⟨c,hc,_⟩:=hk;rw[zb2 p (n+1) hc,zb2 p n hc]
  by_cases hs:c.shown=true
  ·rw[if_pos hs,if_pos hs]
  rw[if_neg hs,if_neg hs];have k2:=zcp hp (hw.mark hc) (Fo.mark hc hk0) 1001;have m2:=zdC hc (by simpa using hs);generalize zz (zj p 1001) (M.mark k c) k=r at k2 ⊢;split
  ·rfl
  ·exact ziv (p:=p) (n:=n) (λM k hw hg=>zcX hp (n+1) M k hw hg.fo) (λM k hw hg hm=>zku hp n M k hw hg.fo hm) _ _ k2.wf (zbP k2.wf k) (by have:=k2.mu;omega)
theorem show_le{p:List Df}(hp:zp p=true){n m:Nat}(h:n<=m){M:Mc}{k:Nat}(hw:WFM p M)(hk:Fo p M k)(hm:mu M<=n):zao p m M k=zao p n M k:=by
 obtain⟨q,rfl⟩:∃q,m=n+q:=⟨m-n,by omega⟩
 clear h
 induction q with
 | zero=>rfl
 | succ q ih=>rw[<- ih,<- Nat.add_assoc,zku hp (n+q) M k hw hk (by omega)]
theorem zdJ{S T:Nat->Option (List UInt8)}(h:∀k,S k=T k):∀ks,zad S ks=zad T ks:=λks=>by
 have:S=T:=funext h
 rw[this]
theorem zdc(d:Nat):∀(n:Nat) (M:Mc) (k:Nat),z8 n (M.plus d) k=z8 n M k
 | 0,M,k=>rfl
 | n+1,M,k=>by
  cases hc:M.cells[k]? with
  | none=>
   have e:∀M':Mc,M'.cells[k]?=none->z8 (n+1) M' k=none:=λM' h'=>by
    show (match M'.cells[k]? with|none=>_|some c=>_:Option (List UInt8))=_;rw[h']
   rw[e M hc,e (M.plus d) hc]
  | some c=>
   rw[zah (M:=M) hc,zah (M:=M.plus d) hc,zdJ (zdc d n M)]
theorem zfc{M:Mc}{d q:Nat}:zdY (M.plus d) q↔zdY M q:=by
 unfold zdY;rw[zdc]
theorem zdU{M:Mc}{d:Nat}{c:Ca}:za9 (M.plus d) c↔za9 M c:=by
 unfold za9;exact and_congr (forall_congr' λq=>imp_congr_right λ_=>zfc) zfc
theorem nd_plus(M:Mc)(d:Nat)(c:Ca):ndM (M.plus d) c=ndM M c:=by
 unfold ndM;rw[zdc,zdJ (zdc d 1024 M)]
open Classical in
theorem zkE{p:List Df}(hp:zp p=true){fuel:Nat}(hf:fuel<=400):runQ p fuel=if (runS p fuel).out=true then (1101,[]) else if ∀c ∈ (runS p fuel).calls,za9 (runS p fuel) c then (0,(runS p fuel).calls.map (ndM (runS p fuel))) else (1102,[]):=by
 have RN:=zfL hp fuel;have hn:=RN.nu;unfold nu at hn;have lg:LG (4*fuel+1) (runS p fuel):=lg_of RN.wf RN.ac RN.pl RN.nc (by omega);have ht:=(zbv (runS p fuel).calls (runS p fuel) lg λc hc=>(ca_of RN.wf RN.nc c hc).1).2.2;have hrq:runQ p fuel=if (runS p fuel).out=true then (1101,[]) else
  if (zY (4*fuel+1) (runS p fuel) (runS p fuel).calls).1=true then (1102,[]) else (0,(runS p fuel).calls.map (ndM (runS p fuel))):=rfl
 rw[hrq]
 by_cases ho:(runS p fuel).out=true
 ·rw[if_pos ho,if_pos ho]
 rw[if_neg ho,if_neg ho]
 by_cases hx:(zY (4*fuel+1) (runS p fuel) (runS p fuel).calls).1=true
 ·rw[if_pos hx,if_neg λh=>by rw[ht.2 h] at hx;cases hx]
 ·rw[if_neg hx,if_pos (ht.1 (by simpa using hx))]
theorem zgv(p:List Df)(f d:Nat)(h:(runC p f).out=false):runC p (f+d)=(runC p f).plus d:=by
 have e:=zfr (p:=p) (d:=d) (zet p d 1001) (M:=mc0 f) (fn:=0) (parent:=-1) (args:=[]) h;show (callM p (zj p 1001) (mc0 (f+d)) 0 (-1) []).2=_;have e0:mc0 (f+d)=(mc0 f).plus d:=rfl;rw[e0,e];rfl
theorem zkC{p:List Df}(hp:zp p=true)(f d:Nat)(h:(runS p f).out=false):runS p (f+d)=(runS p f).plus d:=by
 have hc:¬ (runC p f).out=true:=λhh=>by
  have e:runS p f=runC p f:=if_pos hh;rw[e,hh] at h;cases h
 have e:runS p f=(zao p (4*f+1) (runC p f) 0).2:=if_neg hc;have R:=zfM hp f;have hup:=show_le hp (n:=4*f+1) (m:=4*(f+d)+1) (by omega) R.wf (zfT hp f hc) R.mu;rw[e] at h⊢;have e2:runS p (f+d)=(zao p (4*(f+d)+1) (runC p (f+d)) 0).2:=if_neg (by rw[zgv p f d (by simpa using hc)];exact hc);rw[e2,zgv p f d (by simpa using hc),zgr p d _ _ _ (by rw[hup];exact h),hup]
theorem zkD{p:List Df}(hp:zp p=true){f g:Nat}(hfg:f<=g)(hg:g<=400):((runQ p f).1=1101/\(runQ p f).2=[])\/((runQ p f).1≠1101/\runQ p g=runQ p f):=by
 obtain⟨d,rfl⟩:∃d,g=f+d:=⟨g-f,by omega⟩
 rw[zkE hp (fuel:=f) (by omega),zkE hp (fuel:=f+d) hg]
 by_cases ho:(runS p f).out=true
 ·rw[if_pos ho];exact .inl ⟨rfl,rfl⟩
 ·rw[if_neg ho,zkC hp f d (by simpa using ho)];refine .inr ⟨?_,?_⟩
  ·split
   ·show (0:Int)≠1101;decide
   ·show (1102:Int)≠1101;decide
  ·show (if (runS p f).out=true then _ else _:Int × List Nd)=_;rw[if_neg ho];have hm:((runS p f).plus d).calls.map (ndM ((runS p f).plus d))=(runS p f).calls.map (ndM (runS p f)):=List.map_congr_left λc _=>nd_plus _ _ _
   rw[hm]
   by_cases hs:∀c ∈ (runS p f).calls,za9 (runS p f) c
   ·have hs2:∀c ∈ ((runS p f).plus d).calls,za9 ((runS p f).plus d) c:=λc hc=>zdU.2 (hs c hc)
    rw[if_pos hs,if_pos hs2]
   ·have hs2:¬ ∀c ∈ ((runS p f).plus d).calls,za9 ((runS p f).plus d) c:=λh=>hs λc hc=>zdU.1 (h c hc)
    rw[if_neg hs,if_neg hs2]
end Am.F
