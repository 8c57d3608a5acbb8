/- Texts that belong together: no condition. -/
import Derived.Test.YtanhngcjijbodaaDoorAmJb
import Derived.Test.YtanhngcjijbodaaDoorAmJa
import Derived.KernelRfl
set_option maxRecDepth 100000
set_option linter.unusedVariables false
set_option linter.unusedSimpArgs false
set_option linter.defProp false
section
namespace Am
open Go Go.RowKit
section
variable {kf kt:Nat->Nat} {w0:Base} {P:Program} {fm:FM} {S:St} {w:World}
structure Link (P:Program) (kf kt:Nat->Nat) (G:Base->Prop) (IP:Nat->Option IFn):Prop where
 code:∀(f nt:Nat) (res:List IRes) (body:ICode),IP (kf f)=some (.code nt res body) ->
  ∃fn ls,P.funcs[f]?=some fn/\(fn.name=="runtime.NumGoroutine")=false/\zee P kf kt ls fn=some (.code nt res body)
 intr:∀(f:Nat) (g:List AV->St->Option (AV × St)),IP (kf f)=some (.intr g)->∀(args:List AV) (S:St) (v:AV) (S':St),g args S=some (v,S') ->
  ∀(w0:Base),G w0->∀(fm:FM) (w:World) (us:List Value),R kf kt w0 fm S w->VRs kf fm args us->zcc P f/\CallsIn (FR none) 0 P f us.toArray w (zgh kf kt w0 fm v S')
def zd3(e:Env)(S:St):IRes->Option AV
 | .tmp t=>some (e.getD t (.tup []))
 | .cell1 t=>match e.getD t (.tup []) with|.ptr b o=>S.load1 b o|_=>none
 | .cellN t n=>match e.getD t (.tup []) with|.ptr b o=>(S.loadN b o n).map .agg|_=>none
theorem zgf(e:Env)(S:St)(r:IRes)(rs:List IRes):zbB e S (r::rs)=(zd3 e S r).bind λv=>(zbB e S rs).map (v::·):=by
 cases r<;>rfl
def getR(tmps:Array Value):ResultVar->Sem Value
 | .tmp t=>pure (tmps.getD t undef)
 | .cell a t=>do loadVar t (← asAddr (tmps.getD a undef))
theorem zdG(fn:Func)(tmps:Array Value):results fn tmps=(do let vs ← fn.results.mapM (getR tmps);pure (if h:vs.size=1 then vs[0] else .tuple vs)):=by
 unfold results;congr 1
theorem res1_rel{r:ResultVar}{ir:IRes}{e:Env}{tmps:Array Value}{v:AV}(hR:R kf kt w0 fm S w)(he:EnvR kf fm e tmps)(hc:zbD P r=some ir)
  (hx:zd3 e S ir=some v) :
  ∃u,(getR tmps r).run P w = .ok u w/\VR kf fm v u:=by
 cases r with
 | tmp t=>
  simp only[zbD] at hc;cases hc;simp only[zd3] at hx;cases hx;exact⟨_,rfl,he.rel t⟩
 | cell a t=>
  simp only[zbD] at hc;split at hc
  ·rename_i ht;simp only[Option.map_eq_some_iff] at hc;obtain⟨n,hn,rfl⟩:=hc;simp only[zd3] at hx;have hr:=he.rel a;split at hx
   ·rename_i b o hb;rw[hb] at hr;simp only[VR] at hr;obtain⟨p,hp,hv⟩:=hr;simp only[Option.map_eq_some_iff] at hx;obtain⟨us,hl,rfl⟩:=hx;obtain⟨vs,h1,h2,h3⟩:=hR.loadN (P:=P) hl hp;refine⟨.agg vs.toArray,?_,by simp only[VR];exact⟨_,rfl,h3,by simpa using h2⟩⟩;simp[getR,hv,loadVar,zcR ht,zn hn,h1,asAddr]
   ·cases hx
  ·rename_i ht;cases hc;simp only[zd3] at hx;have hr:=he.rel a;split at hx
   ·rename_i b o hb;rw[hb] at hr;simp only[VR] at hr;obtain⟨p,hp,hv⟩:=hr;obtain⟨_,u,h1,h2⟩:=hR.load1 hx hp;refine⟨u,?_,h2⟩;simp[getR,hv,loadVar,za4 ht,h1,asAddr]
   ·cases hx
  ·cases hc
theorem zgn{e:Env}{tmps:Array Value}(hR:R kf kt w0 fm S w)(he:EnvR kf fm e tmps):∀(rs:List ResultVar) (irs:List IRes) (vs:List AV),mapO (zbD P) rs=some irs->zbB e S irs=some vs ->
  ∃us,(rs.mapM (getR tmps)).run P w = .ok us w/\VRs kf fm vs us
 | [],irs,vs,hc,hx=>by
  simp only[mapO] at hc;cases hc;simp only[zbB] at hx;cases hx;exact⟨[],by simp,by simp[VRs]⟩
 | r::rs,irs,vs,hc,hx=>by
  simp only[mapO,Option.bind_eq_some_iff,Option.map_eq_some_iff] at hc;obtain⟨ir,h1,irs',h2,rfl⟩:=hc;simp only[zgf,Option.bind_eq_some_iff,Option.map_eq_some_iff] at hx;obtain⟨v,h3,vs',h4,rfl⟩:=hx;obtain⟨u,h5,h6⟩:=res1_rel (P:=P) hR he h1 h3;obtain⟨us,h7,h8⟩:=zgn hR he rs irs' vs' h2 h4;refine⟨u::us,?_,by simp only[VRs];exact⟨_,_,rfl,h6,h8⟩⟩;rw[List.mapM_cons];simp only[Sem.run_bind];rw[h5];simp only[Result.andThen_ok];rw[h7];rfl
theorem one_rel{vs:List AV}{us:List Value}(h:VRs kf fm vs us):VR kf fm (one vs) (if h:us.toArray.size=1 then us.toArray[0] else .tuple us.toArray):=by
 have hl:=h.length
 match vs,us,hl with
 | [v],[u],_=>simp only[VRs] at h;obtain⟨_,_,h0,h1,_⟩:=h;cases h0;simpa [one] using h1
 | [],[],_=>simp only[one,VR];exact⟨#[],by simp,by simp[VRs]⟩
 | v::v'::vs,u::u'::us,_=>simp only[one,VR];exact⟨(u::u'::us).toArray,by simp,by simpa using h⟩
theorem zet{fn:Func}{e:Env}{tmps:Array Value}{irs:List IRes}{vs:List AV}(hR:R kf kt w0 fm S w)(he:EnvR kf fm e tmps)(hc:mapO (zbD P) fn.results.toList=some irs)
  (hx:zbB e S irs=some vs):∃u,(results fn tmps).run P w = .ok u w/\VR kf fm (one vs) u:=by
 obtain⟨us,h1,h2⟩:=zgn (P:=P) hR he _ _ _ hc hx;refine⟨_,?_,one_rel h2⟩;rw[zdG,Array.mapM_eq_mapM_toList];simp only[Sem.run_bind,map_eq_pure_bind];rw[h1];rfl
theorem pads_rel{nt:Nat}{args:List AV}{us:List Value}(h:VRs kf fm args us):EnvR kf fm (pads nt args) (us.toArray++Array.replicate (nt-us.toArray.size) undef):=by
 have hl:=h.length;refine⟨by simp[pads,hl],λi=>?_⟩;simp only[pads,List.getD_eq_getElem?_getD,Array.getD_eq_getD_getElem?,List.getElem?_append,Array.getElem?_append,List.size_toArray,hl]
 by_cases hi:i<args.length
 ·simp only[hi,if_true];obtain⟨u,h1,h2⟩:=h.get (List.getElem?_eq_getElem hi);have:us.toArray[i]?=some u:=by simpa using h1
  rw[this,List.getElem?_eq_getElem hi];exact h2
 ·simp only[hi,if_false];simp only[List.getElem?_replicate,Array.getElem?_replicate];split<;>exact zO
theorem run_ok{G:Base->Prop}(hGm:zch G){IP:Nat->Option IFn}(hL:Link P kf kt G IP):∀n,CallOk P kf kt G (run IP n)
 | 0=>⟨λk cs vs S v S' h=>by simp[run] at h,λg vs S x h _ _ _ _=>by simp[run] at h⟩
 | n+1=>by
  have ih:=run_ok hGm hL n;refine⟨?_,?_⟩
  ·intro k cs vs S v S' h w0 hG fm w f us hR hk hv;simp only[run] at h;split at h
   ·rename_i nt res body hip;obtain⟨fn,ls,h1,h2,h3⟩:=hL.code f nt res body (hk ▸ hip);unfold zee at h3;cases hb:fn.body with
    | none=>simp[hb] at h3
    | some c=>
     cases hm:mapO (zbD P) fn.results.toList with
     | none=>simp[hb,hm] at h3
     | some rs=>
      simp only[hb,hm,Option.some.injEq,IFn.code.injEq] at h3;obtain⟨rfl,rfl,rfl⟩:=h3;refine⟨⟨fn,h1,by simp[hb],h2⟩,?_⟩;refine callsIn_of_wp h1 hb trivial ?_;have hds:∀{x l S1},exC (run IP n) n (zan P kf kt c ls).1 { e:=pads fn.ntmps (vs++cs) } S=some (x,l,S1)->l.ds=[]:=λh=>code_ds _ _ _ _ _ _ _ h
      split at h
      ·cases h
      ·rename_i x l S1 hne hxc;rw[hds hxc] at h;simp only[zgY,Option.map_eq_some_iff] at h;obtain⟨rvs,h4,h5⟩:=h;cases h5;refine sim_code ih hGm hG c ls _ l S _ x fm w _ _ hR (pads_rel hv) hxc ?_;intro ext a' w' h5 h6 h7;obtain⟨u,h8,h9⟩:=zet (P:=P) h5 h6 hm h4;cases x with
       | normal=>exact⟨h7,u,h8,ext,u,rfl,h5,h9⟩
       | ret=>exact⟨h7,u,h8,ext,u,rfl,h5,h9⟩
       | exit id=>exact absurd rfl (hne id)
      ·cases h
   ·rename_i g hip;exact hL.intr f g (hk ▸ hip) _ _ _ _ h w0 hG fm w us hR hv
   ·cases h
  ·intro g vs S x h w0 fm w hR;unfold run at h;split at h<;>first|exact⟨_,_,rfl⟩|(cases h;done)|skip
   rename_i n' r args S' _;split at h
   ·rename_i e ps asg body pend d hS;obtain⟨p,_,hb⟩:=hR.get hS;exact hb.elim
   ·cases h
end
end Am
end
section
namespace Am
open Go
inductive SE where
 | v (x:Nat) (m:Option Nat)
 | k (c:AV)
 | op (d:Option Nat) (f:OpK) (args:List SE)
 | opr (d:Option Nat) (f:OpK) (a b:SE)
 | and (m p:Nat) (a b:SE)
 | or (m p:Nat) (a b:SE)
 deriving Repr,Inhabited
def SE.V(n:Nat):SE:=.v n none
def SE.W(n m:Nat):SE:=.v n (some m)
def SE.I(n:Int):SE:=.k (.int .i64 n)
def SE.M(n:Nat)(e:SE):SE:=.op (some n) .mov [e]
def SE.P(n:Nat)(f:OpK)(a:List SE):SE:=.op (some n) f a
inductive SS where
 | set (x:Nat) (e:SE)
 | ef (e:SE)
 deriving Repr,Inhabited
inductive SC where
 | skip
 | ret
 | reg (ss:List SS)
 | dreg (lv:List Nat) (ops:List IOp) (its:List DItem)
 | seq (a b:SC)
 | cond (c:Opd) (a b:SC)
 | ifr (ss:List SS) (e:SE) (a b:SC)
 | block (id:Nat) (c:SC)
 | loop (live:List Nat) (c:SC)
 | exit (id:Nat)
 deriving Repr,Inhabited
mutual
def evE(call:Call)(ce:Env):SE->St->Option (AV × St)
 | .v x _,S=>some (ce.getD x (.tup []),S)
 | .k c,S=>some (c,S)
 | .op _ f args,S=>(evEs call ce args S).bind λr=>ap call f r.1 r.2
 | .opr _ f a b,S=>(evE call ce b S).bind λrb=>(evE call ce a rb.2).bind λra=>ap call f [ra.1,rb.1] ra.2
 | .and _ _ a b,S=>(evE call ce a S).bind λr=>match r.1 with
  | .bool true=>(evE call ce b r.2)
  | .bool false=>some (.bool false,r.2)
  | _=>none
 | .or _ _ a b,S=>(evE call ce a S).bind λr=>match r.1 with
  | .bool true=>some (.bool true,r.2)
  | .bool false=>(evE call ce b r.2)
  | _=>none
def evEs(call:Call)(ce:Env):List SE->St->Option (List AV × St)
 | [],S=>some ([],S)
 | e::es,S=>(evE call ce e S).bind λr=>(evEs call ce es r.2).map λrs=>(r.1::rs.1,rs.2)
end
def exSS(call:Call):List SS->Env->St->Option (Env × St)
 | [],ce,S=>some (ce,S)
 | .set x e::ss,ce,S=>(evE call ce e S).bind λr=>exSS call ss (ce.set x r.1) r.2
 | .ef e::ss,ce,S=>(evE call ce e S).bind λr=>exSS call ss ce r.2
def exS(call:Call)(N:Nat):SC->Env->St->Option (Ex × Env × St)
 | .skip,ce,S=>some (.normal,ce,S)
 | .ret,ce,S=>some (.ret,ce,S)
 | .reg ss,ce,S=>(exSS call ss ce S).map λr=>(.normal,r.1,r.2)
 | .dreg lv ops its,ce,S=>(zj call ops its (ce++List.replicate lv.length (.tup [])) S).map λr=>(.normal,r.1.take ce.length,r.2)
 | .seq a b,ce,S=>match exS call N a ce S with
  | some (.normal,ce',S')=>exS call N b ce' S'
  | r=>r
 | .cond c a b,ce,S=>match c.ev ce with
  | .bool true=>exS call N a ce S
  | .bool false=>exS call N b ce S
  | _=>none
 | .ifr ss e a b,ce,S=>(exSS call ss ce S).bind λr=>(evE call r.1 e r.2).bind λq=>match q.1 with
  | .bool true=>exS call N a r.1 q.2
  | .bool false=>exS call N b r.1 q.2
  | _=>none
 | .block id c,ce,S=>match exS call N c ce S with
  | some (.exit id',ce',S')=>if id'=id then some (.normal,ce',S') else some (.exit id',ce',S')
  | r=>r
 | .loop live c,ce,S=>iter (λce S=>exS call N c (zB live ce) S) N ce S
 | .exit id,ce,S=>some (.exit id,ce,S)
def tm(vm:List Nat)(x:Nat):Nat:=vm.getD x 0
mutual
def flE(vm:List Nat)(g:Option (Nat × Bool)):SE->List IOp × Opd
 | .v x none=>([],.t (tm vm x))
 | .v x (some m)=>([⟨some m,.mov,[.t (tm vm x)],g⟩],.t m)
 | .k c=>([],.c c)
 | .op d f args=>((flEs vm g args).1++[⟨d,f,(flEs vm g args).2,g⟩],.t (d.getD 0))
 | .opr d f a b=>((flE vm g b).1++(flE vm g a).1++[⟨d,f,[(flE vm g a).2,(flE vm g b).2],g⟩],.t (d.getD 0))
 | .and m p a b=>((flE vm g a).1++[⟨some m,.mov,[(flE vm g a).2],g⟩]++(flE vm (some (m,true)) b).1++[⟨some p,.pick,[.t m,(flE vm (some (m,true)) b).2,.c (.bool false)],g⟩],.t p)
 | .or m p a b=>((flE vm g a).1++[⟨some m,.mov,[(flE vm g a).2],g⟩]++(flE vm (some (m,false)) b).1++[⟨some p,.pick,[.t m,.c (.bool true),(flE vm (some (m,false)) b).2],g⟩],.t p)
def flEs(vm:List Nat)(g:Option (Nat × Bool)):List SE->List IOp × List Opd
 | []=>([],[])
 | e::es=>((flE vm g e).1++(flEs vm g es).1,(flE vm g e).2::(flEs vm g es).2)
end
def SS.e:SS->SE
 | .set _ e=>e
 | .ef e=>e
def flSS(vm:List Nat):List SS->List IOp
 | []=>[]
 | s::ss=>(flE vm none s.e).1++flSS vm ss
def rnO(vm:List Nat):Opd->Opd
 | .t x=>.t (tm vm x)
 | .c v=>.c v
def rnI(vm:List Nat)(o:IOp):IOp:=⟨o.dst.map (tm vm),o.k,o.args.map (rnO vm),o.guard.map λp=>(tm vm p.1,p.2)⟩
def flC(vm:List Nat):SC->ICode
 | .skip=>.skip
 | .ret=>.ret
 | .reg ss=>.reg (flSS vm ss)
 | .dreg lv ops its=>.dreg (ops.map (rnI (vm++lv))) its
 | .seq a b=>.seq (flC vm a) (flC vm b)
 | .cond c a b=>.cond (rnO vm c) (flC vm a) (flC vm b)
 | .ifr ss e a b=>.seq (.reg (flSS vm ss++(flE vm none e).1)) (.cond (flE vm none e).2 (flC vm a) (flC vm b))
 | .block id c=>.block id (flC vm c)
 | .loop live c=>.loop (live.map (tm vm)) (flC vm c)
 | .exit id=>.exit id
mutual
def wrE:SE->List Nat
 | .v _ m=>m.toList
 | .k _=>[]
 | .op d _ args=>wrEs args++d.toList
 | .opr d _ a b=>wrE b++wrE a++d.toList
 | .and m p a b=>wrE a++m::(wrE b++[p])
 | .or m p a b=>wrE a++m::(wrE b++[p])
def wrEs:List SE->List Nat
 | []=>[]
 | e::es=>wrE e++wrEs es
end
mutual
def okE(nv:Nat):SE->Bool
 | .v x _=>decide (x<nv)
 | .k _=>true
 | .op _ _ args=>okEs nv args
 | .opr _ _ a b=>a.hasT&&okE nv a&&(b.hasT&&okE nv b)
 | .and _ _ a b=>a.hasT&&okE nv a&&(b.hasT&&okE nv b)
 | .or _ _ a b=>a.hasT&&okE nv a&&(b.hasT&&okE nv b)
def okEs(nv:Nat):List SE->Bool
 | []=>true
 | e::es=>e.hasT&&okE nv e&&okEs nv es
def SE.hasT:SE->Bool
 | .op d _ _=>d.isSome
 | .opr d _ _ _=>d.isSome
 | _=>true
end
def zb7:List Nat->Bool
 | []=>true
 | x::xs=>!xs.contains x&&zb7 xs
def SE.root:SE->Option Nat
 | .v _ m=>m
 | .k _=>none
 | .op d _ _=>d
 | .opr d _ _ _=>d
 | .and _ p _ _=>some p
 | .or _ p _ _=>some p
def okS(vm:List Nat)(nt:Nat):SS->Bool
 | .set x e=>decide (x<vm.length)&&okE vm.length e&&zb7 (wrE e)&&((wrE e).all λt=>decide (t<nt))&&(e.root==some (tm vm x))&&(wrE e).all λt=>!vm.contains t||t==tm vm x
 | .ef e=>okE vm.length e&&zb7 (wrE e)&&((wrE e).all λt=>decide (t<nt))&&(wrE e).all λt=>!vm.contains t
def okO(nv:Nat):Opd->Bool
 | .t x=>decide (x<nv)
 | .c _=>true
def okI(nv:Nat)(o:IOp):Bool :=
 (match o.dst with|some d=>decide (d<nv)|none=>true)&&o.args.all (okO nv)&&(match o.guard with|some g=>decide (g.1<nv)|none=>true)
def zf8(nv:Nat)(ops:List IOp):List Nat->List DItem->Bool
 | _,[]=>true
 | W,.op i::its=>match ops[i]? with
  | some o=>(o.reads.all λt=>decide (t<nv)||W.contains t)&&zf8 nv ops (o.dst.toList++W) its
  | none=>true
 | W,.chk i::its=>match ops[i]? with
  | some o=>(o.reads.all λt=>decide (t<nv)||W.contains t)&&(o.dst.toList.all λt=>decide (t<nv)||W.contains t)&&zf8 nv ops W its
  | none=>true
def okC(vm:List Nat)(nt:Nat):SC->Bool
 | .skip|.ret|.exit _=>true
 | .reg ss=>ss.all (okS vm nt)
 | .dreg lv ops its=>ops.all (okI (vm++lv).length)&&zb7 (vm++lv)&&(lv.all λt=>decide (t<nt))&&zf8 vm.length ops [] its
 | .seq a b=>okC vm nt a&&okC vm nt b
 | .cond c a b=>okO vm.length c&&(okC vm nt a&&okC vm nt b)
 | .ifr ss e a b=>ss.all (okS vm nt)&&okS vm nt (.ef e)&&e.hasT&&(okC vm nt a&&okC vm nt b)
 | .block _ c=>okC vm nt c
 | .loop live c=>(live.all λx=>decide (x<vm.length))&&okC vm nt c
structure At (vm:List Nat) (nt:Nat) (ce e:Env):Prop where
 len:ce.length=vm.length
 nt:nt<=e.length
 at_:∀x,x<vm.length->e.getD (tm vm x) (.tup [])=ce.getD x (.tup [])
def Same(e e':Env)(ts:List Nat):Prop:=e'.length=e.length/\∀t,t ∉ ts->e'.getD t (.tup [])=e.getD t (.tup [])
theorem Same.refl(e:Env)(ts:List Nat):Same e e ts:=⟨rfl,λ_ _=>rfl⟩
theorem Same.trans{e e' e'':Env}{ts us:List Nat}(h:Same e e' ts)(h':Same e' e'' us):Same e e'' (ts++us) :=
 ⟨h'.1.trans h.1,λt ht=>by rw[List.mem_append,not_or] at ht;rw[h'.2 t ht.2,h.2 t ht.1]⟩
theorem Same.set(e:Env)(d:Option Nat)(v:AV):Same e (setD e d v) d.toList:=by
 cases d with
 | none=>exact Same.refl _ _
 | some d=>
  refine⟨by simp[setD],λt ht=>?_⟩;simp only[Option.toList_some,List.mem_singleton] at ht;simp only[setD,List.getD_eq_getElem?_getD,List.getElem?_set];rw[if_neg (λh=>ht h.symm)]
theorem zi{call:Call}:∀(a b:List IOp) (e:Env) (S:St),zX call (a++b) e S=(zX call a e S).bind λr=>zX call b r.1 r.2
 | [],b,e,S=>by simp[zX]
 | o::a,b,e,S=>by
  simp only[List.cons_append,zX];cases exOp call o e S with
  | none=>rfl
  | some r=>simp[zi a b]
theorem zh{e:Env}{d:Nat}(v:AV)(h:d<e.length):(e.set d v).getD d (.tup [])=v:=by
 simp[List.getD_eq_getElem?_getD,h]
theorem zaU:∀{l:List Nat},zb7 l=true↔l.Nodup
 | []=>by simp[zb7]
 | x::xs=>by
  simp only[zb7,Bool.and_eq_true,Bool.not_eq_true',List.nodup_cons,zaU (l:=xs)];rw[<- Bool.not_eq_true,List.contains_iff_mem]
theorem zem{e e':Env}{g:Option (Nat × Bool)}(h:∀t w,g=some (t,w)->e'.getD t (.tup [])=e.getD t (.tup [])):wanted e' g=wanted e g:=by
 cases g with
 | none=>rfl
 | some p=>simp only[wanted,h p.1 p.2 rfl]
theorem ev_same{e e':Env}{p:Opd}(h:∀t,p = .t t->e'.getD t (.tup [])=e.getD t (.tup [])):p.ev e'=p.ev e:=by
 cases p with
 | t i=>exact h i rfl
 | c v=>rfl
def Off(g:Option (Nat × Bool))(ts:List Nat):Prop:=∀t w,g=some (t,w)->t ∉ ts
theorem Off.left{g:Option (Nat × Bool)}{ts us:List Nat}(h:Off g (ts++us)):Off g ts:=λt w hg hm=>h t w hg (List.mem_append_left _ hm)
theorem Off.right{g:Option (Nat × Bool)}{ts us:List Nat}(h:Off g (ts++us)):Off g us:=λt w hg hm=>h t w hg (List.mem_append_right _ hm)
theorem Same.wanted{e e':Env}{ts:List Nat}{g:Option (Nat × Bool)}(h:Same e e' ts)(ho:Off g ts):Am.wanted e' g=Am.wanted e g:=zem λt w hg=>h.2 t (ho t w hg)
theorem za2{call:Call}{o:IOp}{e:Env}{S S':St}{v:AV}(h:exOp call o e S=some (v,S')):zX call [o] e S=some (setD e o.dst v,S'):=by simp[zX,h]
theorem zaz{call:Call}{o:IOp}{e:Env}{S:St}(h:wanted e o.guard=some false):exOp call o e S=some (.tup [],S):=by simp[exOp,h]
theorem zb9(e:Env)(d:Nat):(e.set d (.tup [])).getD d (.tup []) = .tup []:=by
 by_cases h:d<e.length
 ·exact zh _ h
 ·rw[List.getD_eq_getElem?_getD,List.getElem?_eq_none (by simp;omega)];rfl
section
variable {call:Call} {vm:List Nat} {nt:Nat}
mutual
theorem zdb:∀(x:SE) (g:Option (Nat × Bool)) (e:Env) (S:St),(wrE x).Nodup->wanted e g=some false->Off g (wrE x)->∃e',zX call (flE vm g x).1 e S=some (e',S)/\Same e e' (wrE x)
 | .v x none,g,e,S,_,_,_=>⟨e,by simp[flE,zX],Same.refl _ _⟩
 | .v x (some m),g,e,S,_,hw,_=>⟨_,za2 (zaz hw),Same.set e (some m) _⟩
 | .k c,g,e,S,_,_,_=>⟨e,by simp[flE,zX],Same.refl _ _⟩
 | .op d f args,g,e,S,hn,hw,ho=>by
  simp only[wrE] at hn ho;obtain⟨e1,h1,h2⟩:=skipEs args g e S (List.nodup_append.1 hn).1 hw ho.left;refine⟨_,?_,h2.trans (Same.set e1 d (.tup []))⟩;simp only[flE,zi,h1,Option.bind_some];exact za2 (zaz (by rw[h2.wanted ho.left];exact hw))
 | .opr d f a b,g,e,S,hn,hw,ho=>by
  simp only[wrE] at hn ho;have hn1:=(List.nodup_append.1 hn).1;obtain⟨e1,h1,h2⟩:=zdb b g e S (List.nodup_append.1 hn1).1 hw ho.left.left;obtain⟨e2,h3,h4⟩:=zdb a g e1 S (List.nodup_append.1 hn1).2.1 (by rw[h2.wanted ho.left.left];exact hw) ho.left.right;refine⟨_,?_,(h2.trans h4).trans (Same.set e2 d (.tup []))⟩;simp only[flE,zi,h1,h3,Option.bind_some];exact za2 (zaz (by rw[(h2.trans h4).wanted ho.left];exact hw))
 | .and m p a b,g,e,S,hn,hw,ho=>by
  simp only[wrE] at hn ho;rw[show wrE a++m::(wrE b++[p])=(wrE a++[m])++(wrE b++[p]) by simp] at hn ho;have hna:=(List.nodup_append.1 (List.nodup_append.1 hn).1).1;have hnb:=(List.nodup_append.1 (List.nodup_append.1 hn).2.1).1;obtain⟨e1,h1,h2⟩:=zdb a g e S hna hw ho.left.left;have h5:=h2.trans (Same.set e1 (some m) (.tup []));have hwm:wanted (e1.set m (.tup [])) (some (m,true))=some false:=by simp only[wanted,zb9]
  obtain⟨e3,h3,h4⟩:=zdb b (some (m,true)) (e1.set m (.tup [])) S hnb hwm (λt w h hm=>by
   cases h;exact (List.nodup_append.1 hn).2.2 m (by simp) m (List.mem_append_left _ hm) rfl)
  have h6:Same e e3 _:=h5.trans h4;refine⟨setD e3 (some p) (.tup []),?_,?_⟩
  ·simp only[flE,zi,h1,Option.bind_some,zX,zaz (o:=⟨some m,.mov,[(flE vm g a).2],g⟩) (by rw[h2.wanted ho.left.left];exact hw:wanted e1 g=some false),setD,h3];rw[zaz (o:=⟨some p,.pick,_,g⟩) (by
    rw[h6.wanted (λt w hg hm=>ho t w hg (by simp at hm ⊢;rcases hm with hm|hm|hm<;>simp[hm]))];exact hw:wanted e3 g=some false)]
   rfl
  ·have:=h6.trans (Same.set e3 (some p) (.tup []))
   simpa [wrE] using this
 | .or m p a b,g,e,S,hn,hw,ho=>by
  simp only[wrE] at hn ho;rw[show wrE a++m::(wrE b++[p])=(wrE a++[m])++(wrE b++[p]) by simp] at hn ho;have hna:=(List.nodup_append.1 (List.nodup_append.1 hn).1).1;have hnb:=(List.nodup_append.1 (List.nodup_append.1 hn).2.1).1;obtain⟨e1,h1,h2⟩:=zdb a g e S hna hw ho.left.left;have h5:=h2.trans (Same.set e1 (some m) (.tup []));have hwm:wanted (e1.set m (.tup [])) (some (m,false))=some false:=by simp only[wanted,zb9]
  obtain⟨e3,h3,h4⟩:=zdb b (some (m,false)) (e1.set m (.tup [])) S hnb hwm (λt w h hm=>by
   cases h;exact (List.nodup_append.1 hn).2.2 m (by simp) m (List.mem_append_left _ hm) rfl)
  have h6:Same e e3 _:=h5.trans h4;refine⟨setD e3 (some p) (.tup []),?_,?_⟩
  ·simp only[flE,zi,h1,Option.bind_some,zX,zaz (o:=⟨some m,.mov,[(flE vm g a).2],g⟩) (by rw[h2.wanted ho.left.left];exact hw:wanted e1 g=some false),setD,h3];rw[zaz (o:=⟨some p,.pick,_,g⟩) (by
    rw[h6.wanted (λt w hg hm=>ho t w hg (by simp at hm ⊢;rcases hm with hm|hm|hm<;>simp[hm]))];exact hw:wanted e3 g=some false)]
   rfl
  ·have:=h6.trans (Same.set e3 (some p) (.tup []))
   simpa [wrE] using this
theorem skipEs:∀(xs:List SE) (g:Option (Nat × Bool)) (e:Env) (S:St),(wrEs xs).Nodup->wanted e g=some false->Off g (wrEs xs)->∃e',zX call (flEs vm g xs).1 e S=some (e',S)/\Same e e' (wrEs xs)
 | [],g,e,S,_,_,_=>⟨e,by simp[flEs,zX],Same.refl _ _⟩
 | x::xs,g,e,S,hn,hw,ho=>by
  simp only[wrEs] at hn ho;obtain⟨e1,h1,h2⟩:=zdb x g e S (List.nodup_append.1 hn).1 hw ho.left;obtain⟨e2,h3,h4⟩:=skipEs xs g e1 S (List.nodup_append.1 hn).2.1 (by rw[h2.wanted ho.left];exact hw) ho.right;exact⟨e2,by simp only[flEs,zi,h1,Option.bind_some,h3],h2.trans h4⟩
end
def zek(vm:List Nat)(ts:List Nat):Prop:=∀t ∈ ts,∀x,x<vm.length->tm vm x≠t
theorem At.same{ce e e':Env}{ts:List Nat}(h:At vm nt ce e)(hs:Same e e' ts)(hn:zek vm ts):At vm nt ce e' :=
 ⟨h.len,by rw[hs.1];exact h.nt,λx hx=>by rw[hs.2 _ λhm=>hn _ hm x hx rfl];exact h.at_ x hx⟩
theorem zgK(g:Option (Nat × Bool)):∀(x:SE),x.hasT=true->okE vm.length x=true->∀t,(flE vm g x).2 = .t t->t ∈ wrE x\/∃y,y<vm.length/\t=tm vm y
 | .v y none,_,ho,t,h=>by simp only[flE] at h;cases h;simp only[okE,decide_eq_true_eq] at ho;exact .inr ⟨y,ho,rfl⟩
 | .v y (some m),_,_,t,h=>by simp only[flE] at h;cases h;exact .inl (by simp[wrE])
 | .k c,_,_,t,h=>by simp[flE] at h
 | .op d f args,hT,_,t,h=>by
  simp only[flE] at h;cases h;simp only[SE.hasT] at hT;cases d with
  | none=>cases hT
  | some d=>exact .inl (by simp[wrE])
 | .opr d f a b,hT,_,t,h=>by
  simp only[flE] at h;cases h;simp only[SE.hasT] at hT;cases d with
  | none=>cases hT
  | some d=>exact .inl (by simp[wrE])
 | .and m p a b,_,_,t,h=>by simp only[flE] at h;cases h;exact .inl (by simp[wrE])
 | .or m p a b,_,_,t,h=>by simp only[flE] at h;cases h;exact .inl (by simp[wrE])
theorem zfj{g:Option (Nat × Bool)}{x:SE}{e e':Env}{ts:List Nat}(hT:x.hasT=true)(hok:okE vm.length x=true)(hs:Same e e' ts)(hd:∀t ∈ wrE x,t ∉ ts)(hn:zek vm ts) :
  (flE vm g x).2.ev e'=(flE vm g x).2.ev e:=by
 refine ev_same λt ht=>hs.2 t ?_
 rcases zgK g x hT hok t ht with h|⟨y,hy,rfl⟩
 ·exact hd t h
 ·intro hm;exact hn _ hm y hy rfl
theorem zfc{e:Env}{d:Option Nat}{v:AV}(hd:d.isSome=true)(hlt:∀t ∈ d.toList,t<e.length):(Opd.t (d.getD 0)).ev (setD e d v)=v:=by
 cases d with
 | none=>cases hd
 | some d=>exact zh v (hlt d (by simp))
mutual
theorem zbT{ce:Env}:∀(x:SE) (g:Option (Nat × Bool)) (e:Env) (S:St) (v:AV) (S':St),evE call ce x S=some (v,S')->At vm nt ce e->okE vm.length x=true->(wrE x).Nodup->(∀t ∈ wrE x,t<nt) ->
  (∀t ∈ wrE x,x.root≠some t->∀y,y<vm.length->tm vm y≠t)->wanted e g=some true->Off g (wrE x) ->
  ∃e',zX call (flE vm g x).1 e S=some (e',S')/\Same e e' (wrE x)/\(x.hasT=true->(flE vm g x).2.ev e'=v)
 | .v y none,g,e,S,v,S',h,hA,hok,_,_,_,_,_=>by
  simp only[evE] at h;cases h;simp only[okE,decide_eq_true_eq] at hok;exact⟨e,by simp[flE,zX],Same.refl _ _,λ_=>hA.at_ y hok⟩
 | .v y (some m),g,e,S,v,S',h,hA,hok,_,hlt,_,hw,_=>by
  simp only[evE] at h;cases h;simp only[okE,decide_eq_true_eq] at hok;refine⟨e.set m (ce.getD y (.tup [])),?_,Same.set e (some m) _,λ_=>?_⟩
  ·refine za2 (o:=⟨some m,.mov,[.t (tm vm y)],g⟩) ?_;simp only[exOp,hw,List.map_cons,List.map_nil,ap,Opd.ev,hA.at_ y hok]
  ·exact zh _ (Nat.lt_of_lt_of_le (hlt m (by simp[wrE])) hA.nt)
 | .k c,g,e,S,v,S',h,_,_,_,_,_,_,_=>by
  simp only[evE] at h;cases h;exact⟨e,by simp[flE,zX],Same.refl _ _,λ_=>rfl⟩
 | .op d f args,g,e,S,v,S',h,hA,hok,hn,hlt,hnv,hw,ho=>by
  simp only[evE,Option.bind_eq_some_iff] at h;obtain⟨⟨vs,S1⟩,h1,h2⟩:=h;simp only[wrE] at hn hlt hnv ho;simp only[okE] at hok;have hnv':zek vm (wrEs args):=λt ht y hy=>hnv t (List.mem_append_left _ ht) (λhr=>by
   simp only[SE.root] at hr;exact (List.nodup_append.1 hn).2.2 t ht t (by simp[hr]) rfl) y hy
  obtain⟨e1,h3,h4,h5⟩:=zhi args g e S vs S1 h1 hA hok (List.nodup_append.1 hn).1 (λt ht=>hlt t (List.mem_append_left _ ht)) hnv' hw ho.left;refine⟨setD e1 d v,?_,h4.trans (Same.set e1 d v),λhT=>?_⟩
  ·simp only[flE,zi,h3,Option.bind_some];refine za2 (o:=⟨d,f,(flEs vm g args).2,g⟩) ?_;simp only[exOp,h4.wanted ho.left,hw,h5];exact h2
  ·exact zfc hT λt ht=>by rw[h4.1];exact Nat.lt_of_lt_of_le (hlt t (List.mem_append_right _ ht)) hA.nt
 | .opr d f a b,g,e,S,v,S',h,hA,hok,hn,hlt,hnv,hw,ho=>by
  simp only[evE,Option.bind_eq_some_iff] at h;obtain⟨⟨vb,S1⟩,h1,⟨va,S2⟩,h2,h3⟩:=h;simp only[wrE] at hn hlt hnv ho;simp only[okE,Bool.and_eq_true] at hok;obtain⟨⟨hTa,hoka⟩,hTb,hokb⟩:=hok;have hn1:=(List.nodup_append.1 hn).1;have hnv':zek vm (wrE b++wrE a):=λt ht y hy=>hnv t (List.mem_append_left _ ht) (λhr=>by
   simp only[SE.root] at hr;exact (List.nodup_append.1 hn).2.2 t ht t (by simp[hr]) rfl) y hy
  obtain⟨e1,h4,h5,h6⟩:=zbT b g e S vb S1 h1 hA hokb (List.nodup_append.1 hn1).1 (λt ht=>hlt t (by simp[ht])) (λt ht _=>hnv' t (List.mem_append_left _ ht)) hw ho.left.left;have hA1:=hA.same h5 λt ht=>hnv' t (List.mem_append_left _ ht)
  obtain⟨e2,h7,h8,h9⟩:=zbT a g e1 S1 va S2 h2 hA1 hoka (List.nodup_append.1 hn1).2.1 (λt ht=>hlt t (by simp[ht])) (λt ht _=>hnv' t (List.mem_append_right _ ht)) (by rw[h5.wanted ho.left.left];exact hw) ho.left.right;have h10:=h5.trans h8;refine⟨setD e2 d v,?_,h10.trans (Same.set e2 d v),λhT=>?_⟩
  ·simp only[flE,zi,h4,h7,Option.bind_some];refine za2 (o:=⟨d,f,[(flE vm g a).2,(flE vm g b).2],g⟩) ?_;simp only[exOp,h10.wanted ho.left,hw,List.map_cons,List.map_nil,h9 hTa];rw[zfj (x:=b) hTb hokb h8 (λt ht hm=>(List.nodup_append.1 hn1).2.2 t ht t hm rfl) (λt ht=>hnv' t (List.mem_append_right _ ht)),h6 hTb];exact h3
  ·exact zfc hT λt ht=>by rw[h10.1];exact Nat.lt_of_lt_of_le (hlt t (List.mem_append_right _ ht)) hA.nt
 | .and m p a b,g,e,S,v,S',h,hA,hok,hn,hlt,hnv,hw,ho=>by
  simp only[evE,Option.bind_eq_some_iff] at h;obtain⟨⟨va,S1⟩,h1,h2⟩:=h;simp only[wrE] at hn hlt hnv ho;rw[show wrE a++m::(wrE b++[p])=(wrE a++[m])++(wrE b++[p]) by simp] at hn hlt hnv ho;simp only[okE,Bool.and_eq_true] at hok;obtain⟨⟨hTa,hoka⟩,hTb,hokb⟩:=hok;have hn1:=(List.nodup_append.1 hn).1;have hn2:=(List.nodup_append.1 hn).2.1;have hpne:∀t ∈ (wrE a++[m])++wrE b,t≠p:=by
   intro t ht he;subst he;rcases List.mem_append.1 ht with h'|h'
   ·exact (List.nodup_append.1 hn).2.2 t h' t (by simp) rfl
   ·exact (List.nodup_append.1 hn2).2.2 t h' t (by simp) rfl
  have hnv':zek vm ((wrE a++[m])++wrE b):=λt ht y hy=>hnv t (by rw[<- List.append_assoc];exact List.mem_append_left _ ht) (λhr=>by
   simp only[SE.root,Option.some.injEq] at hr;exact hpne t ht hr.symm) y hy
  obtain⟨e1,h4,h5,h6⟩:=zbT a g e S va S1 h1 hA hoka (List.nodup_append.1 hn1).1 (λt ht=>hlt t (by simp[ht])) (λt ht _=>hnv' t (by simp[ht])) hw ho.left.left;have hmlt:m<e1.length:=by rw[h5.1];exact Nat.lt_of_lt_of_le (hlt m (by simp)) hA.nt
  have h7:=h5.trans (Same.set e1 (some m) va);have hmb:m ∉ wrE b:=λhm=>(List.nodup_append.1 hn).2.2 m (by simp) m (List.mem_append_left _ hm) rfl
  have hmv:exOp call ⟨some m,.mov,[(flE vm g a).2],g⟩ e1 S1=some (va,S1):=by
   simp only[exOp,h5.wanted ho.left.left,hw,List.map_cons,List.map_nil,h6 hTa,ap]
  have hgm:∀e3,Same (setD e1 (some m) va) e3 (wrE b)->wanted e3 g=some true:=by
   intro e3 h;rw[(h7.trans h).wanted (λt w hg hm=>ho t w hg (by simp at hm ⊢;rcases hm with hm|hm|hm<;>simp[hm]))];exact hw
  have hbool:va = .bool true\/va = .bool false:=by
   cases va<;>simp at h2
   rename_i b';cases b'<;>simp
  rcases hbool with rfl|rfl
  ·simp only at h2;have hA1:=hA.same h7 λt ht=>hnv' t (List.mem_append_left _ ht)
   have hwm:wanted (setD e1 (some m) (.bool true)) (some (m,true))=some true:=by
    simp only[wanted,setD,zh _ hmlt];rfl
   obtain⟨e3,h8,h9,h10⟩:=zbT b (some (m,true)) _ S1 v S' h2 hA1 hokb (List.nodup_append.1 hn2).1 (λt ht=>hlt t (by simp[ht])) (λt ht _=>hnv' t (by simp[ht])) hwm (λt w h hm=>by cases h;exact hmb hm);have h11:=h7.trans h9;refine⟨e3.set p v,?_,by have:=h11.trans (Same.set e3 (some p) v);simpa [wrE,setD] using this,λ_=>zh _ (by rw[h11.1];exact Nat.lt_of_lt_of_le (hlt p (by simp)) hA.nt)⟩;simp only[flE,zi,h4,Option.bind_some,zX,hmv];rw[h8];simp only[Option.bind_some];have hpk:exOp call ⟨some p,.pick,[.t m,(flE vm (some (m,true)) b).2,.c (.bool false)],g⟩ e3 S'=some (v,S'):=by
    simp only[exOp,hgm e3 h9,List.map_cons,List.map_nil,h10 hTb];have:(Opd.t m).ev e3 = .bool true:=by
     simp only[Opd.ev];rw[h9.2 m hmb];exact zh _ hmlt
    rw[this];rfl
   rw[hpk];rfl
  ·simp only[Option.some.injEq,Prod.mk.injEq] at h2;obtain⟨rfl,rfl⟩:=h2;have hwm:wanted (setD e1 (some m) (.bool false)) (some (m,true))=some false:=by
    simp only[wanted,setD,zh _ hmlt];rfl
   obtain⟨e3,h8,h9⟩:=zdb (call:=call) (vm:=vm) b (some (m,true)) _ S1 (List.nodup_append.1 hn2).1 hwm (λt w h hm=>by cases h;exact hmb hm);have h11:=h7.trans h9;refine⟨e3.set p (.bool false),?_,by have:=h11.trans (Same.set e3 (some p) (.bool false));simpa [wrE,setD] using this,λ_=>zh _ (by rw[h11.1];exact Nat.lt_of_lt_of_le (hlt p (by simp)) hA.nt)⟩;simp only[flE,zi,h4,Option.bind_some,zX,hmv];rw[h8];simp only[Option.bind_some];have hpk:exOp call ⟨some p,.pick,[.t m,(flE vm (some (m,true)) b).2,.c (.bool false)],g⟩ e3 S1=some (.bool false,S1):=by
    simp only[exOp,hgm e3 h9,List.map_cons,List.map_nil];have:(Opd.t m).ev e3 = .bool false:=by
     simp only[Opd.ev];rw[h9.2 m hmb];exact zh _ hmlt
    rw[this];rfl
   rw[hpk];rfl
 | .or m p a b,g,e,S,v,S',h,hA,hok,hn,hlt,hnv,hw,ho=>by
  simp only[evE,Option.bind_eq_some_iff] at h;obtain⟨⟨va,S1⟩,h1,h2⟩:=h;simp only[wrE] at hn hlt hnv ho;rw[show wrE a++m::(wrE b++[p])=(wrE a++[m])++(wrE b++[p]) by simp] at hn hlt hnv ho;simp only[okE,Bool.and_eq_true] at hok;obtain⟨⟨hTa,hoka⟩,hTb,hokb⟩:=hok;have hn1:=(List.nodup_append.1 hn).1;have hn2:=(List.nodup_append.1 hn).2.1;have hpne:∀t ∈ (wrE a++[m])++wrE b,t≠p:=by
   intro t ht he;subst he;rcases List.mem_append.1 ht with h'|h'
   ·exact (List.nodup_append.1 hn).2.2 t h' t (by simp) rfl
   ·exact (List.nodup_append.1 hn2).2.2 t h' t (by simp) rfl
  have hnv':zek vm ((wrE a++[m])++wrE b):=λt ht y hy=>hnv t (by rw[<- List.append_assoc];exact List.mem_append_left _ ht) (λhr=>by
   simp only[SE.root,Option.some.injEq] at hr;exact hpne t ht hr.symm) y hy
  obtain⟨e1,h4,h5,h6⟩:=zbT a g e S va S1 h1 hA hoka (List.nodup_append.1 hn1).1 (λt ht=>hlt t (by simp[ht])) (λt ht _=>hnv' t (by simp[ht])) hw ho.left.left;have hmlt:m<e1.length:=by rw[h5.1];exact Nat.lt_of_lt_of_le (hlt m (by simp)) hA.nt
  have h7:=h5.trans (Same.set e1 (some m) va);have hmb:m ∉ wrE b:=λhm=>(List.nodup_append.1 hn).2.2 m (by simp) m (List.mem_append_left _ hm) rfl
  have hmv:exOp call ⟨some m,.mov,[(flE vm g a).2],g⟩ e1 S1=some (va,S1):=by
   simp only[exOp,h5.wanted ho.left.left,hw,List.map_cons,List.map_nil,h6 hTa,ap]
  have hgm:∀e3,Same (setD e1 (some m) va) e3 (wrE b)->wanted e3 g=some true:=by
   intro e3 h;rw[(h7.trans h).wanted (λt w hg hm=>ho t w hg (by simp at hm ⊢;rcases hm with hm|hm|hm<;>simp[hm]))];exact hw
  have hbool:va = .bool true\/va = .bool false:=by
   cases va<;>simp at h2
   rename_i b';cases b'<;>simp
  rcases hbool with rfl|rfl
  ·simp only[Option.some.injEq,Prod.mk.injEq] at h2;obtain⟨rfl,rfl⟩:=h2;have hwm:wanted (setD e1 (some m) (.bool true)) (some (m,false))=some false:=by
    simp only[wanted,setD,zh _ hmlt];rfl
   obtain⟨e3,h8,h9⟩:=zdb (call:=call) (vm:=vm) b (some (m,false)) _ S1 (List.nodup_append.1 hn2).1 hwm (λt w h hm=>by cases h;exact hmb hm);have h11:=h7.trans h9;refine⟨e3.set p (.bool true),?_,by have:=h11.trans (Same.set e3 (some p) (.bool true));simpa [wrE,setD] using this,λ_=>zh _ (by rw[h11.1];exact Nat.lt_of_lt_of_le (hlt p (by simp)) hA.nt)⟩;simp only[flE,zi,h4,Option.bind_some,zX,hmv];rw[h8];simp only[Option.bind_some];have hpk:exOp call ⟨some p,.pick,[.t m,.c (.bool true),(flE vm (some (m,false)) b).2],g⟩ e3 S1=some (.bool true,S1):=by
    simp only[exOp,hgm e3 h9,List.map_cons,List.map_nil];have:(Opd.t m).ev e3 = .bool true:=by
     simp only[Opd.ev];rw[h9.2 m hmb];exact zh _ hmlt
    rw[this];rfl
   rw[hpk];rfl
  ·simp only at h2;have hA1:=hA.same h7 λt ht=>hnv' t (List.mem_append_left _ ht)
   have hwm:wanted (setD e1 (some m) (.bool false)) (some (m,false))=some true:=by
    simp only[wanted,setD,zh _ hmlt];rfl
   obtain⟨e3,h8,h9,h10⟩:=zbT b (some (m,false)) _ S1 v S' h2 hA1 hokb (List.nodup_append.1 hn2).1 (λt ht=>hlt t (by simp[ht])) (λt ht _=>hnv' t (by simp[ht])) hwm (λt w h hm=>by cases h;exact hmb hm);have h11:=h7.trans h9;refine⟨e3.set p v,?_,by have:=h11.trans (Same.set e3 (some p) v);simpa [wrE,setD] using this,λ_=>zh _ (by rw[h11.1];exact Nat.lt_of_lt_of_le (hlt p (by simp)) hA.nt)⟩;simp only[flE,zi,h4,Option.bind_some,zX,hmv];rw[h8];simp only[Option.bind_some];have hpk:exOp call ⟨some p,.pick,[.t m,.c (.bool true),(flE vm (some (m,false)) b).2],g⟩ e3 S'=some (v,S'):=by
    simp only[exOp,hgm e3 h9,List.map_cons,List.map_nil,h10 hTb];have:(Opd.t m).ev e3 = .bool false:=by
     simp only[Opd.ev];rw[h9.2 m hmb];exact zh _ hmlt
    rw[this];rfl
   rw[hpk];rfl
theorem zhi{ce:Env}:∀(xs:List SE) (g:Option (Nat × Bool)) (e:Env) (S:St) (vs:List AV) (S':St),evEs call ce xs S=some (vs,S')->At vm nt ce e->okEs vm.length xs=true->(wrEs xs).Nodup->(∀t ∈ wrEs xs,t<nt) ->
  zek vm (wrEs xs)->wanted e g=some true->Off g (wrEs xs) ->
  ∃e',zX call (flEs vm g xs).1 e S=some (e',S')/\Same e e' (wrEs xs)/\(flEs vm g xs).2.map (·.ev e')=vs
 | [],g,e,S,vs,S',h,_,_,_,_,_,_,_=>by
  simp only[evEs] at h;cases h;exact⟨e,by simp[flEs,zX],Same.refl _ _,rfl⟩
 | x::xs,g,e,S,vs,S',h,hA,hok,hn,hlt,hnv,hw,ho=>by
  simp only[evEs,Option.bind_eq_some_iff,Option.map_eq_some_iff] at h;obtain⟨⟨v,S1⟩,h1,⟨vs1,S2⟩,h2,h3⟩:=h;cases h3;simp only[wrEs] at hn hlt hnv ho;simp only[okEs,Bool.and_eq_true] at hok;obtain⟨⟨hT,hok1⟩,hok2⟩:=hok;obtain⟨e1,h4,h5,h6⟩:=zbT x g e S v S1 h1 hA hok1 (List.nodup_append.1 hn).1 (λt ht=>hlt t (by simp[ht])) (λt ht _=>hnv t (by simp[ht])) hw ho.left;have hA1:=hA.same h5 λt ht=>hnv t (by simp[ht])
  obtain⟨e2,h7,h8,h9⟩:=zhi xs g e1 S1 vs1 _ h2 hA1 hok2 (List.nodup_append.1 hn).2.1 (λt ht=>hlt t (by simp[ht])) (λt ht=>hnv t (by simp[ht])) (by rw[h5.wanted ho.left];exact hw) ho.right;refine⟨e2,by simp only[flEs,zi,h4,Option.bind_some,h7],h5.trans h8,?_⟩;simp only[flEs,List.map_cons,h9,List.cons.injEq,and_true];rw[zfj hT hok1 h8 (λt ht hm=>(List.nodup_append.1 hn).2.2 t ht t hm rfl) (λt ht=>hnv t (by simp[ht])),h6 hT]
end
end
end Am
end
section
namespace Am
open Go
section
variable {call:Call} {vm:List Nat} {nt:Nat}
structure Vars (vm:List Nat) (nt:Nat):Prop where
 nodup:vm.Nodup
 lt:∀t ∈ vm,t<nt
theorem ze7{x:Nat}(h:x<vm.length):tm vm x ∈ vm:=by
 unfold tm;rw[List.getD_eq_getElem?_getD,List.getElem?_eq_getElem h];exact List.getElem_mem h
theorem Vars.inj(h:Vars vm nt){x y:Nat}(hx:x<vm.length)(hy:y<vm.length)(he:tm vm x=tm vm y):x=y:=by
 unfold tm at he;rw[List.getD_eq_getElem?_getD,List.getD_eq_getElem?_getD,List.getElem?_eq_getElem hx,List.getElem?_eq_getElem hy] at he;have he:vm[x]=vm[y]:=by simpa using he
 have hp:=List.pairwise_iff_getElem.1 h.nodup;rcases Nat.lt_trichotomy x y with hlt|heq|hgt
 ·exact absurd he (hp x y hx hy hlt)
 ·exact heq
 ·exact absurd he.symm (hp y x hy hx hgt)
theorem getD_set_eq(e:Env)(d:Nat)(v:AV)(t:Nat):(e.set d v).getD t (.tup [])=if d=t/\d<e.length then v else e.getD t (.tup []):=by
 simp only[List.getD_eq_getElem?_getD,List.getElem?_set]
 by_cases h1:d=t
 ·subst h1
  by_cases h2:d<e.length
  ·simp[h2]
  ·simp[h2]
 ·simp[h1]
theorem zfQ(g:Option (Nat × Bool)){x:SE}{t:Nat}(h:x.root=some t):x.hasT=true/\(flE vm g x).2 = .t t:=by
 cases x with
 | v y m=>simp only[SE.root] at h;subst h;exact⟨rfl,rfl⟩
 | k c=>simp[SE.root] at h
 | op d f args=>simp only[SE.root] at h;subst h;exact⟨rfl,rfl⟩
 | opr d f a b=>simp only[SE.root] at h;subst h;exact⟨rfl,rfl⟩
 | and m p a b=>simp only[SE.root] at h;cases h;exact⟨rfl,rfl⟩
 | or m p a b=>simp only[SE.root] at h;cases h;exact⟨rfl,rfl⟩
theorem zfI{ts:List Nat}(h:(ts.all λt=>decide (t<nt))=true):∀t ∈ ts,t<nt:=by
 intro t ht;simp only[List.all_eq_true] at h;simpa using h t ht
theorem noVar_of{ts:List Nat}(h:(ts.all λt=>!vm.contains t)=true):zek vm ts:=by
 intro t ht y hy he;simp only[List.all_eq_true] at h;have:=h t ht
 rw[Bool.not_eq_true',<- Bool.not_eq_true,List.contains_iff_mem] at this;exact this (he ▸ ze7 hy)
theorem ef_ok{ce e:Env}{S S':St}{x:SE}{v:AV}(hx:evE call ce x S=some (v,S'))(hA:At vm nt ce e)(hok:okS vm nt (.ef x)=true) :
  ∃e',zX call (flE vm none x).1 e S=some (e',S')/\At vm nt ce e'/\(x.hasT=true->(flE vm none x).2.ev e'=v):=by
 simp only[okS,Bool.and_eq_true] at hok;obtain⟨⟨⟨h1,h2⟩,h3⟩,h4⟩:=hok;have hnv:=noVar_of h4;obtain⟨e',h5,h6,h7⟩:=zbT x none e S v S' hx hA h1 (zaU.1 h2) (zfI h3) (λt ht _=>hnv t ht) rfl (λt w h=>by cases h);exact⟨e',h5,hA.same h6 hnv,h7⟩
theorem zdq(hV:Vars vm nt):∀(ss:List SS) (ce e:Env) (S:St) (ce':Env) (S':St),exSS call ss ce S=some (ce',S')->At vm nt ce e->ss.all (okS vm nt)=true ->
  ∃e',zX call (flSS vm ss) e S=some (e',S')/\At vm nt ce' e'
 | [],ce,e,S,ce',S',h,hA,_=>by simp only[exSS] at h;cases h;exact⟨e,by simp[flSS,zX],hA⟩
 | .set x q::ss,ce,e,S,ce',S',h,hA,hok=>by
  simp only[exSS,Option.bind_eq_some_iff] at h;obtain⟨⟨v,S1⟩,h1,h2⟩:=h;simp only[List.all_cons,Bool.and_eq_true] at hok;obtain⟨hok1,hok2⟩:=hok;simp only[okS,Bool.and_eq_true] at hok1;obtain⟨⟨⟨⟨⟨h3,h4⟩,h5⟩,h6⟩,h7⟩,h8⟩:=hok1;have hroot:q.root=some (tm vm x):=by simpa using h7
  have hx:x<vm.length:=by simpa using h3
  have hwr:∀t ∈ wrE q,∀y,y<vm.length->tm vm y=t->y=x:=by
   intro t ht y hy he;simp only[List.all_eq_true] at h8;have h9:=h8 t ht;simp only[Bool.or_eq_true,Bool.not_eq_true',beq_iff_eq] at h9;rcases h9 with h9|h9
   ·rw[<- Bool.not_eq_true,List.contains_iff_mem] at h9;exact absurd (he ▸ ze7 hy) h9
   ·exact hV.inj hy hx (he.trans h9)
  obtain⟨e1,h9,h10,h11⟩:=zbT q none e S v S1 h1 hA h4 (zaU.1 h5) (zfI h6) (λt ht hne y hy he=>hne (hroot.trans (congrArg some ((hwr t ht y hy he) ▸ he)))) rfl (λt w h=>by cases h);obtain⟨hT,hr⟩:=zfQ (vm:=vm) none hroot;have hval:=h11 hT;rw[hr] at hval;have hA1:At vm nt (ce.set x v) e1:=by
   refine⟨by simp[hA.len],by rw[h10.1];exact hA.nt,λy hy=>?_⟩;rw[getD_set_eq]
   by_cases hxy:x=y
   ·subst hxy;rw[if_pos ⟨rfl,by rw[hA.len];exact hx⟩];exact hval
   ·rw[if_neg λh=>hxy h.1,h10.2 _ λhm=>hxy (hwr _ hm y hy rfl).symm];exact hA.at_ y hy
  obtain⟨e2,h12,h13⟩:=zdq hV ss _ e1 S1 ce' S' h2 hA1 hok2;exact⟨e2,by simp only[flSS,zi,SS.e,h9,Option.bind_some,h12],h13⟩
 | .ef q::ss,ce,e,S,ce',S',h,hA,hok=>by
  simp only[exSS,Option.bind_eq_some_iff] at h;obtain⟨⟨v,S1⟩,h1,h2⟩:=h;simp only[List.all_cons,Bool.and_eq_true] at hok;obtain⟨e1,h3,h4,_⟩:=ef_ok h1 hA hok.1;obtain⟨e2,h12,h13⟩:=zdq hV ss _ e1 S1 ce' S' h2 h4 hok.2;exact⟨e2,by simp only[flSS,zi,SS.e,h3,Option.bind_some,h12],h13⟩
theorem opd_rn{ce e:Env}(hA:At vm nt ce e){p:Opd}(hp:okO vm.length p=true):(rnO vm p).ev e=p.ev ce:=by
 cases p with
 | t x=>simp only[okO,decide_eq_true_eq] at hp;exact hA.at_ x hp
 | c v=>rfl
theorem zhg{ce e:Env}(hA:At vm nt ce e){o:IOp}(ho:okI vm.length o=true)(call:Call)(S:St):exOp call (rnI vm o) e S=exOp call o ce S:=by
 simp only[okI,Bool.and_eq_true] at ho;obtain⟨⟨_,h2⟩,h3⟩:=ho;have hw:wanted e (rnI vm o).guard=wanted ce o.guard:=by
  simp only[rnI];cases hg:o.guard with
  | none=>rfl
  | some g=>
   rw[hg] at h3;simp only[decide_eq_true_eq] at h3;simp only[Option.map_some,wanted,hA.at_ g.1 h3]
 have ha:(rnI vm o).args.map (·.ev e)=o.args.map (·.ev ce):=by
  simp only[rnI,List.map_map];refine List.map_congr_left λp hp=>?_
  simp only[List.all_eq_true] at h2;exact opd_rn hA (h2 p hp)
 simp only[exOp,hw,ha];rfl
theorem at_setD(hV:Vars vm nt){ce e:Env}(hA:At vm nt ce e){d:Option Nat}(hd:∀x,d=some x->x<vm.length)(v:AV):At vm nt (setD ce d v) (setD e (d.map (tm vm)) v):=by
 cases d with
 | none=>exact hA
 | some x=>
  have hx:=hd x rfl;refine⟨by simp[setD,hA.len],by simpa [setD] using hA.nt,λy hy=>?_⟩;simp only[setD,Option.map_some,getD_set_eq]
  by_cases hxy:x=y
  ·subst hxy;rw[if_pos ⟨rfl,Nat.lt_of_lt_of_le (hV.lt _ (ze7 hx)) hA.nt⟩,if_pos ⟨rfl,by rw[hA.len];exact hx⟩]
  ·rw[if_neg λh=>hxy (hV.inj hx hy h.1),if_neg λh=>hxy h.1];exact hA.at_ y hy
theorem zbZ(hV:Vars vm nt){ops:List IOp}(hok:ops.all (okI vm.length)=true):∀(its:List DItem) (ce e:Env) (S:St) (ce':Env) (S':St),zj call ops its ce S=some (ce',S')->At vm nt ce e ->
  ∃e',zj call (ops.map (rnI vm)) its e S=some (e',S')/\At vm nt ce' e'
 | [],ce,e,S,ce',S',h,hA=>by simp only[zj] at h;cases h;exact⟨e,rfl,hA⟩
 | .op i::its,ce,e,S,ce',S',h,hA=>by
  simp only[zj] at h;split at h
  ·rename_i o ho;have hoo:okI vm.length o=true:=by simp only[List.all_eq_true] at hok;exact hok o (List.mem_of_getElem? ho)
   simp only[Option.bind_eq_some_iff] at h;obtain⟨⟨v,S1⟩,h1,h2⟩:=h;have hA1:=at_setD hV hA (d:=o.dst) (λx hx=>by simp only[okI,Bool.and_eq_true,hx] at hoo;simpa using hoo.1.1) v;obtain⟨e',h3,h4⟩:=zbZ hV hok its _ _ S1 ce' S' h2 hA1;refine⟨e',?_,h4⟩;simp only[zj,List.getElem?_map,ho,Option.map_some,zhg hA hoo,h1,Option.bind_some];exact h3
  ·cases h
 | .chk i::its,ce,e,S,ce',S',h,hA=>by
  simp only[zj] at h;split at h
  ·rename_i o ho;have hoo:okI vm.length o=true:=by simp only[List.all_eq_true] at hok;exact hok o (List.mem_of_getElem? ho)
   split at h
   ·rename_i d hd;have hdl:d<vm.length:=by simp only[okI,Bool.and_eq_true,hd] at hoo;simpa using hoo.1.1
    simp only[Option.bind_eq_some_iff] at h;obtain⟨⟨v,S1⟩,h1,h2⟩:=h;split at h2
    ·rename_i hb;obtain⟨e',h3,h4⟩:=zbZ hV hok its _ _ S ce' S' h2 hA;refine⟨e',?_,h4⟩;simp only[zj,List.getElem?_map,ho,Option.map_some,zhg hA hoo,h1,Option.bind_some];simp only[rnI,hd,Option.map_some,hA.at_ d hdl,hb,if_true];exact h3
    ·cases h2
   ·cases h
  ·cases h
theorem zcE{ops:List IOp}{nv:Nat}:∀(its:List DItem) (W:List Nat) (e1 e2:Env) (S:St) (e1':Env) (S':St),(∀x,x<nv\/x ∈ W->e1.getD x (.tup [])=e2.getD x (.tup []))->e1.length=e2.length ->
  zf8 nv ops W its=true->zj call ops its e1 S=some (e1',S')->∃e2',zj call ops its e2 S=some (e2',S')/\e1'.length=e2'.length/\e1'.length=e1.length/\∀x,x<nv->e1'.getD x (.tup [])=e2'.getD x (.tup [])
 | [],W,e1,e2,S,e1',S',he,hl,_,h=>by simp only[zj] at h;cases h;exact⟨e2,rfl,hl,rfl,λx hx=>he x (.inl hx)⟩
 | .op i::its,W,e1,e2,S,e1',S',he,hl,hok,h=>by
  simp only[zj] at h;split at h
  ·rename_i o ho;simp only[zf8,ho,Bool.and_eq_true] at hok;simp only[Option.bind_eq_some_iff] at h;obtain⟨⟨v,S1⟩,h1,h2⟩:=h;have hr:∀t ∈ o.reads,e1.getD t (.tup [])=e2.getD t (.tup []):=by
    intro t ht;have h3:=hok.1;simp only[List.all_eq_true,Bool.or_eq_true,decide_eq_true_eq,List.contains_iff_mem] at h3;exact he t (h3 t ht)
   have he':∀x,x<nv\/x ∈ o.dst.toList++W->(setD e1 o.dst v).getD x (.tup [])=(setD e2 o.dst v).getD x (.tup []):=by
    intro x hx;cases hd:o.dst with
    | none=>rw[hd] at hx;exact he x (by simpa using hx)
    | some d=>
     simp only[setD,getD_set_eq,hl]
     by_cases hdx:d=x
     ·subst hdx
      by_cases hlt:d<e2.length
      ·simp[hlt]
      ·have a1:e1[d]?=none:=by simp;omega
       have a2:e2[d]?=none:=by simp;omega
       simp[List.getD_eq_getElem?_getD,a1,a2]
     ·simp only[hdx,false_and,if_false];refine he x ?_;rw[hd] at hx;rcases hx with hx|hx
      ·exact .inl hx
      ·simp only[Option.toList_some,List.cons_append,List.nil_append,List.mem_cons] at hx;rcases hx with hx|hx
       ·exact absurd hx.symm hdx
       ·exact .inr hx
   obtain⟨e2',h3,h4,h5,h6⟩:=zcE its _ _ _ S1 e1' S' he' (by rw[zaa,zaa,hl]) hok.2 h2;refine⟨e2',?_,h4,by rw[h5,zaa],h6⟩;simp only[zj,ho,<- zbv hr,h1,Option.bind_some];exact h3
  ·cases h
 | .chk i::its,W,e1,e2,S,e1',S',he,hl,hok,h=>by
  simp only[zj] at h;split at h
  ·rename_i o ho;simp only[zf8,ho,Bool.and_eq_true] at hok;split at h
   ·rename_i d hd;simp only[Option.bind_eq_some_iff] at h;obtain⟨⟨v,S1⟩,h1,h2⟩:=h;have hr:∀t ∈ o.reads,e1.getD t (.tup [])=e2.getD t (.tup []):=by
     intro t ht;have h3:=hok.1.1;simp only[List.all_eq_true,Bool.or_eq_true,decide_eq_true_eq,List.contains_iff_mem] at h3;exact he t (h3 t ht)
    have hdd:e1.getD d (.tup [])=e2.getD d (.tup []):=by
     have h3:=hok.1.2;simp only[hd,Option.toList_some,List.all_cons,List.all_nil,Bool.and_true,Bool.or_eq_true,decide_eq_true_eq,List.contains_iff_mem] at h3;exact he d h3
    split at h2
    ·rename_i hb;obtain⟨e2',h3,h4,h5,h6⟩:=zcE its W e1 e2 S e1' S' he hl hok.2 h2;refine⟨e2',?_,h4,h5,h6⟩;simp only[zj,ho,hd,<- zbv hr,h1,Option.bind_some,<- hdd,hb,if_true];exact h3
    ·cases h2
   ·cases h
  ·cases h
theorem dreg_ok(hV:Vars vm nt){lv:List Nat}{ops:List IOp}{its:List DItem}{ce e ce1:Env}{S S':St}(hok:okC vm nt (.dreg lv ops its)=true)(hA:At vm nt ce e)
  (h:zj call ops its (ce++List.replicate lv.length (.tup [])) S=some (ce1,S')):∃e',zj call (ops.map (rnI (vm++lv))) its e S=some (e',S')/\At vm nt (ce1.take ce.length) e':=by
 simp only[okC,Bool.and_eq_true] at hok;obtain⟨⟨⟨h1,h2⟩,h3⟩,h4⟩:=hok;have hV':Vars (vm++lv) nt:=⟨zaU.1 h2,λt ht=>by
  rcases List.mem_append.1 ht with h|h
  ·exact hV.lt t h
  ·exact zfI h3 t h⟩
 have hA':At (vm++lv) nt (ce++lv.map λt=>e.getD t (.tup [])) e:=by
  refine⟨by simp[hA.len],hA.nt,λx hx=>?_⟩
  by_cases hxv:x<vm.length
  ·have:tm (vm++lv) x=tm vm x:=by simp only[tm,List.getD_eq_getElem?_getD,List.getElem?_append_left hxv]
   rw[this,hA.at_ x hxv,List.getD_eq_getElem?_getD,List.getD_eq_getElem?_getD,List.getElem?_append_left (by rw[hA.len];exact hxv)]
  ·have hx2:x-vm.length<lv.length:=by simp at hx;omega
   have h5:tm (vm++lv) x=lv[x-vm.length]:=by
    simp only[tm,List.getD_eq_getElem?_getD];rw[List.getElem?_append_right (by omega),List.getElem?_eq_getElem hx2];rfl
   rw[h5,List.getD_eq_getElem?_getD (l:=ce++_),List.getElem?_append_right (by rw[hA.len];omega),hA.len,List.getElem?_map,List.getElem?_eq_getElem hx2];rfl
 obtain⟨e2',h5,h6,h7,h8⟩:=zcE (call:=call) its [] (ce++List.replicate lv.length (.tup [])) (ce++lv.map λt=>e.getD t (.tup [])) S ce1 S' (λx hx=>by
  rcases hx with hx|hx
  ·rw[List.getD_eq_getElem?_getD,List.getD_eq_getElem?_getD,List.getElem?_append_left (by rw[hA.len];exact hx),List.getElem?_append_left (by rw[hA.len];exact hx)]
  ·cases hx) (by simp) h4 h
 obtain⟨e',h9,h10⟩:=zbZ hV' h1 its _ e S e2' S' h5 hA';refine⟨e',h9,?_⟩;have hl1:ce1.length=ce.length+lv.length:=by rw[h7];simp
 refine⟨by rw[List.length_take,hl1,hA.len];omega,h10.nt,λx hx=>?_⟩;have hxl:x<(vm++lv).length:=by simp;omega
 have h11:=h10.at_ x hxl;have:tm (vm++lv) x=tm vm x:=by simp only[tm,List.getD_eq_getElem?_getD,List.getElem?_append_left hx]
 rw[this] at h11;rw[h11,<- h8 x hx,List.getD_eq_getElem?_getD,List.getD_eq_getElem?_getD,List.getElem?_take,if_pos (by rw[hA.len];exact hx)]
theorem zeP(hV:Vars vm nt){ce e:Env}(hA:At vm nt ce e){live:List Nat}(hl:(live.all λx=>decide (x<vm.length))=true):At vm nt (zB live ce) (zB (live.map (tm vm)) e):=by
 refine⟨by simp[zB,hA.len],by simpa [zB] using hA.nt,λx hx=>?_⟩;have h1:x<ce.length:=by rw[hA.len];exact hx
 have h2:tm vm x<e.length:=Nat.lt_of_lt_of_le (hV.lt _ (ze7 hx)) hA.nt;have h3:=hA.at_ x hx;simp only[zB,List.getD_eq_getElem?_getD,List.getElem?_mapIdx,List.getElem?_eq_getElem h1,List.getElem?_eq_getElem h2,Option.map_some,Option.getD_some] at h3 ⊢;rw[h3];have:(live.map (tm vm)).contains (tm vm x)=live.contains x:=by
  rw[Bool.eq_iff_iff,List.contains_iff_mem,List.contains_iff_mem,List.mem_map];constructor
  ·rintro ⟨y,hy,he⟩
   simp only[List.all_eq_true] at hl;have:=hV.inj (by simpa using hl y hy) hx he
   exact this ▸ hy
  ·intro h;exact⟨x,h,rfl⟩
 rw[this]
theorem zg3{ce0:Env}{f:Env->St->Option (Ex × Env × St)}{g:Loc->St->Option (Ex × Loc × St)}
  (hfg:∀(ce:Env) (l:Loc) (S:St) (x:Ex) (ce':Env) (S':St),f ce S=some (x,ce',S')->At vm nt ce l.e->∃l',g l S=some (x,l',S')/\At vm nt ce' l'.e/\l'.ds=l.ds) :
  ∀(n:Nat) (ce:Env) (l:Loc) (S:St) (x:Ex) (ce':Env) (S':St),iter f n ce S=some (x,ce',S')->At vm nt ce l.e->∃l',iter g n l S=some (x,l',S')/\At vm nt ce' l'.e/\l'.ds=l.ds
 | 0,ce,l,S,x,ce',S',h,_=>by simp[iter] at h
 | n+1,ce,l,S,x,ce',S',h,hA=>by
  simp only[iter] at h⊢;split at h
  ·rename_i ce1 S1 h1;obtain⟨l1,h2,h3,hd1⟩:=hfg ce l S _ _ _ h1 hA;obtain⟨l2,h4,h5,hd2⟩:=zg3 (ce0:=ce0) hfg n ce1 l1 S1 x ce' S' h h3;exact⟨l2,by rw[h2];exact h4,h5,hd2.trans hd1⟩
  ·rename_i hnn;obtain⟨l1,h2,h3,hd1⟩:=hfg ce l S _ _ _ h hA;refine⟨l1,?_,h3,hd1⟩;rw[h2];cases x with
   | normal=>exact absurd h (hnn _ _)
   | _=>rfl
theorem exS_ok(hV:Vars vm nt){N:Nat}:∀(c:SC) (ce:Env) (l:Loc) (S:St) (x:Ex) (ce':Env) (S':St),exS call N c ce S=some (x,ce',S')->At vm nt ce l.e->okC vm nt c=true ->
  ∃l',exC call N (flC vm c) l S=some (x,l',S')/\At vm nt ce' l'.e/\l'.ds=l.ds:=by
 intro c
 induction c with
 | skip=>intro ce l S x ce' S' h hA _;simp only[exS] at h;cases h;exact⟨l,rfl,hA,rfl⟩
 | ret=>intro ce l S x ce' S' h hA _;simp only[exS] at h;cases h;exact⟨l,rfl,hA,rfl⟩
 | exit id=>intro ce l S x ce' S' h hA _;simp only[exS] at h;cases h;exact⟨l,rfl,hA,rfl⟩
 | reg ss=>
  intro ce l S x ce' S' h hA hok;simp only[exS,Option.map_eq_some_iff] at h;obtain⟨⟨ce1,S1⟩,h1,h2⟩:=h;cases h2;obtain⟨e',h3,h4⟩:=zdq hV ss ce l.e S _ _ h1 hA hok;exact⟨{ l with e:=e' },by simp only[flC,exC,h3,Option.map_some],h4,rfl⟩
 | dreg lv ops its=>
  intro ce l S x ce' S' h hA hok;simp only[exS,Option.map_eq_some_iff] at h;obtain⟨⟨ce1,S1⟩,h1,h2⟩:=h;cases h2;obtain⟨e',h3,h4⟩:=dreg_ok hV hok hA h1;exact⟨{ l with e:=e' },by simp only[flC,exC,h3,Option.map_some],h4,rfl⟩
 | seq a b iha ihb=>
  intro ce l S x ce' S' h hA hok;simp only[okC,Bool.and_eq_true] at hok;simp only[exS] at h;simp only[flC,exC];split at h
  ·rename_i ce1 S1 h1;obtain⟨l1,h2,h3,hd1⟩:=iha ce l S _ _ _ h1 hA hok.1;obtain⟨l2,h4,h5,hd2⟩:=ihb ce1 l1 S1 _ _ _ h h3 hok.2;exact⟨l2,by rw[h2];exact h4,h5,hd2.trans hd1⟩
  ·rename_i hnn;obtain⟨l1,h2,h3,hd1⟩:=iha ce l S _ _ _ h hA hok.1;refine⟨l1,?_,h3,hd1⟩;rw[h2];cases x with
   | normal=>exact absurd h (hnn _ _)
   | _=>rfl
 | cond c a b iha ihb=>
  intro ce l S x ce' S' h hA hok;simp only[okC,Bool.and_eq_true] at hok;simp only[exS] at h;simp only[flC,exC,opd_rn hA hok.1];split at h
  ·rename_i hc;rw[hc];exact iha ce l S _ _ _ h hA hok.2.1
  ·rename_i hc;rw[hc];exact ihb ce l S _ _ _ h hA hok.2.2
  ·cases h
 | ifr ss e a b iha ihb=>
  intro ce l S x ce' S' h hA hok;simp only[okC,Bool.and_eq_true] at hok;obtain⟨⟨⟨h1,h2⟩,hT⟩,h3,h4⟩:=hok;simp only[exS,Option.bind_eq_some_iff] at h;obtain⟨⟨ce1,S1⟩,h5,⟨v,S2⟩,h6,h7⟩:=h;obtain⟨e1,h8,h9⟩:=zdq hV ss ce l.e S _ _ h5 hA h1;obtain⟨e2,h10,h11,h12⟩:=ef_ok h6 h9 h2;have hreg:exC call N (.reg (flSS vm ss++(flE vm none e).1)) l S=some (.normal,{ l with e:=e2 },S2):=by
   simp only[exC,zi,h8,Option.bind_some,h10,Option.map_some]
  simp only[flC,exC] at hreg ⊢;rw[hreg];simp only;rw[h12 hT];simp only at h7;split at h7
  ·exact iha ce1 { l with e:=e2 } S2 _ _ _ h7 h11 h3
  ·exact ihb ce1 { l with e:=e2 } S2 _ _ _ h7 h11 h4
  ·cases h7
 | block id c ih=>
  intro ce l S x ce' S' h hA hok;simp only[okC] at hok;simp only[exS] at h;simp only[flC,exC];split at h
  ·rename_i id' ce1 S1 h1;obtain⟨l1,h2,h3,hd1⟩:=ih ce l S _ _ _ h1 hA hok;rw[h2];simp only;split at h
   ·rename_i hi;cases h;exact⟨l1,by rw[if_pos hi],h3,hd1⟩
   ·rename_i hi;cases h;exact⟨l1,by rw[if_neg hi],h3,hd1⟩
  ·rename_i hnn;obtain⟨l1,h2,h3,hd1⟩:=ih ce l S _ _ _ h hA hok;refine⟨l1,?_,h3,hd1⟩;rw[h2];cases x with
   | exit id=>exact absurd h (hnn _ _ _)
   | _=>rfl
 | loop live c ih=>
  intro ce l S x ce' S' h hA hok;simp only[okC,Bool.and_eq_true] at hok;simp only[exS] at h;simp only[flC,exC];refine zg3 (ce0:=ce) (λce l S x ce' S' h hA=>?_) N ce l S x ce' S' h hA;exact ih (zB live ce) { l with e:=zB (live.map (tm vm)) l.e } S x ce' S' h (zeP hV hA hok.1) hok.2
end
def rnR(vm:List Nat):IRes->IRes
 | .tmp x=>.tmp (tm vm x)
 | .cell1 x=>.cell1 (tm vm x)
 | .cellN x n=>.cellN (tm vm x) n
def okR(nv:Nat):IRes->Bool
 | .tmp x=>decide (x<nv)
 | .cell1 x=>decide (x<nv)
 | .cellN x _=>decide (x<nv)
inductive SFn where
 | src (nt:Nat) (vm:List Nat) (res:List IRes) (body:SC)
 | intr (g:List AV->St->Option (AV × St))
def SFn.fl:SFn->IFn
 | .src nt vm res body=>.code nt (res.map (rnR vm)) (flC vm body)
 | .intr g=>.intr g
def SFn.ok:SFn->Bool
 | .src nt vm res body=>zb7 vm&&(vm.all λt=>decide (t<nt))&&res.all (okR vm.length)&&okC vm nt body
 | .intr _=>true
def runS(T:Nat->Option SFn):Nat->AV->List AV->St->Option (AV × St)
 | 0,_,_,_=>none
 | n+1,f,args,S=>match f with
  | .fn k caps=>match T k with
   | some (.src _ vm res body)=>
    match exS (runS T n) n body (vm.map λt=>(args++caps).getD t (.tup [])) S with
    | some (.exit _,_,_)=>none
    | some (_,ce,S')=>(zbB ce S' res).map λvs=>(one vs,S')
    | none=>none
   | some (.intr g)=>g (args++caps) S
   | none=>none
  | _=>none
def Leq(c1 c2:Call):Prop:=∀f vs S r,c1 f vs S=some r->c2 f vs S=some r
theorem ze3{c1 c2:Call}(h:Leq c1 c2){k:OpK}{vs:List AV}{S:St}{r:AV × St}(ha:ap c1 k vs S=some r):ap c2 k vs S=some r:=by
 unfold ap at ha;split at ha<;>first
  | exact h _ _ _ _ ha
  | (cases ha;done)
  | (unfold ap;exact ha)
theorem zhh{c1 c2:Call}(h:Leq c1 c2){o:IOp}{e:Env}{S:St}{r:AV × St}(ha:exOp c1 o e S=some r):exOp c2 o e S=some r:=by
 unfold exOp at ha ⊢;split at ha
 ·exact ze3 h ha
 ·exact ha
 ·exact ha
theorem zbl{c1 c2:Call}(h:Leq c1 c2){ops:List IOp}:∀(its:List DItem) (e:Env) (S:St) (r:Env × St),zj c1 ops its e S=some r->zj c2 ops its e S=some r
 | [],e,S,r,ha=>ha
 | .op i::its,e,S,r,ha=>by
  simp only[zj] at ha ⊢;split at ha
  ·rename_i o ho;simp only[Option.bind_eq_some_iff] at ha ⊢;obtain⟨q,h1,h2⟩:=ha;exact⟨q,zhh h h1,zbl h its _ _ _ h2⟩
  ·cases ha
 | .chk i::its,e,S,r,ha=>by
  simp only[zj] at ha ⊢;split at ha
  ·split at ha
   ·simp only[Option.bind_eq_some_iff] at ha ⊢;obtain⟨q,h1,h2⟩:=ha;refine⟨q,h1,?_⟩;split at h2
    ·rename_i hb;simp only[hb,if_true];exact zbl h its _ _ _ h2
    ·cases h2
   ·cases ha
  ·cases ha
mutual
theorem zal{c1 c2:Call}(h:Leq c1 c2){ce:Env}:∀(x:SE) (S:St) (r:AV × St),evE c1 ce x S=some r->evE c2 ce x S=some r
 | .v _ _,S,r,ha=>ha
 | .k _,S,r,ha=>ha
 | .op d f args,S,r,ha=>by
  simp only[evE,Option.bind_eq_some_iff] at ha ⊢;obtain⟨q,h1,h2⟩:=ha;exact⟨q,zeb h args _ _ h1,ze3 h h2⟩
 | .opr d f a b,S,r,ha=>by
  simp only[evE,Option.bind_eq_some_iff] at ha ⊢;obtain⟨q,h1,p,h2,h3⟩:=ha;exact⟨q,zal h b _ _ h1,p,zal h a _ _ h2,ze3 h h3⟩
 | .and m p a b,S,r,ha=>by
  simp only[evE,Option.bind_eq_some_iff] at ha ⊢;obtain⟨q,h1,h2⟩:=ha;refine⟨q,zal h a _ _ h1,?_⟩;split at h2
  ·exact zal h b _ _ h2
  ·exact h2
  ·cases h2
 | .or m p a b,S,r,ha=>by
  simp only[evE,Option.bind_eq_some_iff] at ha ⊢;obtain⟨q,h1,h2⟩:=ha;refine⟨q,zal h a _ _ h1,?_⟩;split at h2
  ·exact h2
  ·exact zal h b _ _ h2
  ·cases h2
theorem zeb{c1 c2:Call}(h:Leq c1 c2){ce:Env}:∀(xs:List SE) (S:St) (r:List AV × St),evEs c1 ce xs S=some r->evEs c2 ce xs S=some r
 | [],S,r,ha=>ha
 | x::xs,S,r,ha=>by
  simp only[evEs,Option.bind_eq_some_iff,Option.map_eq_some_iff] at ha ⊢;obtain⟨q,h1,p,h2,h3⟩:=ha;exact⟨q,zal h x _ _ h1,p,zeb h xs _ _ h2,h3⟩
end
theorem zbS{c1 c2:Call}(h:Leq c1 c2):∀(ss:List SS) (ce:Env) (S:St) (r:Env × St),exSS c1 ss ce S=some r->exSS c2 ss ce S=some r
 | [],ce,S,r,ha=>ha
 | .set x e::ss,ce,S,r,ha=>by
  simp only[exSS,Option.bind_eq_some_iff] at ha ⊢;obtain⟨q,h1,h2⟩:=ha;exact⟨q,zal h e _ _ h1,zbS h ss _ _ _ h2⟩
 | .ef e::ss,ce,S,r,ha=>by
  simp only[exSS,Option.bind_eq_some_iff] at ha ⊢;obtain⟨q,h1,h2⟩:=ha;exact⟨q,zal h e _ _ h1,zbS h ss _ _ _ h2⟩
theorem zdZ{α:Type}{f g:α->St->Option (Ex × α × St)}(h:∀a S r,f a S=some r->g a S=some r):∀(n m:Nat) (_:n<=m) (a:α) (S:St) (r:Ex × α × St),iter f n a S=some r->iter g m a S=some r
 | 0,m,_,a,S,r,ha=>by simp[iter] at ha
 | n+1,0,hnm,a,S,r,ha=>by omega
 | n+1,m+1,hnm,a,S,r,ha=>by
  simp only[iter] at ha ⊢;split at ha
  ·rename_i l S1 h1;rw[h _ _ _ h1];exact zdZ h n m (by omega) l S1 r ha
  ·rename_i hnn;rw[h _ _ _ ha];obtain⟨x,l,S1⟩:=r;cases x with
   | normal=>exact absurd ha (hnn _ _)
   | _=>rfl
theorem exS_mono{c1 c2:Call}(h:Leq c1 c2){N M:Nat}(hNM:N<=M):∀(c:SC) (ce:Env) (S:St) (r:Ex × Env × St),exS c1 N c ce S=some r->exS c2 M c ce S=some r:=by
 intro c
 induction c with
 | skip=>intro ce S r ha;exact ha
 | ret=>intro ce S r ha;exact ha
 | exit id=>intro ce S r ha;exact ha
 | reg ss=>
  intro ce S r ha;simp only[exS,Option.map_eq_some_iff] at ha ⊢;obtain⟨q,h1,h2⟩:=ha;exact⟨q,zbS h ss _ _ _ h1,h2⟩
 | dreg lv ops its=>
  intro ce S r ha;simp only[exS,Option.map_eq_some_iff] at ha ⊢;obtain⟨q,h1,h2⟩:=ha;exact⟨q,zbl h its _ _ _ h1,h2⟩
 | seq a b iha ihb=>
  intro ce S r ha;simp only[exS] at ha ⊢;split at ha
  ·rename_i ce1 S1 h1;rw[iha _ _ _ h1];exact ihb _ _ _ ha
  ·rename_i hnn;rw[iha _ _ _ ha];obtain⟨x,l,S1⟩:=r;cases x with
   | normal=>exact absurd ha (hnn _ _)
   | _=>rfl
 | cond c a b iha ihb=>
  intro ce S r ha;simp only[exS] at ha ⊢;split at ha
  ·exact iha _ _ _ ha
  ·exact ihb _ _ _ ha
  ·cases ha
 | ifr ss e a b iha ihb=>
  intro ce S r ha;simp only[exS,Option.bind_eq_some_iff] at ha ⊢;obtain⟨q,h1,p,h2,h3⟩:=ha;refine⟨q,zbS h ss _ _ _ h1,p,zal h e _ _ h2,?_⟩;split at h3
  ·exact iha _ _ _ h3
  ·exact ihb _ _ _ h3
  ·cases h3
 | block id c ih=>
  intro ce S r ha;simp only[exS] at ha ⊢;split at ha
  ·rename_i id' ce1 S1 h1;rw[ih _ _ _ h1];exact ha
  ·rename_i hnn;rw[ih _ _ _ ha];obtain⟨x,l,S1⟩:=r;cases x with
   | exit id=>exact absurd ha (hnn _ _ _)
   | _=>rfl
 | loop live c ih=>
  intro ce S r ha;simp only[exS] at ha ⊢;exact zdZ (λce S r ha=>ih _ _ _ ha) N M hNM _ _ _ ha
theorem zfz{vm:List Nat}{nt:Nat}{ce e:Env}(hA:At vm nt ce e)(S:St):∀(rs:List IRes),rs.all (okR vm.length)=true->zbB e S (rs.map (rnR vm))=zbB ce S rs
 | [],_=>rfl
 | r::rs,h=>by
  simp only[List.all_cons,Bool.and_eq_true] at h;simp only[List.map_cons,zbB,zfz hA S rs h.2];cases r<;>(have h1:=h.1;simp only[okR,decide_eq_true_eq] at h1;simp only[rnR,hA.at_ _ h1])
theorem zgB(nt:Nat)(args:List AV)(t:Nat):(pads nt args).getD t (.tup [])=args.getD t (.tup []):=by
 simp only[pads,List.getD_eq_getElem?_getD,List.getElem?_append];split
 ·rfl
 ·rename_i h;rw[List.getElem?_eq_none (l:=args) (by omega)];simp only[List.getElem?_replicate];split<;>rfl
theorem zfd{T:Nat->Option SFn}(hok:∀k f,T k=some f->f.ok=true):∀(n:Nat),Leq (runS T n) (run (λk=>(T k).map SFn.fl) n)
 | 0=>λf vs S r h=>by simp[runS] at h
 | n+1=>λf vs S r h=>by
  have ih:=zfd hok n;unfold runS at h;split at h
  ·rename_i k caps;unfold run;split at h
   ·rename_i nt vm res body hT;have ho:=hok k _ hT;simp only[SFn.ok,Bool.and_eq_true] at ho;obtain⟨⟨⟨h1,h2⟩,h3⟩,h4⟩:=ho;have hV:Vars vm nt:=⟨zaU.1 h1,zfI h2⟩
    simp only[hT,Option.map_some,SFn.fl];split at h
    ·cases h
    ·rename_i x ce S' hne hx;have hA:At vm nt (vm.map λt=>(vs++caps).getD t (.tup [])) (pads nt (vs++caps)):=by
      refine⟨by simp,by simp only[pads,List.length_append,List.length_replicate];omega,λy hy=>?_⟩;rw[zgB];simp only[tm,List.getD_eq_getElem?_getD,List.getElem?_map,List.getElem?_eq_getElem hy,Option.map_some,Option.getD_some]
     have hx':=exS_mono ih (Nat.le_refl n) _ _ _ _ hx;obtain⟨l',h5,h6,h7⟩:=exS_ok hV body _ { e:=pads nt (vs++caps) } S _ _ _ hx' hA h4;rw[h5];simp only[Option.map_eq_some_iff] at h;obtain⟨rvs,h8,h9⟩:=h;cases x with
     | exit id=>exact absurd rfl (hne id)
     | _=>simp only[h7,zgY,zfz h6 S' res h3,h8,Option.map_some,h9]
    ·cases h
   ·rename_i g hT;simp only[hT,Option.map_some,SFn.fl];exact h
   ·cases h
  ·cases h
end Am
end
section
namespace Am.F
open Go Am
inductive Tr where
 | nil
 | node (b:Blk) (l r:Tr)
noncomputable def Tr.getF(f:Nat):Tr->Nat->Blk :=
 Nat.rec (motive:=λ_=>Tr->Nat->Blk) (λ_ _=>.dead)
  (λ_ ih t i=>Tr.rec (motive:=λ_=>Blk) .dead (λb l r _ _=>Nat.rec (motive:=λ_=>Blk) b (λj _=>cond (Nat.beq (Nat.mod j 2) 1) (ih r (Nat.div j 2)) (ih l (Nat.div j 2))) i) t) f
noncomputable def Tr.setF(f:Nat):Tr->Nat->Blk->Tr :=
 Nat.rec (motive:=λ_=>Tr->Nat->Blk->Tr) (λt _ _=>t)
  (λ_ ih t i x=>Tr.rec (motive:=λ_=>Tr)
   (Nat.rec (motive:=λ_=>Tr) (.node x .nil .nil) (λj _=>cond (Nat.beq (Nat.mod j 2) 1) (.node .dead .nil (ih .nil (Nat.div j 2) x)) (.node .dead (ih .nil (Nat.div j 2) x) .nil)) i)
   (λb l r _ _=>Nat.rec (motive:=λ_=>Tr) (.node x l r) (λj _=>cond (Nat.beq (Nat.mod j 2) 1) (.node b l (ih r (Nat.div j 2) x)) (.node b (ih l (Nat.div j 2) x) r)) i) t) f
theorem zbd{α:Type}(j m:Nat)(x y:α):cond (Nat.beq j m) x y=if j=m then x else y:=by
 by_cases h:j=m
 ·rw[if_pos h,show Nat.beq j m=true by rw[Nat.beq_eq];exact h];rfl
 ·rw[if_neg h,Bool.eq_false_iff.mpr λhb=>h (Nat.eq_of_beq_eq_true hb)];rfl
theorem zbR(f i:Nat):Tr.nil.getF f i = .dead:=by cases f<;>rfl
theorem zaf(b:Blk)(l r:Tr)(f j:Nat):(Tr.node b l r).getF (f+1) (j+1)=if j%2=1 then r.getF f (j / 2) else l.getF f (j / 2):=by
 rw[<- zbd];rfl
theorem zdF(f:Nat)(x:Blk):Tr.nil.setF (f+1) 0 x = .node x .nil .nil:=rfl
theorem zdE(f j:Nat)(x:Blk):Tr.nil.setF (f+1) (j+1) x=if j%2=1 then .node .dead .nil (Tr.nil.setF f (j / 2) x) else .node .dead (Tr.nil.setF f (j / 2) x) .nil:=by
 rw[<- zbd];rfl
theorem zcZ(b:Blk)(l r:Tr)(f:Nat)(x:Blk):(Tr.node b l r).setF (f+1) 0 x = .node x l r:=rfl
theorem zcY(b:Blk)(l r:Tr)(f j:Nat)(x:Blk):(Tr.node b l r).setF (f+1) (j+1) x=if j%2=1 then .node b l (r.setF f (j / 2) x) else .node b (l.setF f (j / 2) x) r:=by
 rw[<- zbd];rfl
theorem zcm:∀(f:Nat) (t:Tr) (i:Nat) (x:Blk),i<f->(t.setF f i x).getF f i=x
 | 0,t,i,x,h=>by omega
 | f+1,t,i,x,h=>by
  cases t with
  | nil=>
   cases i with
   | zero=>rw[zdF];rfl
   | succ i=>
    rw[zdE];split<;>(rename_i hi;rw[zaf];simp only[hi,if_true,if_false];exact zcm f _ _ _ (by omega))
  | node b l r=>
   cases i with
   | zero=>rw[zcZ];rfl
   | succ i=>
    rw[zcY];split<;>(rename_i hi;rw[zaf];simp only[hi,if_true,if_false];exact zcm f _ _ _ (by omega))
theorem zaZ:∀(f g:Nat) (t:Tr) (i j:Nat) (x:Blk),i≠j->(t.setF g i x).getF f j=t.getF f j
 | 0,g,t,i,j,x,h=>by cases g<;>rfl
 | f+1,0,t,i,j,x,h=>rfl
 | f+1,g+1,t,i,j,x,h=>by
  cases t with
  | nil=>
   cases i with
   | zero=>
    rw[zdF];cases j with
    | zero=>exact absurd rfl h
    | succ j=>rw[zaf];simp only[zbR,ite_self]
   | succ i=>
    rw[zdE];cases j with
    | zero=>split<;>rfl
    | succ j=>
     by_cases hi:i%2=1<;>by_cases hj:j%2=1<;>simp only[hi,hj,if_true,if_false,zaf,zbR]
     ·rw[zaZ f g _ _ _ _ (by omega),zbR]
     ·rw[zaZ f g _ _ _ _ (by omega),zbR]
  | node b l r=>
   cases i with
   | zero=>
    rw[zcZ];cases j with
    | zero=>exact absurd rfl h
    | succ j=>rw[zaf,zaf]
   | succ i=>
    rw[zcY];cases j with
    | zero=>split<;>rfl
    | succ j=>
     by_cases hi:i%2=1<;>by_cases hj:j%2=1<;>simp only[hi,hj,if_true,if_false,zaf]
     ·rw[zaZ f g _ _ _ _ (by omega)]
     ·rw[zaZ f g _ _ _ _ (by omega)]
structure H where
 t:Tr
 n:Nat
noncomputable def H.get(h:H)(i:Nat):Blk:=h.t.getF (Nat.succ i) i
noncomputable def H.push(h:H)(b:Blk):H:=⟨h.t.setF (Nat.succ h.n) h.n b,h.n+1⟩
noncomputable def H.set(h:H)(i:Nat)(b:Blk):H:=⟨h.t.setF (Nat.succ i) i b,h.n⟩
def H.emp:H:=⟨.nil,0⟩
theorem H.n_push(h:H)(b:Blk):(h.push b).n=h.n+1:=rfl
theorem H.n_set(h:H)(i:Nat)(b:Blk):(h.set i b).n=h.n:=rfl
theorem H.get_set(h:H)(i j:Nat)(b:Blk):(h.set i b).get j=if i=j then b else h.get j:=by
 by_cases hi:i=j
 ·subst hi;rw[if_pos rfl];exact zcm _ _ _ _ (Nat.lt_succ_self i)
 ·rw[if_neg hi];exact zaZ (Nat.succ j) (Nat.succ i) h.t i j b hi
theorem H.get_push(h:H)(j:Nat)(b:Blk):(h.push b).get j=if h.n=j then b else h.get j:=by
 by_cases hi:h.n=j
 ·subst hi;rw[if_pos rfl];exact zcm _ _ _ _ (Nat.lt_succ_self _)
 ·rw[if_neg hi];exact zaZ (Nat.succ j) (Nat.succ h.n) h.t h.n j b hi
theorem H.get_emp(i:Nat):H.emp.get i = .dead:=zbR _ _
structure Abs (h:H) (S:St):Prop where
 len:S.length=h.n
 get:∀i,S.getD i .dead=h.get i
theorem Abs.emp:Abs H.emp []:=⟨rfl,λi=>by rw[H.get_emp];simp⟩
theorem Abs.at_{h:H}{S:St}(ha:Abs h S){i:Nat}{b:Blk}(hb:h.get i=b)(hd:b ≠ .dead):S[i]?=some b:=by
 have:=ha.get i
 rw[hb,List.getD_eq_getElem?_getD] at this;cases hs:S[i]? with
 | none=>rw[hs] at this;exact absurd this.symm hd
 | some c=>rw[hs] at this;simpa using this
theorem Abs.push{h:H}{S:St}(ha:Abs h S)(b:Blk):Abs (h.push b) (S++[b]):=by
 refine⟨by simp[ha.len,H.n_push],λi=>?_⟩;rw[H.get_push,<- ha.get i];simp only[List.getD_eq_getElem?_getD,List.getElem?_append];have hl:=ha.len;split
 ·rename_i hi;rw[if_neg (by omega)]
 ·rename_i hi
  by_cases h2:h.n=i
  ·rw[if_pos h2];simp[show i-S.length=0 by omega]
  ·rw[if_neg h2,List.getElem?_eq_none (by simp;omega),List.getElem?_eq_none (by omega)]
theorem Abs.set{h:H}{S:St}(ha:Abs h S){i:Nat}{c:Blk}(hi:S[i]?=some c)(b:Blk):Abs (h.set i b) (S.set i b):=by
 refine⟨by simp[ha.len,H.n_set],λj=>?_⟩;rw[H.get_set,<- ha.get j];simp only[List.getD_eq_getElem?_getD,List.getElem?_set];have hlt:i<S.length:=by
  rcases Nat.lt_or_ge i S.length with h1|h1
  ·exact h1
  ·rw[List.getElem?_eq_none h1] at hi;cases hi
 split
 ·simp
 ·rfl
theorem Abs.ex(S:St):∃h,Abs h S:=by
 have:∀(T:St),∃h,Abs h T.reverse:=by
  intro T
  induction T with
  | nil=>exact⟨_,Abs.emp⟩
  | cons b T ih=>obtain⟨h,hh⟩:=ih;exact⟨_,by rw[List.reverse_cons];exact hh.push b⟩
 simpa using this S.reverse
noncomputable def nth(vs:List AV)(n:Nat):AV :=
 List.rec (motive:=λ_=>Nat->AV) (λ_=>.tup []) (λv _ ih n=>Nat.rec (motive:=λ_=>AV) v (λm _=>ih m) n) vs n
noncomputable def putN(vs:List AV)(n:Nat)(x:AV):List AV :=
 List.rec (motive:=λ_=>Nat->List AV) (λ_=>[]) (λv vs ih n=>Nat.rec (motive:=λ_=>List AV) (x::vs) (λm _=>v::ih m) n) vs n
noncomputable def nthO{α:Type}(vs:List α)(n:Nat):Option α :=
 List.rec (motive:=λ_=>Nat->Option α) (λ_=>none) (λv _ ih n=>Nat.rec (motive:=λ_=>Option α) (some v) (λm _=>ih m) n) vs n
noncomputable def lenF{α:Type}(vs:List α):Nat:=List.rec (motive:=λ_=>Nat) 0 (λ_ _ ih=>Nat.succ ih) vs
noncomputable def appF{α:Type}(xs ys:List α):List α:=List.rec (motive:=λ_=>List α) ys (λx _ ih=>x::ih) xs
noncomputable def zbU{α:Type}(n:Nat)(xs:List α):List α :=
 Nat.rec (motive:=λ_=>List α->List α) (λxs=>xs) (λ_ ih xs=>List.rec (motive:=λ_=>List α) [] (λ_ xs _=>ih xs) xs) n xs
noncomputable def zbi{α:Type}(n:Nat)(xs:List α):List α :=
 Nat.rec (motive:=λ_=>List α->List α) (λ_=>[]) (λ_ ih xs=>List.rec (motive:=λ_=>List α) [] (λx xs _=>x::ih xs) xs) n xs
noncomputable def eqSF(xs ys:List UInt8):Bool :=
 List.rec (motive:=λ_=>List UInt8->Bool) (λys=>List.rec (motive:=λ_=>Bool) true (λ_ _ _=>false) ys)
  (λx _ ih ys=>List.rec (motive:=λ_=>Bool) false (λy ys _=>cond (Nat.beq x.toNat y.toNat) (ih ys) false) ys) xs ys
noncomputable def zbJ(cs:List AV)(o:Nat)(us:List AV):List AV :=
 List.rec (motive:=λ_=>List AV->Nat->List AV) (λcs _=>cs) (λu _ ih cs o=>ih (putN cs o u) (Nat.succ o)) us cs o
theorem zbP:∀(vs:List AV) (n:Nat),nth vs n=vs.getD n (.tup [])
 | [],n=>by simp[nth]
 | v::vs,0=>rfl
 | v::vs,n+1=>by
  have:=zbP vs n
  simp only[List.getD_cons_succ,<- this];rfl
theorem zaQ:∀(vs:List AV) (n:Nat) (x:AV),putN vs n x=vs.set n x
 | [],n,x=>by simp[putN]
 | v::vs,0,x=>rfl
 | v::vs,n+1,x=>by
  have:=zaQ vs n x
  simp only[List.set_cons_succ,<- this];rfl
theorem zba{α:Type}:∀(vs:List α) (n:Nat),nthO vs n=vs[n]?
 | [],n=>by simp[nthO]
 | v::vs,0=>rfl
 | v::vs,n+1=>by
  have:=zba vs n
  simp only[List.getElem?_cons_succ,<- this];rfl
theorem zg{α:Type}:∀(vs:List α),lenF vs=vs.length
 | []=>rfl
 | v::vs=>by
  have:=zg vs
  simp only[List.length_cons,<- this];rfl
theorem zbe{α:Type}:∀(xs ys:List α),appF xs ys=xs++ys
 | [],ys=>rfl
 | x::xs,ys=>by
  have:=zbe xs ys
  simp only[List.cons_append,<- this];rfl
theorem zL{α:Type}:∀(n:Nat) (xs:List α),zbU n xs=xs.drop n
 | 0,xs=>rfl
 | n+1,[]=>rfl
 | n+1,x::xs=>by
  have:=zL n xs
  simp only[List.drop_succ_cons,<- this];rfl
theorem zA{α:Type}:∀(n:Nat) (xs:List α),zbi n xs=xs.take n
 | 0,xs=>rfl
 | n+1,[]=>rfl
 | n+1,x::xs=>by
  have:=zA n xs
  simp only[List.take_succ_cons,<- this];rfl
theorem zbc:∀(xs ys:List UInt8),eqSF xs ys=(xs==ys)
 | [],[]=>rfl
 | [],y::ys=>rfl
 | x::xs,[]=>rfl
 | x::xs,y::ys=>by
  have h:=zbc xs ys;have:eqSF (x::xs) (y::ys)=cond (Nat.beq x.toNat y.toNat) (eqSF xs ys) false:=rfl
  rw[this,h,zbd,List.cons_beq_cons]
  by_cases hx:x=y
  ·subst hx;simp
  ·have h2:¬ x.toNat=y.toNat:=λh=>hx (UInt8.toNat_inj.mp h)
   simp[h2,hx]
theorem zam:∀(us cs:List AV) (o:Nat),zbJ cs o us=zaI cs o us
 | [],cs,o=>rfl
 | u::us,cs,o=>by
  have h:=zam us (cs.set o u) (o+1);have:zbJ cs o (u::us)=zbJ (putN cs o u) (o+1) us:=rfl
  rw[this,zaQ,h];rfl
section
variable {β:Type}
noncomputable def frc(m:Nat)(k:Nat->Option β):Option β:=Nat.rec (motive:=λ_=>Option β) (k 0) (λj _=>k (Nat.succ j)) m
noncomputable def frcZ(n:Int)(k:Int->Option β):Option β:=Int.rec (motive:=λ_=>Option β) (λm=>frc m λm=>k (.ofNat m)) (λm=>frc m λm=>k (.negSucc m)) n
theorem zH(m:Nat)(k:Nat->Option β):frc m k=k m:=by cases m<;>rfl
theorem zaR(n:Int)(k:Int->Option β):frcZ n k=k n:=by
 cases n with
 | ofNat m=>exact zH m λm=>k (.ofNat m)
 | negSucc m=>exact zH m λm=>k (.negSucc m)
noncomputable def frcL(xs:List UInt8)(k:List UInt8->Option β):Option β:=List.rec (motive:=λ_=>(List UInt8->Option β)->Option β) (λk=>k []) (λx _ ih k=>ih λr=>k (x::r)) xs k
theorem zeT:∀(xs:List UInt8) (k:List UInt8->Option β),frcL xs k=k xs
 | [],_=>rfl
 | x::xs,k=>zeT xs λr=>k (x::r)
noncomputable def ltZ(x y:Int):Bool :=
 Int.rec (motive:=λ_=>Bool) (λa=>Int.rec (motive:=λ_=>Bool) (λb=>Nat.ble (Nat.succ a) b) (λ_=>false) y)
  (λa=>Int.rec (motive:=λ_=>Bool) (λ_=>true) (λb=>Nat.ble (Nat.succ b) a) y) x
noncomputable def eqZ(x y:Int):Bool :=
 Int.rec (motive:=λ_=>Bool) (λa=>Int.rec (motive:=λ_=>Bool) (λb=>Nat.beq a b) (λ_=>false) y)
  (λa=>Int.rec (motive:=λ_=>Bool) (λ_=>false) (λb=>Nat.beq a b) y) x
theorem zhm{b:Bool}{p:Prop}[Decidable p](h:b=true↔p):b=decide p:=by
 cases b<;>simp_all
theorem zaV(x y:Int):ltZ x y=decide (x<y):=by
 cases x<;>cases y<;>apply zhm
 ·show Nat.ble _ _=true↔_;rw[Nat.ble_eq];simp only[Int.ofNat_eq_natCast];omega
 ·show false=true↔_;simp only[Int.ofNat_eq_natCast,Int.negSucc_eq];simp;omega
 ·show true=true↔_;simp only[Int.ofNat_eq_natCast,Int.negSucc_eq];simp;omega
 ·show Nat.ble _ _=true↔_;rw[Nat.ble_eq];simp only[Int.negSucc_eq];omega
theorem zfA(x y:Int):eqZ x y=decide (x=y):=by
 cases x<;>cases y<;>apply zhm
 ·show Nat.beq _ _=true↔_;rw[Nat.beq_eq];simp only[Int.ofNat_eq_natCast];omega
 ·show false=true↔_;simp only[Int.ofNat_eq_natCast,Int.negSucc_eq];simp;omega
 ·show false=true↔_;simp only[Int.ofNat_eq_natCast,Int.negSucc_eq];simp;omega
 ·show Nat.beq _ _=true↔_;rw[Nat.beq_eq];simp only[Int.negSucc_eq];omega
noncomputable def kIdx(k:IntKind):Nat:=IntKind.rec (motive:=λ_=>Nat) 0 1 2 3 4 5 6 7 k
noncomputable def kEq(k k':IntKind):Bool:=Nat.beq (kIdx k) (kIdx k')
theorem zaX(k k':IntKind):kEq k k'=decide (k=k'):=by cases k<;>cases k'<;>rfl
noncomputable def zel(k:IntKind)(n:Int):Int :=
 cond (Nat.beq (kIdx k) 3) (Int.rec (motive:=λ_=>Int) (λm=>cond (Nat.ble 9223372036854775808 m) (k.wrap n) n) (λm=>cond (Nat.ble 9223372036854775808 m) (k.wrap n) n) n) (k.wrap n)
theorem zaj(k:IntKind)(n:Int):zel k n=k.wrap n:=by
 unfold zel;rw[zbd];split
 ·rename_i hk;have:k = .i64:=by cases k<;>first|rfl|(simp[kIdx] at hk)
  subst this;cases n with
  | ofNat m=>
   show cond (Nat.ble 9223372036854775808 m) _ _=_
   by_cases h:9223372036854775808<=m
   ·rw[show Nat.ble 9223372036854775808 m=true from Nat.ble_eq.mpr h,cond_true]
   ·rw[show Nat.ble 9223372036854775808 m=false from Bool.eq_false_iff.mpr λhb=>h (Nat.ble_eq.mp hb),cond_false];exact (zas (by simp only[Int.ofNat_eq_natCast];omega) (by simp only[Int.ofNat_eq_natCast];omega)).symm
  | negSucc m=>
   show cond (Nat.ble 9223372036854775808 m) _ _=_
   by_cases h:9223372036854775808<=m
   ·rw[show Nat.ble 9223372036854775808 m=true from Nat.ble_eq.mpr h,cond_true]
   ·rw[show Nat.ble 9223372036854775808 m=false from Bool.eq_false_iff.mpr λhb=>h (Nat.ble_eq.mp hb),cond_false];exact (zas (by simp only[Int.negSucc_eq];omega) (by simp only[Int.negSucc_eq];omega)).symm
 ·rfl
abbrev VK (β:Type):=AV->Option β
abbrev K (β:Type):=AV->H->Option β
abbrev zc (β:Type):=AV->List AV->H->K β->Option β
noncomputable def aInt(a:AV)(c:IntKind->Int->Option β):Option β:=match a with|.int k n=>c k n|_=>none
noncomputable def aNat(a:AV)(c:Nat->Option β):Option β:=match a with
 | .int _ n=>Int.rec (motive:=λ_=>Option β) (λm=>frc m c) (λ_=>none) n
 | _=>none
noncomputable def aPtr(a:AV)(c:Nat->Nat->Option β):Option β:=match a with|.ptr b o=>c b o|_=>none
noncomputable def aStr(a:AV)(c:List UInt8->Option β):Option β:=match a with|.str s=>c s|_=>none
noncomputable def aAgg(a:AV)(c:List AV->Option β):Option β:=match a with|.agg s=>c s|_=>none
noncomputable def zdz(a:AV)(c:Bool->Option β):Option β:=match a with|.bool s=>c s|_=>none
noncomputable def aSl(a:AV)(n:Option β)(c:Nat->Nat->Nat->Nat->Option Nat->Option β):Option β:=match a with|.nils=>n|.sl b o l m g=>c b o l m g|_=>none
noncomputable def zdx(a:AV)(one:Option β)(c:List AV->Option β):Option β:=match a with|.agg us=>c us|.tup _=>none|.any=>none|_=>one
noncomputable def zP{α:Type}(o:Option α)(c:α->Option β):Option β:=match o with|some v=>c v|none=>none
noncomputable def bnd(lo hi mx:Bool)(bs:List AV)(len cap:Nat)(c:Nat->Nat->Nat->Option β):Option β:=match zZ lo hi mx bs len cap with|some r=>frc r.1 λl=>frc r.2.1 λh=>frc r.2.2 λm=>c l h m|none=>none
noncomputable def pPick(a b c:AV)(k:VK β):Option β:=zdz a λx=>cond x (k b) (k c)
noncomputable def zG(z:List AV)(ps:List (Nat × Nat))(vs:List AV)(k:VK β):Option β :=
 List.rec (motive:=λ_=>List AV->List AV->Option β)
  (λvs z=>match vs with|[]=>k (.agg z)|_=>none)
  (λp _ ih vs z=>match vs with
   | []=>none
   | v::vs=>zdx v (cond (Nat.beq p.2 1) (cond (Nat.ble (Nat.succ p.1) (lenF z)) (ih vs (putN z p.1 v)) none) none)
     λus=>cond (Nat.beq (lenF us) p.2) (cond (Nat.ble (Nat.add p.1 p.2) (lenF z)) (ih vs (zbJ z p.1 us)) none) none) ps vs z
noncomputable def pBin(op:BinOp)(a b:AV)(k:VK β):Option β:=aInt a λka x=>aInt b λkb y=>cond (zF op ka kb) (zP (binI op ka x y) k) none
noncomputable def pAdd(a b:AV)(k:VK β):Option β:=aInt a λka x=>aInt b λkb y=>cond (kEq ka kb) (frcZ (zel ka (Int.add x y)) λz=>k (.int ka z)) none
noncomputable def pSub(a b:AV)(k:VK β):Option β:=aInt a λka x=>aInt b λkb y=>cond (kEq ka kb) (frcZ (zel ka (Int.sub x y)) λz=>k (.int ka z)) none
noncomputable def pMul(a b:AV)(k:VK β):Option β:=aInt a λka x=>aInt b λkb y=>cond (kEq ka kb) (frcZ (zel ka (Int.mul x y)) λz=>k (.int ka z)) none
noncomputable def pEql(a b:AV)(k:VK β):Option β:=aInt a λka x=>aInt b λkb y=>cond (kEq ka kb) (k (.bool (eqZ x y))) none
noncomputable def pNeq(a b:AV)(k:VK β):Option β:=aInt a λka x=>aInt b λkb y=>cond (kEq ka kb) (k (.bool (not (eqZ x y)))) none
noncomputable def pLss(a b:AV)(k:VK β):Option β:=aInt a λka x=>aInt b λkb y=>cond (kEq ka kb) (k (.bool (ltZ x y))) none
noncomputable def pLeq(a b:AV)(k:VK β):Option β:=aInt a λka x=>aInt b λkb y=>cond (kEq ka kb) (k (.bool (not (ltZ y x)))) none
noncomputable def pGtr(a b:AV)(k:VK β):Option β:=aInt a λka x=>aInt b λkb y=>cond (kEq ka kb) (k (.bool (ltZ y x))) none
noncomputable def pGeq(a b:AV)(k:VK β):Option β:=aInt a λka x=>aInt b λkb y=>cond (kEq ka kb) (k (.bool (not (ltZ x y)))) none
noncomputable def pSAdd(a b:AV)(k:VK β):Option β:=aStr a λx=>aStr b λy=>cond (Nat.ble (Nat.succ (Nat.add (lenF x) (lenF y))) 9223372036854775807) (frcL (appF x y) λs=>k (.str s)) none
noncomputable def zgC(a b:AV)(k:VK β):Option β:=aStr a λx=>aStr b λy=>k (.bool (eqSF x y))
noncomputable def pSNeq(a b:AV)(k:VK β):Option β:=aStr a λx=>aStr b λy=>k (.bool (not (eqSF x y)))
noncomputable def pBinS(op:BinOp)(a b:AV)(k:VK β):Option β:=aStr a λx=>aStr b λy=>zP (binS op x y) k
noncomputable def pEqB(neg:Bool)(a b:AV)(k:VK β):Option β:=zdz a λx=>zdz b λy=>k (.bool ((x==y) != neg))
noncomputable def zc2(c:NK)(neg:Bool)(a:AV)(k:VK β):Option β:=zP (zdT c a) λr=>k (.bool (r != neg))
noncomputable def pEqP(neg:Bool)(a b:AV)(k:VK β):Option β:=aPtr a λx o=>aPtr b λy o'=>cond (Nat.beq x y) (cond (Nat.beq o o') (k (.bool (!neg))) none) none
noncomputable def pEqA(ks:List FK)(neg:Bool)(a b:AV)(k:VK β):Option β:=aAgg a λx=>aAgg b λy=>zP (zRq9 ks x y) λr=>k (.bool (r != neg))
noncomputable def pNot(a:AV)(k:VK β):Option β:=zdz a λx=>k (.bool (not x))
noncomputable def pNeg(a:AV)(k:VK β):Option β:=aInt a λkd n=>frcZ (zel kd (Int.sub 0 n)) λz=>k (.int kd z)
noncomputable def pConv(kd:IntKind)(a:AV)(k:VK β):Option β:=aInt a λ_ n=>frcZ (zel kd n) λz=>k (.int kd z)
noncomputable def pIdS(a:AV)(k:VK β):Option β:=aStr a λs=>k (.str s)
noncomputable def pSlS(lo hi:Bool)(a:AV)(bs:List AV)(k:VK β):Option β:=aStr a λs=>bnd lo hi false bs (lenF s) (lenF s) λl h _=>k (.str (zbU l (zbi h s)))
noncomputable def pSlL(es:Nat)(lo hi mx:Bool)(a:AV)(bs:List AV)(k:VK β):Option β :=
 aSl a (zP (zZ lo hi mx bs 0 0) λ_=>k .nils) λb o len cap g=>
  cond (match g with|none=>true|some e=>Nat.beq e es) (bnd lo hi mx bs len cap λl h m=>frc (Nat.add o (Nat.mul l es)) λo'=>frc (Nat.sub h l) λn=>frc (Nat.sub m l) λc=>k (.sl b o' n c (cond mx none g))) none
noncomputable def pSlA(n es:Nat)(lo hi mx:Bool)(a:AV)(bs:List AV)(k:VK β):Option β :=
 aPtr a λb o=>bnd lo hi mx bs n n λl h m=>frc (Nat.add o (Nat.mul l es)) λo'=>frc (Nat.sub h l) λn=>frc (Nat.sub m l) λc=>k (.sl b o' n c none)
noncomputable def zcf(off:Nat)(a:AV)(k:VK β):Option β:=aPtr a λb o=>frc (Nat.add o off) λo'=>k (.ptr b o')
noncomputable def pFld1(off:Nat)(a:AV)(k:VK β):Option β:=aAgg a λcs=>zP (nthO cs off) k
noncomputable def pFldN(n off:Nat)(a:AV)(k:VK β):Option β:=aAgg a λcs=>cond (Nat.ble (Nat.add off n) (lenF cs)) (k (.agg (zbi n (zbU off cs)))) none
noncomputable def zbw(es:Nat)(a i:AV)(k:VK β):Option β :=
 aSl a none λb o len _ _=>aNat i λi=>cond (Nat.ble (Nat.succ i) len) (frc (Nat.add o (Nat.mul i es)) λo'=>k (.ptr b o')) none
noncomputable def zgG(n es:Nat)(a i:AV)(k:VK β):Option β :=
 aPtr a λb o=>aNat i λi=>cond (Nat.ble (Nat.succ i) n) (frc (Nat.add o (Nat.mul i es)) λo'=>k (.ptr b o')) none
noncomputable def pIdxS(a i:AV)(k:VK β):Option β:=aStr a λs=>aNat i λi=>zP (nthO s i) λc=>frc c.toNat λm=>k (.int .u8 (.ofNat m))
noncomputable def pIdxA1(n es:Nat)(a i:AV)(k:VK β):Option β:=aAgg a λcs=>aNat i λi=>cond (Nat.ble (Nat.succ i) n) (zP (nthO cs (Nat.mul i es)) k) none
noncomputable def pIdxAN(n es m:Nat)(a i:AV)(k:VK β):Option β :=
 aAgg a λcs=>aNat i λi=>cond (Nat.ble (Nat.succ i) n) (cond (Nat.ble (Nat.add (Nat.mul i es) m) (lenF cs)) (k (.agg (zbi m (zbU (Nat.mul i es) cs)))) none) none
noncomputable def pExt(i:Nat)(a:AV)(k:VK β):Option β:=match a with|.tup vs=>zP (nthO vs i) k|_=>none
noncomputable def pLenS(a:AV)(k:VK β):Option β:=aStr a λs=>frc (lenF s) λn=>k (.int .i64 (.ofNat n))
noncomputable def pLenL(a:AV)(k:VK β):Option β:=aSl a (k (.int .i64 (.ofNat 0))) λ_ _ len _ _=>k (.int .i64 (.ofNat len))
noncomputable def pCapL(a:AV)(k:VK β):Option β:=aSl a (k (.int .i64 (.ofNat 0))) λ_ _ _ cap g=>match g with|none=>k (.int .i64 (.ofNat cap))|some _=>none
noncomputable def pMin(a b:AV)(k:VK β):Option β:=aInt a λka x=>aInt b λkb y=>cond (kEq ka kb) (k (.int ka (cond (ltZ y x) y x))) none
noncomputable def pMax(a b:AV)(k:VK β):Option β:=aInt a λka x=>aInt b λkb y=>cond (kEq ka kb) (k (.int ka (cond (ltZ x y) y x))) none
noncomputable def cells(h:H)(b:Nat)(c:List AV->Option β):Option β:=match h.get b with|.own _ cs=>c cs|.ro cs=>c cs|_=>none
noncomputable def ownd(h:H)(b:Nat)(c:Nat->List AV->Option β):Option β:=match h.get b with|.own tag cs=>c tag cs|_=>none
noncomputable def newB(h:H)(b:Blk)(c:Nat->H->Option β):Option β:=frc h.n λn=>c n ⟨h.t.setF (Nat.succ n) n b,Nat.succ n⟩
theorem zad(h:H)(b:Blk)(c:Nat->H->Option β):newB h b c=c h.n (h.push b):=by simp only[newB,zH];rfl
noncomputable def zc5(tag:Nat)(z:List AV)(h:H)(k:K β):Option β:=newB h (.own tag z) λn h=>k (.ptr n 0) h
noncomputable def fBox(tag:Nat)(a:AV)(h:H)(k:K β):Option β:=zdx a (newB h (.own tag [a]) λn h=>k (.ptr n 0) h) λcs=>newB h (.own tag cs) λn h=>k (.ptr n 0) h
noncomputable def zar(tag:Nat)(z:List AV)(n:Nat)(ps:List (Nat × Nat))(vs:List AV)(h:H)(k:K β):Option β :=
 zG z ps vs λv=>aAgg v λcs=>newB h (.own tag cs) λb h=>k (.sl b 0 n n none) h
noncomputable def zT(a:AV)(h:H)(k:VK β):Option β:=aPtr a λb o=>cells h b λcs=>zP (nthO cs o) k
noncomputable def zm(n:Nat)(a:AV)(h:H)(k:VK β):Option β:=aPtr a λb o=>cells h b λcs=>cond (Nat.ble (Nat.add o n) (lenF cs)) (k (.agg (zbi n (zbU o cs)))) none
noncomputable def zbk(n:Nat)(a v:AV)(h:H)(k:H->Option β):Option β :=
 aPtr a λb o=>ownd h b λtag cs=>
  zdx v (cond (Nat.beq n 1) (cond (Nat.ble (Nat.succ o) (lenF cs)) (k (h.set b (.own tag (putN cs o v)))) none) none)
   λus=>cond (Nat.beq (lenF us) n) (cond (Nat.ble (Nat.add o n) (lenF cs)) (k (h.set b (.own tag (zbJ cs o us)))) none) none
noncomputable def fNil(a:AV)(k:VK β):Option β:=match a with|.ptr b o=>k (.ptr b o)|.fn f cs=>k (.fn f cs)|_=>none
noncomputable def fB2s(a:AV)(h:H)(k:VK β):Option β :=
 aSl a (k (.str [])) λb o len _ _=>cells h b λcs=>cond (Nat.ble (Nat.add o len) (lenF cs)) (zP (zah (zbi len (zbU o cs))) λs=>k (.str s)) none
noncomputable def fS2b(tag:Nat)(a:AV)(h:H)(k:K β):Option β:=aStr a λs=>newB h (.own tag (zK s)) λb h=>frc (lenF s) λn=>k (.sl b 0 n n (some 1)) h
noncomputable def zft(tag:Nat)(z:List AV)(bytes:Nat)(l c:AV)(h:H)(k:K β):Option β :=
 aNat l λl=>aNat c λc=>cond (Nat.ble l c) (cond (Nat.ble (Nat.succ c) room) (cond (Nat.ble bytes 1024) (newB h (.own tag (rep c z)) λb h=>k (.sl b 0 l c none) h) none) none) none
noncomputable def fSrc(es:Nat)(a:AV)(h:H)(c:Nat->List AV->Option β):Option β:=match a with
 | .nils=>c 0 []
 | .sl b o len _ _=>cells h b λcs=>cond (Nat.ble (Nat.add o (Nat.mul len es)) (lenF cs)) (c len (zbi (Nat.mul len es) (zbU o cs))) none
 | .str s=>cond (Nat.beq es 1) (frc (lenF s) λn=>c n (zK s)) none
 | _=>none
noncomputable def zge(tag es bytes:Nat)(s:AV)(n:Nat)(new:List AV)(h:H)(k:K β):Option β :=
  aSl s (cond (Nat.beq n 0) (k .nils h) (cond (Nat.ble (Nat.succ n) room) (cond (Nat.ble bytes 1024) (newB h (.own tag new) λb h=>k (.sl b 0 n n (some es)) h) none) none))
    λb o len cap g=>frc (Nat.add len n) λm=>cond (Nat.ble m cap)
      (cond (Nat.beq n 0) (k (.sl b o len cap g) h)
        (ownd h b λtag' cs=>cond (Nat.ble (Nat.add (Nat.add o (Nat.mul len es)) (lenF new)) (lenF cs)) (k (.sl b o m cap g) (h.set b (.own tag' (zbJ cs (Nat.add o (Nat.mul len es)) new)))) none))
      (cond (Nat.ble (Nat.succ m) room) (cond (Nat.ble bytes 1024)
        (cells h b λcs=>cond (Nat.ble (Nat.add o (Nat.mul len es)) (lenF cs))
          (match g with
           | none=>newB h (.own tag (appF (zbi (Nat.mul len es) (zbU o cs)) new)) λb' h=>k (.sl b' 0 m m (some es)) h
           | some es'=>ownd h b λtag' cs'=>cond (Nat.beq es' es) (cond (Nat.beq (Nat.add o (Nat.mul len es)) (lenF cs')) (cond (Nat.beq tag' tag)
               (newB (h.set b .dead) (.own tag (appF (zbi (Nat.mul len es) (zbU o cs)) new)) λb' h=>k (.sl b' 0 m m (some es)) h) none) none) none) none) none) none)
noncomputable def fApp(tag es bytes:Nat)(s x:AV)(h:H)(k:K β):Option β:=fSrc es x h λn new=>zge tag es bytes s n new h k
noncomputable def fAppz(tag es bytes:Nat)(z:List AV)(s x:AV)(h:H)(k:K β):Option β :=
 aNat x λn=>cond (Nat.ble (Nat.succ n) room) (cond (Nat.ble bytes 1024) (zge tag es bytes s n (rep n z) h k) none) none
noncomputable def aLen(a:AV)(c:Nat->Option β):Option β:=match a with
 | .nils=>c 0
 | .sl _ _ len _ _=>c len
 | .str s=>frc (lenF s) c
 | _=>none
noncomputable def fSrcM(es m:Nat)(a:AV)(h:H)(c:List AV->Option β):Option β:=match a with
 | .nils=>c []
 | .sl b o _ _ _=>cells h b λcs=>cond (Nat.ble (Nat.add o (Nat.mul m es)) (lenF cs)) (c (zbi (Nat.mul m es) (zbU o cs))) none
 | .str s=>cond (Nat.beq es 1) (c (zK (zbi m s))) none
 | _=>none
noncomputable def fCpy(es:Nat)(d x:AV)(h:H)(k:K β):Option β :=
 aLen d λdl=>aLen x λxl=>frc (cond (Nat.ble xl dl) xl dl) λm=>fSrcM es m x h λus=>
  aSl d (k (.int .i64 (.ofNat 0)) h) λb o _ _ _=>cond (Nat.beq m 0) (k (.int .i64 (.ofNat 0)) h)
   (ownd h b λtag cs=>cond (Nat.ble (Nat.add o (lenF us)) (lenF cs)) (k (.int .i64 (.ofNat m)) (h.set b (.own tag (zbJ cs o us)))) none)
noncomputable def findF(k:List UInt8)(es:List (List UInt8 × AV)):Option AV:=List.rec (motive:=λ_=>Option AV) none (λp _ ih=>cond (eqSF k p.1) (some p.2) ih) es
noncomputable def setKF(k:List UInt8)(v:AV)(es:List (List UInt8 × AV)):List (List UInt8 × AV):=List.rec (motive:=λ_=>List (List UInt8 × AV)) [(k,v)] (λp t ih=>cond (eqSF k p.1) ((p.1,v)::t) (p::ih)) es
theorem zfp(k:List UInt8):∀es,findF k es=z7 k es
 | []=>rfl
 | (k',v)::es=>by
  have ih:=zfp k es;have:findF k ((k',v)::es)=cond (eqSF k k') (some v) (findF k es):=rfl
  rw[this,ih,zbc];show _=(if (k==k')=true then some v else z7 k es);cases k==k'<;>rfl
theorem zfb(k:List UInt8)(v:AV):∀es,setKF k v es=zbf k v es
 | []=>rfl
 | (k',v')::es=>by
  have ih:=zfb k v es;have:setKF k v ((k',v')::es)=cond (eqSF k k') ((k',v)::es) ((k',v')::setKF k v es):=rfl
  rw[this,ih,zbc];show _=(if (k==k')=true then (k',v)::es else (k',v')::zbf k v es);cases k==k'<;>rfl
noncomputable def mapd(h:H)(b:Nat)(c:List (List UInt8 × AV)->Nat->Option β):Option β:=match h.get b with|.map es ck=>c es ck|_=>none
noncomputable def fMkmap(h:H)(k:K β):Option β:=newB h (.map [] 0) λn h=>k (.mp n) h
noncomputable def zhd(ok:Bool)(z a b:AV)(h:H)(k:VK β):Option β:=match a with
 | .nilm=>aStr b λ_=>k (cond ok (.tup [z,.bool false]) z)
 | .mp m=>aStr b λs=>mapd h m λes _=>match findF s es with
  | some v=>k (cond ok (.tup [v,.bool true]) v)
  | none=>k (cond ok (.tup [z,.bool false]) z)
 | _=>none
noncomputable def zhc(a b v:AV)(h:H)(k:H->Option β):Option β:=match a with
 | .mp m=>aStr b λs=>cond v.sc (mapd h m λes ck=>k (h.set m (.map (setKF s v es) ck))) none
 | _=>none
abbrev a0 (vs:List AV) (c:Option β):Option β:=match vs with|[]=>c|_=>none
abbrev a1 (vs:List AV) (c:AV->Option β):Option β:=match vs with|[a]=>c a|_=>none
abbrev a2 (vs:List AV) (c:AV->AV->Option β):Option β:=match vs with|[a,b]=>c a b|_=>none
abbrev a3 (vs:List AV) (c:AV->AV->AV->Option β):Option β:=match vs with|[a,b,d]=>c a b d|_=>none
abbrev aC (vs:List AV) (c:AV->List AV->Option β):Option β:=match vs with|a::vs=>c a vs|_=>none
noncomputable abbrev fBinI (op:BinOp) (a b:AV) (k:VK β):Option β:=match op with
 | .add=>pAdd a b k|.sub=>pSub a b k|.mul=>pMul a b k
 | .eql=>pEql a b k|.neq=>pNeq a b k|.lss=>pLss a b k|.leq=>pLeq a b k|.gtr=>pGtr a b k|.geq=>pGeq a b k
 | op=>pBin op a b k
noncomputable abbrev fBinS (op:BinOp) (a b:AV) (k:VK β):Option β:=match op with
 | .add=>pSAdd a b k|.eql=>zgC a b k|.neq=>pSNeq a b k
 | op=>pBinS op a b k
noncomputable abbrev fAp (call:zc β) (f:OpK) (vs:List AV) (h:H) (k:K β):Option β:=match f with
 | .mov=>a1 vs λa=>k a h
 | .pick=>a3 vs λa b c=>pPick a b c λv=>k v h
 | .alloc tag z=>a0 vs (zc5 tag z h k)
 | .box tag=>a1 vs λa=>fBox tag a h k
 | .build z ps=>zG z ps vs λv=>k v h
 | .bslice tag z n ps=>zar tag z n ps vs h k
 | .load1=>a1 vs λa=>zT a h λv=>k v h
 | .loadN n=>a1 vs λa=>zm n a h λv=>k v h
 | .store n=>a2 vs λa b=>zbk n a b h λh=>k (.tup []) h
 | .nilCheck=>a1 vs λa=>fNil a λv=>k v h
 | .binI op=>a2 vs λa b=>fBinI op a b λv=>k v h
 | .binS op=>a2 vs λa b=>fBinS op a b λv=>k v h
 | .eqB neg=>a2 vs λa b=>pEqB neg a b λv=>k v h
 | .isNil c neg=>a1 vs λa=>zc2 c neg a λv=>k v h
 | .eqP neg=>a2 vs λa b=>pEqP neg a b λv=>k v h
 | .eqA ks neg=>a2 vs λa b=>pEqA ks neg a b λv=>k v h
 | .notB=>a1 vs λa=>pNot a λv=>k v h
 | .negI=>a1 vs λa=>pNeg a λv=>k v h
 | .conv kd=>a1 vs λa=>pConv kd a λv=>k v h
 | .b2s=>a1 vs λa=>fB2s a h λv=>k v h
 | .s2b tag=>a1 vs λa=>fS2b tag a h k
 | .idS=>a1 vs λa=>pIdS a λv=>k v h
 | .slS lo hi=>aC vs λa bs=>pSlS lo hi a bs λv=>k v h
 | .slL es lo hi mx=>aC vs λa bs=>pSlL es lo hi mx a bs λv=>k v h
 | .slA n es lo hi mx=>aC vs λa bs=>pSlA n es lo hi mx a bs λv=>k v h
 | .fadr off=>a1 vs λa=>zcf off a λv=>k v h
 | .fld1 off=>a1 vs λa=>pFld1 off a λv=>k v h
 | .fldN n off=>a1 vs λa=>pFldN n off a λv=>k v h
 | .iadr es=>a2 vs λa b=>zbw es a b λv=>k v h
 | .iadrA n es=>a2 vs λa b=>zgG n es a b λv=>k v h
 | .idxS=>a2 vs λa b=>pIdxS a b λv=>k v h
 | .idxA1 n es=>a2 vs λa b=>pIdxA1 n es a b λv=>k v h
 | .idxAN n es m=>a2 vs λa b=>pIdxAN n es m a b λv=>k v h
 | .ext i=>a1 vs λa=>pExt i a λv=>k v h
 | .mkfn g=>k (.fn g vs) h
 | .mkslice tag z bytes=>a2 vs λa b=>zft tag z bytes a b h k
 | .lenS=>a1 vs λa=>pLenS a λv=>k v h
 | .lenL=>a1 vs λa=>pLenL a λv=>k v h
 | .lenC n=>a1 vs λ_=>k (.int .i64 n) h
 | .capL=>a1 vs λa=>pCapL a λv=>k v h
 | .app tag es bytes=>a2 vs λa b=>fApp tag es bytes a b h k
 | .appz tag es bytes z=>a2 vs λa b=>fAppz tag es bytes z a b h k
 | .cpy es=>a2 vs λa b=>fCpy es a b h k
 | .minI=>a2 vs λa b=>pMin a b λv=>k v h
 | .maxI=>a2 vs λa b=>pMax a b λv=>k v h
 | .call g=>call (.fn g []) vs h k
 | .callv=>aC vs λg vs=>call g vs h k
 | .mkifc=>a1 vs λ_=>k .opq h
 | .mkmap=>a0 vs (fMkmap h k)
 | .lookup ok z=>a2 vs λa b=>zhd ok z a b h λv=>k v h
 | .mapSet=>a3 vs λa b c=>zhc a b c h λh=>k (.tup []) h
 | _=>none
end
end Am.F
end
section
namespace Am.F
open Go Am
section
variable {β:Type}
abbrev Cur (β:Type) (n:Nat):Type:=Nat.rec (H->Option β) (λ_ ih=>AV->ih) n
noncomputable abbrev zds (n:Nat):(Env->H->Option β)->Cur β n :=
 Nat.rec (motive:=λn=>(Env->H->Option β)->Cur β n) (λf=>f []) (λ_ ih f x=>ih λxs=>f (x::xs)) n
noncomputable abbrev zcr (n:Nat):Cur β n->Env->H->Option β :=
 Nat.rec (motive:=λn=>Cur β n->Env->H->Option β) (λj ce h=>match ce with|[]=>j h|_=>none) (λ_ ih j ce h=>match ce with|x::xs=>ih (j x) xs h|[]=>none) n
def zdp(n:Nat)(j:Cur β n)(b:Cur β n->Option β):Option β:=b j
noncomputable def fLoop(n N:Nat)(F:Cur β n->Cur β n):Cur β n:=Nat.rec (motive:=λ_=>Cur β n) (zds n λ_ _=>none) (λ_ ih=>F ih) N
noncomputable def fIf(v:AV)(a b:Option β):Option β:=zdz v λx=>cond x a b
noncomputable def fAnd(v:AV)(h:H)(b:H->K β->Option β)(k:K β):Option β:=zdz v λx=>cond x (b h k) (k (.bool false) h)
noncomputable def fOr(v:AV)(h:H)(b:H->K β->Option β)(k:K β):Option β:=zdz v λx=>cond x (k (.bool true) h) (b h k)
noncomputable def fGrd(v:AV)(want:Bool)(h:H)(act:H->K β->Option β)(k:K β):Option β:=match v with
 | .bool b=>cond b (cond want (act h k) (k (.tup []) h)) (cond want (k (.tup []) h) (act h k))
 | .tup _=>k (.tup []) h
 | _=>none
noncomputable def fChk(v w:AV)(c:Option β):Option β:=cond (AV.beq v w) c none
noncomputable abbrev fE (call:zc β) (e:SE):Env->H->K β->Option β :=
 SE.rec (motive_1:=λ_=>Env->H->K β->Option β) (motive_2:=λ_=>Env->H->(List AV->H->Option β)->Option β)
  (λx _ ce h k=>k (nth ce x) h)
  (λc _ h k=>k c h)
  (λ_ f _ ih ce h k=>ih ce h λvs h=>fAp call f vs h k)
  (λ_ f _ _ iha ihb ce h k=>ihb ce h λvb h=>iha ce h λva h=>fAp call f [va,vb] h k)
  (λ_ _ _ _ iha ihb ce h k=>iha ce h λv h=>fAnd v h (λh k=>ihb ce h k) k)
  (λ_ _ _ _ iha ihb ce h k=>iha ce h λv h=>fOr v h (λh k=>ihb ce h k) k)
  (λ_ h k=>k [] h)
  (λ_ _ ihx ihs ce h k=>ihx ce h λv h=>ihs ce h λvs h=>k (v::vs) h) e
noncomputable abbrev fEs (call:zc β) (es:List SE):Env->H->(List AV->H->Option β)->Option β :=
 SE.rec_1 (motive_1:=λ_=>Env->H->K β->Option β) (motive_2:=λ_=>Env->H->(List AV->H->Option β)->Option β)
  (λx _ ce h k=>k (nth ce x) h)
  (λc _ h k=>k c h)
  (λ_ f _ ih ce h k=>ih ce h λvs h=>fAp call f vs h k)
  (λ_ f _ _ iha ihb ce h k=>ihb ce h λvb h=>iha ce h λva h=>fAp call f [va,vb] h k)
  (λ_ _ _ _ iha ihb ce h k=>iha ce h λv h=>fAnd v h (λh k=>ihb ce h k) k)
  (λ_ _ _ _ iha ihb ce h k=>iha ce h λv h=>fOr v h (λh k=>ihb ce h k) k)
  (λ_ h k=>k [] h)
  (λ_ _ ihx ihs ce h k=>ihx ce h λv h=>ihs ce h λvs h=>k (v::vs) h) es
noncomputable abbrev fS1 (call:zc β) (s:SS) (ce:Env) (h:H) (k:Env->H->Option β):Option β:=match s with
 | .set x e=>fE call e ce h λv h=>k (putN ce x v) h
 | .ef e=>fE call e ce h λ_ h=>k ce h
noncomputable abbrev fSS (call:zc β) (ss:List SS):Env->H->(Env->H->Option β)->Option β :=
 List.rec (motive:=λ_=>Env->H->(Env->H->Option β)->Option β) (λce h k=>k ce h)
  (λs _ ih ce h k=>fS1 call s ce h λce h=>ih ce h k) ss
noncomputable abbrev zdo (live:List Nat) (ce:Env) (i:Nat):Env :=
 List.rec (motive:=λ_=>Nat->Env) (λ_=>[]) (λv _ ih i=>cond (live.contains i) v .any::ih (Nat.succ i)) ce i
noncomputable abbrev fOpd (ce:Env) (p:Opd):AV:=match p with|.t i=>nth ce i|.c v=>v
noncomputable abbrev fOp (call:zc β) (o:IOp) (ce:Env) (h:H) (k:K β):Option β :=
 match o.guard with
 | none=>fAp call o.k (o.args.map (fOpd ce)) h k
 | some g=>fGrd (nth ce g.1) g.2 h (λh k=>fAp call o.k (o.args.map (fOpd ce)) h k) k
noncomputable abbrev fPut (d:Option Nat) (ce:Env) (v:AV):Env:=match d with|some d=>putN ce d v|none=>ce
noncomputable abbrev fIts (call:zc β) (ops:List IOp) (its:List DItem):Env->H->(Env->H->Option β)->Option β :=
 List.rec (motive:=λ_=>Env->H->(Env->H->Option β)->Option β) (λce h k=>k ce h)
  (λit _ ih ce h k=>match it with
   | .op i=>(match ops[i]? with
    | some o=>fOp call o ce h λv h=>ih (fPut o.dst ce v) h k
    | none=>none)
   | .chk i=>(match ops[i]? with
    | some o=>(match o.dst with
     | some d=>fOp (λ_ _ _ _=>none) o ce h λv _=>fChk v (nth ce d) (ih ce h k)
     | none=>none)
    | none=>none)) its
abbrev br:SC->Bool
 | .skip|.ret|.reg _|.dreg _ _ _|.exit _=>false
 | .seq a b=>br a||br b
 | _=>true
noncomputable abbrev fC (call:zc β) (N nv:Nat) (c:SC):Env->H->(Env->H->Option β)->(Env->H->Option β)->(Nat->Env->H->Option β)->Option β :=
 SC.rec (motive:=λ_=>Env->H->(Env->H->Option β)->(Env->H->Option β)->(Nat->Env->H->Option β)->Option β)
  (λce h kn _ _=>kn ce h)
  (λce h _ kr _=>kr ce h)
  (λss ce h kn _ _=>fSS call ss ce h kn)
  (λlv ops its ce h kn _ _=>fIts call ops its (appF ce (List.replicate lv.length (.tup []))) h λce h=>kn (zbi nv ce) h)
  (λa _ iha ihb ce h kn kr kx=>cond (br a) (zdp nv (zds nv λce h=>ihb ce h kn kr kx) λj=>iha ce h (zcr nv j) kr kx) (iha ce h (λce h=>ihb ce h kn kr kx) kr kx))
  (λc _ _ iha ihb ce h kn kr kx=>fIf (fOpd ce c) (iha ce h kn kr kx) (ihb ce h kn kr kx))
  (λss e _ _ iha ihb ce h kn kr kx=>fSS call ss ce h λce h=>fE call e ce h λv h=>fIf v (iha ce h kn kr kx) (ihb ce h kn kr kx))
  (λid _ ih ce h kn kr kx=>ih ce h kn kr λid' ce h=>cond (Nat.beq id' id) (kn ce h) (kx id' ce h))
  (λlive _ ih ce h _ kr kx=>zcr nv (fLoop nv N λagain=>zds nv λce h=>ih (zdo live ce 0) h (zcr nv again) kr kx) ce h)
  (λid ce h _ _ kx=>kx id ce h) c
noncomputable abbrev fRes (res:List IRes) (ce:Env) (h:H) (k:List AV->Option β):Option β :=
 List.rec (motive:=λ_=>(List AV->Option β)->Option β) (λk=>k [])
  (λr _ ih k=>match r with
   | .tmp t=>ih λvs=>k (nth ce t::vs)
   | .cell1 t=>zT (nth ce t) h λv=>ih λvs=>k (v::vs)
   | .cellN t n=>zm n (nth ce t) h λv=>ih λvs=>k (v::vs)) res k
abbrev FI:Type:=Nat->List AV->H->Option (AV × H)
noncomputable def fInt(I:FI)(g:Nat)(args:List AV)(h:H)(k:K β):Option β:=zP (I g args h) λr=>k r.1 r.2
noncomputable abbrev z8 (I:FI) (g:Nat) (fn:SFn) (N:Nat) (call:zc β) (args:List AV) (h:H) (k:K β):Option β:=match fn with
 | .src _ vm res body=>fC call N (lenF vm) body (vm.map (nth args)) h (λce h=>fRes res ce h λvs=>k (one vs) h) (λce h=>fRes res ce h λvs=>k (one vs) h) λ_ _ _=>none
 | .intr _=>fInt I g args h k
noncomputable def fRun(T:Nat->Option SFn)(I:FI)(n:Nat):zc β :=
 Nat.rec (motive:=λ_=>zc β) (λ_ _ _ _=>none)
  (λn call f args h k=>match f with
   | .fn g caps=>(match T g with
    | some fn=>z8 I g fn n call (appF args caps) h k
    | none=>none)
   | _=>none) n
end
end Am.F
end
section
namespace Am.F
open Go Am
structure Ent where
 g:Nat
 s:SFn
 f:(β:Type)->FI->Nat->zc β->List AV->H->K β->Option β
 ok:∀(β:Type) (I:FI) (N:Nat) (call:zc β) (a:List AV) (h:H) (k:K β),z8 I g s N call a h k=f β I N call a h k
inductive ETree where
 | leaf
 | node (e:Ent) (l r:ETree)
noncomputable def ETree.get(t:ETree)(g:Nat):Option Ent :=
 ETree.rec (motive:=λ_=>Option Ent) none (λe _ _ il ir=>cond (Nat.beq g e.g) (some e) (cond (Nat.ble g e.g) il ir)) t
theorem ETree.get_g{t:ETree}{g:Nat}{e:Ent}(h:t.get g=some e):e.g=g:=by
 induction t with
 | leaf=>cases h
 | node e' l r ihl ihr=>
  have:(ETree.node e' l r).get g=cond (Nat.beq g e'.g) (some e') (cond (Nat.ble g e'.g) (l.get g) (r.get g)):=rfl
  rw[this] at h;cases hb:Nat.beq g e'.g with
  | true=>rw[hb] at h;cases h;exact (Nat.eq_of_beq_eq_true hb).symm
  | false=>
   rw[hb] at h;cases hc:Nat.ble g e'.g with
   | true=>rw[hc] at h;exact ihl h
   | false=>rw[hc] at h;exact ihr h
noncomputable def ETree.T(t:ETree)(g:Nat):Option SFn:=(t.get g).map Ent.s
noncomputable def zcg(t:ETree)(I:FI){β:Type}(n:Nat):zc β :=
 Nat.rec (motive:=λ_=>zc β) (λ_ _ _ _=>none)
  (λn call f args h k=>match f with
   | .fn g caps=>(match t.get g with
    | some e=>e.f β I n call (appF args caps) h k
    | none=>none)
   | _=>none) n
theorem zfs(t:ETree)(I:FI){β:Type}:∀(n:Nat),zcg (β:=β) t I n=fRun t.T I n
 | 0=>rfl
 | n+1=>by
  have ih:=zfs t I (β:=β) n
  funext f args h k
  cases f with
  | fn g caps=>
   show (match t.get g with
    | some e=>e.f β I n (zcg t I n) (appF args caps) h k
    | none=>none)=(match t.T g with
    | some fn=>z8 I g fn n (fRun t.T I n) (appF args caps) h k
    | none=>none)
   rw[ih];simp only[ETree.T];cases hg:t.get g with
   | none=>rfl
   | some e=>
    have:=ETree.get_g hg
    subst this;exact (e.ok β I n _ _ _ _).symm
  | _=>rfl
theorem za1(t:ETree)(I:FI){β:Type}(n g:Nat)(caps args:List AV)(h:H)(k:K β){e:Ent}(he:t.get g=some e) :
  zcg t I (n+1) (.fn g caps) args h k=e.f β I n (zcg t I n) (args++caps) h k:=by
 have h1:zcg (β:=β) t I (n+1) (.fn g caps) args h k=(match t.get g with
    | some e=>e.f β I n (zcg t I n) (appF args caps) h k
    | none=>none):=rfl
 rw[h1,he,zbe]
end Am.F
end
section
namespace Am.F
open Go Am
inductive Wr {α:Type}:α->Type where
 | mk (a:α):Wr a
section
variable {β:Type}
noncomputable def qAdd(a b:AV){k:VK β}(_:Wr k):Option β:=pAdd a b k
noncomputable def qSub(a b:AV){k:VK β}(_:Wr k):Option β:=pSub a b k
noncomputable def qMul(a b:AV){k:VK β}(_:Wr k):Option β:=pMul a b k
noncomputable def qEql(a b:AV){k:VK β}(_:Wr k):Option β:=pEql a b k
noncomputable def qNeq(a b:AV){k:VK β}(_:Wr k):Option β:=pNeq a b k
noncomputable def qLss(a b:AV){k:VK β}(_:Wr k):Option β:=pLss a b k
noncomputable def qLeq(a b:AV){k:VK β}(_:Wr k):Option β:=pLeq a b k
noncomputable def qGtr(a b:AV){k:VK β}(_:Wr k):Option β:=pGtr a b k
noncomputable def qGeq(a b:AV){k:VK β}(_:Wr k):Option β:=pGeq a b k
noncomputable def qSAdd(a b:AV){k:VK β}(_:Wr k):Option β:=pSAdd a b k
noncomputable def qSEql(a b:AV){k:VK β}(_:Wr k):Option β:=zgC a b k
noncomputable def qSNeq(a b:AV){k:VK β}(_:Wr k):Option β:=pSNeq a b k
noncomputable def qMin(a b:AV){k:VK β}(_:Wr k):Option β:=pMin a b k
noncomputable def qMax(a b:AV){k:VK β}(_:Wr k):Option β:=pMax a b k
noncomputable def qIdxS(a b:AV){k:VK β}(_:Wr k):Option β:=pIdxS a b k
noncomputable def qNot(a:AV){k:VK β}(_:Wr k):Option β:=pNot a k
noncomputable def qNeg(a:AV){k:VK β}(_:Wr k):Option β:=pNeg a k
noncomputable def qLenS(a:AV){k:VK β}(_:Wr k):Option β:=pLenS a k
noncomputable def qLenL(a:AV){k:VK β}(_:Wr k):Option β:=pLenL a k
noncomputable def qCapL(a:AV){k:VK β}(_:Wr k):Option β:=pCapL a k
noncomputable def qBin(op:BinOp)(a b:AV){k:VK β}(_:Wr k):Option β:=pBin op a b k
noncomputable def zfg(c:NK)(neg:Bool)(a:AV){k:VK β}(_:Wr k):Option β:=zc2 c neg a k
noncomputable def zeA(a b c:AV){k:VK β}(_:Wr k):Option β:=pPick a b c k
noncomputable def zJ(z:List AV)(ps:List (Nat × Nat))(vs:List AV){k:VK β}(_:Wr k):Option β:=zG z ps vs k
noncomputable def qConv(kd:IntKind)(a:AV){k:VK β}(_:Wr k):Option β:=pConv kd a k
noncomputable def qSlS(lo hi:Bool)(a:AV)(bs:List AV){k:VK β}(_:Wr k):Option β:=pSlS lo hi a bs k
noncomputable def qSlL(es:Nat)(lo hi mx:Bool)(a:AV)(bs:List AV){k:VK β}(_:Wr k):Option β:=pSlL es lo hi mx a bs k
noncomputable def ze(off:Nat)(a:AV){k:VK β}(_:Wr k):Option β:=zcf off a k
noncomputable def qFld1(off:Nat)(a:AV){k:VK β}(_:Wr k):Option β:=pFld1 off a k
noncomputable def zN(es:Nat)(a i:AV){k:VK β}(_:Wr k):Option β:=zbw es a i k
noncomputable def qIadrA(n es:Nat)(a i:AV){k:VK β}(_:Wr k):Option β:=zgG n es a i k
noncomputable def qExt(i:Nat)(a:AV){k:VK β}(_:Wr k):Option β:=pExt i a k
noncomputable def zb6(tag:Nat)(z:List AV)(h:H){k:K β}(_:Wr k):Option β:=zc5 tag z h k
noncomputable def qBox(tag:Nat)(a:AV)(h:H){k:K β}(_:Wr k):Option β:=fBox tag a h k
noncomputable def zQ(tag:Nat)(z:List AV)(n:Nat)(ps:List (Nat × Nat))(vs:List AV)(h:H){k:K β}(_:Wr k):Option β:=zar tag z n ps vs h k
noncomputable def za(a:AV)(h:H){k:VK β}(_:Wr k):Option β:=zT a h k
noncomputable def zax(n:Nat)(a:AV)(h:H){k:VK β}(_:Wr k):Option β:=zm n a h k
noncomputable def zaJ(n:Nat)(a v:AV)(h:H){k:H->Option β}(_:Wr k):Option β:=zbk n a v h k
noncomputable def qNil(a:AV){k:VK β}(_:Wr k):Option β:=fNil a k
noncomputable def qB2s(a:AV)(h:H){k:VK β}(_:Wr k):Option β:=fB2s a h k
noncomputable def zff(tag:Nat)(z:List AV)(bytes:Nat)(l c:AV)(h:H){k:K β}(_:Wr k):Option β:=zft tag z bytes l c h k
noncomputable def qApp(tag es bytes:Nat)(s x:AV)(h:H){k:K β}(_:Wr k):Option β:=fApp tag es bytes s x h k
noncomputable def zp(call:zc β)(f:AV)(vs:List AV)(h:H){k:K β}(_:Wr k):Option β:=call f vs h k
noncomputable def qIf(v:AV){a b:Option β}(_:Wr a)(_:Wr b):Option β:=fIf v a b
noncomputable def qAnd(v:AV)(h:H){b:H->K β->Option β}{k:K β}(_:Wr b)(_:Wr k):Option β:=fAnd v h b k
noncomputable def qOr(v:AV)(h:H){b:H->K β->Option β}{k:K β}(_:Wr b)(_:Wr k):Option β:=fOr v h b k
noncomputable def qGrd(v:AV)(want:Bool)(h:H){act:H->K β->Option β}{k:K β}(_:Wr act)(_:Wr k):Option β:=fGrd v want h act k
noncomputable def qChk(v w:AV){c:Option β}(_:Wr c):Option β:=fChk v w c
noncomputable def zt(n:Nat){j:Cur β n}{b:Cur β n->Option β}(_:Wr j)(_:Wr b):Option β:=zdp n j b
noncomputable def zcy(n N:Nat){F:Cur β n->Cur β n}(_:Wr F):Cur β n:=fLoop n N F
noncomputable def zez{α:Type}(o:Option α){c:α->Option β}(_:Wr c):Option β:=zP o c
def zbI(b:Bool){x y:Option β}(_:Wr x)(_:Wr y):Option β:=cond b x y
end
theorem cRule{β:Type}{t:ETree}{I:FI}{key:Nat}{e:Ent}(hg:t.get key=some e){n:Nat}{a:List AV}{h:H}{k:K β}:zcg t I (n+1) (.fn key []) a h k=e.f β I n (zcg t I n) a h k:=by rw[za1 t I n key [] a h k hg,List.append_nil]
end Am.F
end
