/- The law NameEndless answers true,whatever numbers it is given: no condition. -/
import Derived.Test.YtddiafpckjhadaaGreatDoorAmZgeeLink
import Derived.Test.YtddiafpckjhadaaGreatDoorAmJd
import Derived.Test.YtddiafpckjhadaaGreatDoorAmFu
import Derived.Test.YtddiafpckjhadaaGreatDoorAmJj
import Derived.Test.YtddiafpckjhadaaGreatDoorAmChk
import Derived.Test.YtddiafpckjhadaaGreatDoorCards
import Derived.Test.YtddiafpckjhadaaGreatDoorTie
import Derived.WalkKit
import Derived.ProofKit
import Derived.Deep.DeepHandedRow
open Nat (reduceAdd reduceMul)
open Int (reduceToNat)
set_option maxRecDepth 100000
set_option linter.unusedSimpArgs false
set_option linter.unusedVariables false
namespace Am.F
open Go Am
def isT(o:Option AV):Bool:=match o with|some (.bool true)=>true|_=>false
theorem isT_eq{o:Option AV}(h:isT o=true):o=some (.bool true):=by
 unfold isT at h;split at h
 ·rfl
 ·cases h
noncomputable abbrev zb7 (i j:Int):Option AV:=zb tab stdI (2998+1) (.fn 239 []) [.int .i64 i,.int .i64 j] H.emp λv _=>some v
theorem q_and(m:Int)(k:Nat)(hm:m=((2 ^ k-1:Nat):Int))(hk:k<=62)(x:Int)(c:VK AV):qBin .and (.int .i64 x) (.int .i64 m) (.mk c)=c (.int .i64 (x%(2 ^ k:Nat))):=pBin_and m k hm hk x c
noncomputable def h8:H:=H.emp.push (.own 0 [.str [40,102,48,41],.str [40,43,32,49,32,40,102,48,41,41],.str [40,99,97,115,101,32,40,102,48,41,32,64,49,32,48,32,49,32,50,41],.str [40,108,101,116,32,49,32,40,102,48,41,41],.str [40,102,50,32,49,41],.str [40,102,49,32,40,102,50,32,49,41,32,49,41],.str [40,43,32,40,102,48,41,32,101,114,114,111,114,41],.str [40,99,97,115,101,32,49,32,64,49,32,48,32,49,32,40,102,48,41,41]])
theorem h8_eq:H.emp.push (.own 0 [.str [40,102,48,41],.str [40,43,32,49,32,40,102,48,41,41],.str [40,99,97,115,101,32,40,102,48,41,32,64,49,32,48,32,49,32,50,41],.str [40,108,101,116,32,49,32,40,102,48,41,41],.str [40,102,50,32,49,41],.str [40,102,49,32,40,102,50,32,49,41,32,49,41],.str [40,43,32,40,102,48,41,32,101,114,114,111,114,41],.str [40,99,97,115,101,32,49,32,64,49,32,48,32,49,32,40,102,48,41,41]])=h8:=(Eq.refl h8).trans rfl
theorem g8:(h8.get H.emp.n).cells=some [.str [40,102,48,41],.str [40,43,32,49,32,40,102,48,41,41],.str [40,99,97,115,101,32,40,102,48,41,32,64,49,32,48,32,49,32,50,41],.str [40,108,101,116,32,49,32,40,102,48,41,41],.str [40,102,50,32,49,41],.str [40,102,49,32,40,102,50,32,49,41,32,49,41],.str [40,43,32,40,102,48,41,32,101,114,114,111,114,41],.str [40,99,97,115,101,32,49,32,64,49,32,48,32,49,32,40,102,48,41,41]]:=(Eq.refl (h8.get H.emp.n).cells).trans rfl
theorem hbs(hh:H)(kk:K AV):zt 0 [(.str []),(.str []),(.str []),(.str []),(.str []),(.str []),(.str []),(.str [])] 8 [(0,1),(1,1),(2,1),(3,1),(4,1),(5,1),(6,1),(7,1)] [.str [40,102,48,41],.str [40,43,32,49,32,40,102,48,41,41],.str [40,99,97,115,101,32,40,102,48,41,32,64,49,32,48,32,49,32,50,41],.str [40,108,101,116,32,49,32,40,102,48,41,41],.str [40,102,50,32,49,41],.str [40,102,49,32,40,102,50,32,49,41,32,49,41],.str [40,43,32,40,102,48,41,32,101,114,114,111,114,41],.str [40,99,97,115,101,32,49,32,64,49,32,48,32,49,32,40,102,48,41,41]] hh (.mk kk)=kk (.sl hh.n 0 8 8 none) (hh.push (.own 0 [.str [40,102,48,41],.str [40,43,32,49,32,40,102,48,41,41],.str [40,99,97,115,101,32,40,102,48,41,32,64,49,32,48,32,49,32,50,41],.str [40,108,101,116,32,49,32,40,102,48,41,41],.str [40,102,50,32,49,41],.str [40,102,49,32,40,102,50,32,49,41,32,49,41],.str [40,43,32,40,102,48,41,32,101,114,114,111,114,41],.str [40,99,97,115,101,32,49,32,64,49,32,48,32,49,32,40,102,48,41,41]])):=fBslice_n (λ_=>rfl) hh kk
def isF:Rs × Nat->Bool
 | (.bad c,_)=>decide (c=901)
 | _=>false
theorem isF_eq{r:Rs × Nat}(h:isF r=true):(outN r.1).2=901:=by
 unfold isF at h;split at h
 ·exact of_decide_eq_true h
 ·cases h
theorem endless{p:List Df}{a:Nat}(hp:zJ p=true)(h0:zaq p 0=0)(hc:zdV p 0 [] = .part 0 a [])(he:((List.range 401).all λk=>isF (zp p (k+1) k (.part 0 a [])))=true){x:Int}(h1:0<=x)(h2:x<=400):(zfv p 0 [] x).2=901:=by
 have hl:0<p.length:=(zcG hp).1.1;unfold zfv;rw[if_pos ⟨hp,by omega,by omega,by rw[h0];rfl,rfl,h1,by omega⟩];have:=List.all_eq_true.1 he x.toNat (List.mem_range.2 (by omega))
 rw[<- hc] at this;exact isF_eq this
theorem qCall_k(c:zc AV)(f:AV)(a:List AV)(h:H)(k:K AV):qCall c f a h (.mk k)=c f a h k:=rfl
theorem zu64(x:Int)(kk:VK AV):zah .u64 (.int .i64 x) (.mk kk)=kk (.int .u64 (IntKind.u64.wrap x)):=u64c x kk
noncomputable def r0:AV × H:=(zb (β:=AV × H) tab stdI 2998 (.fn 245 []) [.str [40,102,48,41]] h8 (λv h=>some (v,h))).getD (.any,H.emp)
def p0:List Df:=[⟨0,[⟨2,0,0,[]⟩]⟩,⟨2,[⟨1,0,0,[]⟩,⟨1,3,0,[]⟩,⟨1,1,0,[]⟩,⟨4,0,0,[1,2]⟩,⟨1,0,0,[]⟩,⟨1,1,0,[]⟩,⟨4,0,0,[4,5]⟩,⟨5,7,2,[0,3,6]⟩]⟩,⟨1,[⟨1,0,0,[]⟩,⟨2,2,0,[0]⟩]⟩,⟨2,[⟨1,1,0,[]⟩]⟩]
set_option maxHeartbeats 0 in
theorem one0(kk:K AV):zb tab stdI 2998 (.fn 245 []) [.str [40,102,48,41]] h8 kk=kk r0.1 r0.2:=by kernel_rfl
set_option maxHeartbeats 0 in
theorem chk0:pgB r0.2 r0.1 p0=true:=by kernel_rfl
theorem par0:∃(hv:H) (pv:AV),LAt 2 DfC hv pv p0/\∀kk:K AV,qCall (zb tab stdI 2998) (.fn 245 []) [.str [40,102,48,41]] h8 (.mk kk)=kk (.agg [pv]) hv:=by
 obtain⟨pv,e1,e2⟩:=zc9 chk0;exact⟨r0.2,pv,e2,λkk=>(qCall_k _ _ _ _ kk).trans ((one0 kk).trans (congrArg (λv=>kk v r0.2) e1))⟩
theorem end0:((List.range 401).all λk=>isF (zp p0 (k+1) k (.part 0 0 [])))=true:=by decide +kernel
theorem may0:zJ p0=true:=by decide +kernel
set_option maxHeartbeats 0 in
theorem case0(i j:Int)(h:j%((2 ^ 3:Nat):Int)=0):zb7 i j=some (.bool true):=by
 have haw:∀(hh:H) (kk:K AV),qCall (zb tab stdI 2998) (.fn 153 []) [] hh (.mk kk)=kk (.bool true) hh:=λhh kk=>zfS (k:=153) rfl gaw 2997 hh kk
 have hand:∀c:VK AV,qBin .and (.int .i64 j) (.int .i64 7) (.mk c)=c (.int .i64 0):=λc=>(q_and 7 3 rfl (by decide) j c).trans (by rw[h])
 have fa:=zaU i;have cfa:∀kk:VK AV,zah .i64 (.int .u64 ((IntKind.u64.wrap i).tmod 401)) (.mk kk)=kk (.int .i64 (zL i)):=λkk=>zam (by show _<=zL i;omega) (by show zL i<_;omega) kk
 generalize hx:zL i=x at fa cfa;obtain⟨hv,pv,e2,hone⟩:=par0;have hend:=endless may0 (by decide +kernel) rfl end0 fa.1 fa.2;have W:=gNM.w155 (β:=AV) gC gA gi 2998 (h:=hv) e2 (by decide) (by decide) (av:=.nils) (args:=[]) (.inl ⟨rfl,rfl⟩) (by decide) 0 x;have hq:([.str [40,102,48,41],.str [40,43,32,49,32,40,102,48,41,41],.str [40,99,97,115,101,32,40,102,48,41,32,64,49,32,48,32,49,32,50,41],.str [40,108,101,116,32,49,32,40,102,48,41,41],.str [40,102,50,32,49,41],.str [40,102,49,32,40,102,50,32,49,41,32,49,41],.str [40,43,32,40,102,48,41,32,101,114,114,111,114,41],.str [40,99,97,115,101,32,49,32,64,49,32,48,32,49,32,40,102,48,41,41]]:List AV)[0]?=some (.str [40,102,48,41]):=rfl;rw[zb7,gE9.c239];unfold f239;simp (disch:=first|omega|simp only[zD]<;>omega|assumption) only[↓zR,↓zRM,zR,zRM,reduceAdd,reduceMul,reduceToNat,↓f239_J0,haw,hbs,hand,h8_eq,g8,hq,zu64,zc7,cfa,hone];refine W _ _ ?_;intro u h1 ⟨_,eu⟩;subst eu;simp (disch:=first|omega|simp only[zD]<;>omega|assumption) only[↓zR,↓zRM,zR,zRM,reduceAdd,reduceMul,reduceToNat,gA.w16,hend]
noncomputable def r1:AV × H:=(zb (β:=AV × H) tab stdI 2998 (.fn 245 []) [.str [40,43,32,49,32,40,102,48,41,41]] h8 (λv h=>some (v,h))).getD (.any,H.emp)
def p1:List Df:=[⟨0,[⟨0,1,0,[]⟩,⟨2,0,0,[]⟩,⟨4,0,0,[0,1]⟩]⟩,⟨2,[⟨1,0,0,[]⟩,⟨1,3,0,[]⟩,⟨1,1,0,[]⟩,⟨4,0,0,[1,2]⟩,⟨1,0,0,[]⟩,⟨1,1,0,[]⟩,⟨4,0,0,[4,5]⟩,⟨5,7,2,[0,3,6]⟩]⟩,⟨1,[⟨1,0,0,[]⟩,⟨2,2,0,[0]⟩]⟩,⟨2,[⟨1,1,0,[]⟩]⟩]
set_option maxHeartbeats 0 in
theorem one1(kk:K AV):zb tab stdI 2998 (.fn 245 []) [.str [40,43,32,49,32,40,102,48,41,41]] h8 kk=kk r1.1 r1.2:=by kernel_rfl
set_option maxHeartbeats 0 in
theorem chk1:pgB r1.2 r1.1 p1=true:=by kernel_rfl
theorem par1:∃(hv:H) (pv:AV),LAt 2 DfC hv pv p1/\∀kk:K AV,qCall (zb tab stdI 2998) (.fn 245 []) [.str [40,43,32,49,32,40,102,48,41,41]] h8 (.mk kk)=kk (.agg [pv]) hv:=by
 obtain⟨pv,e1,e2⟩:=zc9 chk1;exact⟨r1.2,pv,e2,λkk=>(qCall_k _ _ _ _ kk).trans ((one1 kk).trans (congrArg (λv=>kk v r1.2) e1))⟩
theorem end1:((List.range 401).all λk=>isF (zp p1 (k+1) k (.part 0 2 [])))=true:=by decide +kernel
theorem may1:zJ p1=true:=by decide +kernel
set_option maxHeartbeats 0 in
theorem case1(i j:Int)(h:j%((2 ^ 3:Nat):Int)=1):zb7 i j=some (.bool true):=by
 have haw:∀(hh:H) (kk:K AV),qCall (zb tab stdI 2998) (.fn 153 []) [] hh (.mk kk)=kk (.bool true) hh:=λhh kk=>zfS (k:=153) rfl gaw 2997 hh kk
 have hand:∀c:VK AV,qBin .and (.int .i64 j) (.int .i64 7) (.mk c)=c (.int .i64 1):=λc=>(q_and 7 3 rfl (by decide) j c).trans (by rw[h])
 have fa:=zaU i;have cfa:∀kk:VK AV,zah .i64 (.int .u64 ((IntKind.u64.wrap i).tmod 401)) (.mk kk)=kk (.int .i64 (zL i)):=λkk=>zam (by show _<=zL i;omega) (by show zL i<_;omega) kk
 generalize hx:zL i=x at fa cfa;obtain⟨hv,pv,e2,hone⟩:=par1;have hend:=endless may1 (by decide +kernel) rfl end1 fa.1 fa.2;have W:=gNM.w155 (β:=AV) gC gA gi 2998 (h:=hv) e2 (by decide) (by decide) (av:=.nils) (args:=[]) (.inl ⟨rfl,rfl⟩) (by decide) 0 x;have hq:([.str [40,102,48,41],.str [40,43,32,49,32,40,102,48,41,41],.str [40,99,97,115,101,32,40,102,48,41,32,64,49,32,48,32,49,32,50,41],.str [40,108,101,116,32,49,32,40,102,48,41,41],.str [40,102,50,32,49,41],.str [40,102,49,32,40,102,50,32,49,41,32,49,41],.str [40,43,32,40,102,48,41,32,101,114,114,111,114,41],.str [40,99,97,115,101,32,49,32,64,49,32,48,32,49,32,40,102,48,41,41]]:List AV)[1]?=some (.str [40,43,32,49,32,40,102,48,41,41]):=rfl;rw[zb7,gE9.c239];unfold f239;simp (disch:=first|omega|simp only[zD]<;>omega|assumption) only[↓zR,↓zRM,zR,zRM,reduceAdd,reduceMul,reduceToNat,↓f239_J0,haw,hbs,hand,h8_eq,g8,hq,zu64,zc7,cfa,hone];refine W _ _ ?_;intro u h1 ⟨_,eu⟩;subst eu;simp (disch:=first|omega|simp only[zD]<;>omega|assumption) only[↓zR,↓zRM,zR,zRM,reduceAdd,reduceMul,reduceToNat,gA.w16,hend]
noncomputable def r2:AV × H:=(zb (β:=AV × H) tab stdI 2998 (.fn 245 []) [.str [40,99,97,115,101,32,40,102,48,41,32,64,49,32,48,32,49,32,50,41]] h8 (λv h=>some (v,h))).getD (.any,H.emp)
def p2:List Df:=[⟨0,[⟨2,0,0,[]⟩,⟨0,1,0,[]⟩,⟨0,2,0,[]⟩,⟨5,1,0,[0,1,2]⟩]⟩,⟨2,[⟨1,0,0,[]⟩,⟨1,3,0,[]⟩,⟨1,1,0,[]⟩,⟨4,0,0,[1,2]⟩,⟨1,0,0,[]⟩,⟨1,1,0,[]⟩,⟨4,0,0,[4,5]⟩,⟨5,7,2,[0,3,6]⟩]⟩,⟨1,[⟨1,0,0,[]⟩,⟨2,2,0,[0]⟩]⟩,⟨2,[⟨1,1,0,[]⟩]⟩]
set_option maxHeartbeats 0 in
theorem one2(kk:K AV):zb tab stdI 2998 (.fn 245 []) [.str [40,99,97,115,101,32,40,102,48,41,32,64,49,32,48,32,49,32,50,41]] h8 kk=kk r2.1 r2.2:=by kernel_rfl
set_option maxHeartbeats 0 in
theorem chk2:pgB r2.2 r2.1 p2=true:=by kernel_rfl
theorem par2:∃(hv:H) (pv:AV),LAt 2 DfC hv pv p2/\∀kk:K AV,qCall (zb tab stdI 2998) (.fn 245 []) [.str [40,99,97,115,101,32,40,102,48,41,32,64,49,32,48,32,49,32,50,41]] h8 (.mk kk)=kk (.agg [pv]) hv:=by
 obtain⟨pv,e1,e2⟩:=zc9 chk2;exact⟨r2.2,pv,e2,λkk=>(qCall_k _ _ _ _ kk).trans ((one2 kk).trans (congrArg (λv=>kk v r2.2) e1))⟩
theorem end2:((List.range 401).all λk=>isF (zp p2 (k+1) k (.part 0 3 [])))=true:=by decide +kernel
theorem may2:zJ p2=true:=by decide +kernel
set_option maxHeartbeats 0 in
theorem case2(i j:Int)(h:j%((2 ^ 3:Nat):Int)=2):zb7 i j=some (.bool true):=by
 have haw:∀(hh:H) (kk:K AV),qCall (zb tab stdI 2998) (.fn 153 []) [] hh (.mk kk)=kk (.bool true) hh:=λhh kk=>zfS (k:=153) rfl gaw 2997 hh kk
 have hand:∀c:VK AV,qBin .and (.int .i64 j) (.int .i64 7) (.mk c)=c (.int .i64 2):=λc=>(q_and 7 3 rfl (by decide) j c).trans (by rw[h])
 have fa:=zaU i;have cfa:∀kk:VK AV,zah .i64 (.int .u64 ((IntKind.u64.wrap i).tmod 401)) (.mk kk)=kk (.int .i64 (zL i)):=λkk=>zam (by show _<=zL i;omega) (by show zL i<_;omega) kk
 generalize hx:zL i=x at fa cfa;obtain⟨hv,pv,e2,hone⟩:=par2;have hend:=endless may2 (by decide +kernel) rfl end2 fa.1 fa.2;have W:=gNM.w155 (β:=AV) gC gA gi 2998 (h:=hv) e2 (by decide) (by decide) (av:=.nils) (args:=[]) (.inl ⟨rfl,rfl⟩) (by decide) 0 x;have hq:([.str [40,102,48,41],.str [40,43,32,49,32,40,102,48,41,41],.str [40,99,97,115,101,32,40,102,48,41,32,64,49,32,48,32,49,32,50,41],.str [40,108,101,116,32,49,32,40,102,48,41,41],.str [40,102,50,32,49,41],.str [40,102,49,32,40,102,50,32,49,41,32,49,41],.str [40,43,32,40,102,48,41,32,101,114,114,111,114,41],.str [40,99,97,115,101,32,49,32,64,49,32,48,32,49,32,40,102,48,41,41]]:List AV)[2]?=some (.str [40,99,97,115,101,32,40,102,48,41,32,64,49,32,48,32,49,32,50,41]):=rfl;rw[zb7,gE9.c239];unfold f239;simp (disch:=first|omega|simp only[zD]<;>omega|assumption) only[↓zR,↓zRM,zR,zRM,reduceAdd,reduceMul,reduceToNat,↓f239_J0,haw,hbs,hand,h8_eq,g8,hq,zu64,zc7,cfa,hone];refine W _ _ ?_;intro u h1 ⟨_,eu⟩;subst eu;simp (disch:=first|omega|simp only[zD]<;>omega|assumption) only[↓zR,↓zRM,zR,zRM,reduceAdd,reduceMul,reduceToNat,gA.w16,hend]
noncomputable def r3:AV × H:=(zb (β:=AV × H) tab stdI 2998 (.fn 245 []) [.str [40,108,101,116,32,49,32,40,102,48,41,41]] h8 (λv h=>some (v,h))).getD (.any,H.emp)
def p3:List Df:=[⟨0,[⟨0,1,0,[]⟩,⟨2,0,0,[]⟩,⟨6,0,0,[0,1]⟩]⟩,⟨2,[⟨1,0,0,[]⟩,⟨1,3,0,[]⟩,⟨1,1,0,[]⟩,⟨4,0,0,[1,2]⟩,⟨1,0,0,[]⟩,⟨1,1,0,[]⟩,⟨4,0,0,[4,5]⟩,⟨5,7,2,[0,3,6]⟩]⟩,⟨1,[⟨1,0,0,[]⟩,⟨2,2,0,[0]⟩]⟩,⟨2,[⟨1,1,0,[]⟩]⟩]
set_option maxHeartbeats 0 in
theorem one3(kk:K AV):zb tab stdI 2998 (.fn 245 []) [.str [40,108,101,116,32,49,32,40,102,48,41,41]] h8 kk=kk r3.1 r3.2:=by kernel_rfl
set_option maxHeartbeats 0 in
theorem chk3:pgB r3.2 r3.1 p3=true:=by kernel_rfl
theorem par3:∃(hv:H) (pv:AV),LAt 2 DfC hv pv p3/\∀kk:K AV,qCall (zb tab stdI 2998) (.fn 245 []) [.str [40,108,101,116,32,49,32,40,102,48,41,41]] h8 (.mk kk)=kk (.agg [pv]) hv:=by
 obtain⟨pv,e1,e2⟩:=zc9 chk3;exact⟨r3.2,pv,e2,λkk=>(qCall_k _ _ _ _ kk).trans ((one3 kk).trans (congrArg (λv=>kk v r3.2) e1))⟩
theorem end3:((List.range 401).all λk=>isF (zp p3 (k+1) k (.part 0 2 [])))=true:=by decide +kernel
theorem may3:zJ p3=true:=by decide +kernel
set_option maxHeartbeats 0 in
theorem case3(i j:Int)(h:j%((2 ^ 3:Nat):Int)=3):zb7 i j=some (.bool true):=by
 have haw:∀(hh:H) (kk:K AV),qCall (zb tab stdI 2998) (.fn 153 []) [] hh (.mk kk)=kk (.bool true) hh:=λhh kk=>zfS (k:=153) rfl gaw 2997 hh kk
 have hand:∀c:VK AV,qBin .and (.int .i64 j) (.int .i64 7) (.mk c)=c (.int .i64 3):=λc=>(q_and 7 3 rfl (by decide) j c).trans (by rw[h])
 have fa:=zaU i;have cfa:∀kk:VK AV,zah .i64 (.int .u64 ((IntKind.u64.wrap i).tmod 401)) (.mk kk)=kk (.int .i64 (zL i)):=λkk=>zam (by show _<=zL i;omega) (by show zL i<_;omega) kk
 generalize hx:zL i=x at fa cfa;obtain⟨hv,pv,e2,hone⟩:=par3;have hend:=endless may3 (by decide +kernel) rfl end3 fa.1 fa.2;have W:=gNM.w155 (β:=AV) gC gA gi 2998 (h:=hv) e2 (by decide) (by decide) (av:=.nils) (args:=[]) (.inl ⟨rfl,rfl⟩) (by decide) 0 x;have hq:([.str [40,102,48,41],.str [40,43,32,49,32,40,102,48,41,41],.str [40,99,97,115,101,32,40,102,48,41,32,64,49,32,48,32,49,32,50,41],.str [40,108,101,116,32,49,32,40,102,48,41,41],.str [40,102,50,32,49,41],.str [40,102,49,32,40,102,50,32,49,41,32,49,41],.str [40,43,32,40,102,48,41,32,101,114,114,111,114,41],.str [40,99,97,115,101,32,49,32,64,49,32,48,32,49,32,40,102,48,41,41]]:List AV)[3]?=some (.str [40,108,101,116,32,49,32,40,102,48,41,41]):=rfl;rw[zb7,gE9.c239];unfold f239;simp (disch:=first|omega|simp only[zD]<;>omega|assumption) only[↓zR,↓zRM,zR,zRM,reduceAdd,reduceMul,reduceToNat,↓f239_J0,haw,hbs,hand,h8_eq,g8,hq,zu64,zc7,cfa,hone];refine W _ _ ?_;intro u h1 ⟨_,eu⟩;subst eu;simp (disch:=first|omega|simp only[zD]<;>omega|assumption) only[↓zR,↓zRM,zR,zRM,reduceAdd,reduceMul,reduceToNat,gA.w16,hend]
noncomputable def r4:AV × H:=(zb (β:=AV × H) tab stdI 2998 (.fn 245 []) [.str [40,102,50,32,49,41]] h8 (λv h=>some (v,h))).getD (.any,H.emp)
def p4:List Df:=[⟨0,[⟨0,1,0,[]⟩,⟨2,2,0,[0]⟩]⟩,⟨2,[⟨1,0,0,[]⟩,⟨1,3,0,[]⟩,⟨1,1,0,[]⟩,⟨4,0,0,[1,2]⟩,⟨1,0,0,[]⟩,⟨1,1,0,[]⟩,⟨4,0,0,[4,5]⟩,⟨5,7,2,[0,3,6]⟩]⟩,⟨1,[⟨1,0,0,[]⟩,⟨2,2,0,[0]⟩]⟩,⟨2,[⟨1,1,0,[]⟩]⟩]
set_option maxHeartbeats 0 in
theorem one4(kk:K AV):zb tab stdI 2998 (.fn 245 []) [.str [40,102,50,32,49,41]] h8 kk=kk r4.1 r4.2:=by kernel_rfl
set_option maxHeartbeats 0 in
theorem chk4:pgB r4.2 r4.1 p4=true:=by kernel_rfl
theorem par4:∃(hv:H) (pv:AV),LAt 2 DfC hv pv p4/\∀kk:K AV,qCall (zb tab stdI 2998) (.fn 245 []) [.str [40,102,50,32,49,41]] h8 (.mk kk)=kk (.agg [pv]) hv:=by
 obtain⟨pv,e1,e2⟩:=zc9 chk4;exact⟨r4.2,pv,e2,λkk=>(qCall_k _ _ _ _ kk).trans ((one4 kk).trans (congrArg (λv=>kk v r4.2) e1))⟩
theorem end4:((List.range 401).all λk=>isF (zp p4 (k+1) k (.part 0 1 [])))=true:=by decide +kernel
theorem may4:zJ p4=true:=by decide +kernel
set_option maxHeartbeats 0 in
theorem case4(i j:Int)(h:j%((2 ^ 3:Nat):Int)=4):zb7 i j=some (.bool true):=by
 have haw:∀(hh:H) (kk:K AV),qCall (zb tab stdI 2998) (.fn 153 []) [] hh (.mk kk)=kk (.bool true) hh:=λhh kk=>zfS (k:=153) rfl gaw 2997 hh kk
 have hand:∀c:VK AV,qBin .and (.int .i64 j) (.int .i64 7) (.mk c)=c (.int .i64 4):=λc=>(q_and 7 3 rfl (by decide) j c).trans (by rw[h])
 have fa:=zaU i;have cfa:∀kk:VK AV,zah .i64 (.int .u64 ((IntKind.u64.wrap i).tmod 401)) (.mk kk)=kk (.int .i64 (zL i)):=λkk=>zam (by show _<=zL i;omega) (by show zL i<_;omega) kk
 generalize hx:zL i=x at fa cfa;obtain⟨hv,pv,e2,hone⟩:=par4;have hend:=endless may4 (by decide +kernel) rfl end4 fa.1 fa.2;have W:=gNM.w155 (β:=AV) gC gA gi 2998 (h:=hv) e2 (by decide) (by decide) (av:=.nils) (args:=[]) (.inl ⟨rfl,rfl⟩) (by decide) 0 x;have hq:([.str [40,102,48,41],.str [40,43,32,49,32,40,102,48,41,41],.str [40,99,97,115,101,32,40,102,48,41,32,64,49,32,48,32,49,32,50,41],.str [40,108,101,116,32,49,32,40,102,48,41,41],.str [40,102,50,32,49,41],.str [40,102,49,32,40,102,50,32,49,41,32,49,41],.str [40,43,32,40,102,48,41,32,101,114,114,111,114,41],.str [40,99,97,115,101,32,49,32,64,49,32,48,32,49,32,40,102,48,41,41]]:List AV)[4]?=some (.str [40,102,50,32,49,41]):=rfl;rw[zb7,gE9.c239];unfold f239;simp (disch:=first|omega|simp only[zD]<;>omega|assumption) only[↓zR,↓zRM,zR,zRM,reduceAdd,reduceMul,reduceToNat,↓f239_J0,haw,hbs,hand,h8_eq,g8,hq,zu64,zc7,cfa,hone];refine W _ _ ?_;intro u h1 ⟨_,eu⟩;subst eu;simp (disch:=first|omega|simp only[zD]<;>omega|assumption) only[↓zR,↓zRM,zR,zRM,reduceAdd,reduceMul,reduceToNat,gA.w16,hend]
noncomputable def r5:AV × H:=(zb (β:=AV × H) tab stdI 2998 (.fn 245 []) [.str [40,102,49,32,40,102,50,32,49,41,32,49,41]] h8 (λv h=>some (v,h))).getD (.any,H.emp)
def p5:List Df:=[⟨0,[⟨0,1,0,[]⟩,⟨2,2,0,[0]⟩,⟨0,1,0,[]⟩,⟨2,1,0,[1,2]⟩]⟩,⟨2,[⟨1,0,0,[]⟩,⟨1,3,0,[]⟩,⟨1,1,0,[]⟩,⟨4,0,0,[1,2]⟩,⟨1,0,0,[]⟩,⟨1,1,0,[]⟩,⟨4,0,0,[4,5]⟩,⟨5,7,2,[0,3,6]⟩]⟩,⟨1,[⟨1,0,0,[]⟩,⟨2,2,0,[0]⟩]⟩,⟨2,[⟨1,1,0,[]⟩]⟩]
set_option maxHeartbeats 0 in
theorem one5(kk:K AV):zb tab stdI 2998 (.fn 245 []) [.str [40,102,49,32,40,102,50,32,49,41,32,49,41]] h8 kk=kk r5.1 r5.2:=by kernel_rfl
set_option maxHeartbeats 0 in
theorem chk5:pgB r5.2 r5.1 p5=true:=by kernel_rfl
theorem par5:∃(hv:H) (pv:AV),LAt 2 DfC hv pv p5/\∀kk:K AV,qCall (zb tab stdI 2998) (.fn 245 []) [.str [40,102,49,32,40,102,50,32,49,41,32,49,41]] h8 (.mk kk)=kk (.agg [pv]) hv:=by
 obtain⟨pv,e1,e2⟩:=zc9 chk5;exact⟨r5.2,pv,e2,λkk=>(qCall_k _ _ _ _ kk).trans ((one5 kk).trans (congrArg (λv=>kk v r5.2) e1))⟩
theorem end5:((List.range 401).all λk=>isF (zp p5 (k+1) k (.part 0 3 [])))=true:=by decide +kernel
theorem may5:zJ p5=true:=by decide +kernel
set_option maxHeartbeats 0 in
theorem case5(i j:Int)(h:j%((2 ^ 3:Nat):Int)=5):zb7 i j=some (.bool true):=by
 have haw:∀(hh:H) (kk:K AV),qCall (zb tab stdI 2998) (.fn 153 []) [] hh (.mk kk)=kk (.bool true) hh:=λhh kk=>zfS (k:=153) rfl gaw 2997 hh kk
 have hand:∀c:VK AV,qBin .and (.int .i64 j) (.int .i64 7) (.mk c)=c (.int .i64 5):=λc=>(q_and 7 3 rfl (by decide) j c).trans (by rw[h])
 have fa:=zaU i;have cfa:∀kk:VK AV,zah .i64 (.int .u64 ((IntKind.u64.wrap i).tmod 401)) (.mk kk)=kk (.int .i64 (zL i)):=λkk=>zam (by show _<=zL i;omega) (by show zL i<_;omega) kk
 generalize hx:zL i=x at fa cfa;obtain⟨hv,pv,e2,hone⟩:=par5;have hend:=endless may5 (by decide +kernel) rfl end5 fa.1 fa.2;have W:=gNM.w155 (β:=AV) gC gA gi 2998 (h:=hv) e2 (by decide) (by decide) (av:=.nils) (args:=[]) (.inl ⟨rfl,rfl⟩) (by decide) 0 x;have hq:([.str [40,102,48,41],.str [40,43,32,49,32,40,102,48,41,41],.str [40,99,97,115,101,32,40,102,48,41,32,64,49,32,48,32,49,32,50,41],.str [40,108,101,116,32,49,32,40,102,48,41,41],.str [40,102,50,32,49,41],.str [40,102,49,32,40,102,50,32,49,41,32,49,41],.str [40,43,32,40,102,48,41,32,101,114,114,111,114,41],.str [40,99,97,115,101,32,49,32,64,49,32,48,32,49,32,40,102,48,41,41]]:List AV)[5]?=some (.str [40,102,49,32,40,102,50,32,49,41,32,49,41]):=rfl;rw[zb7,gE9.c239];unfold f239;simp (disch:=first|omega|simp only[zD]<;>omega|assumption) only[↓zR,↓zRM,zR,zRM,reduceAdd,reduceMul,reduceToNat,↓f239_J0,haw,hbs,hand,h8_eq,g8,hq,zu64,zc7,cfa,hone];refine W _ _ ?_;intro u h1 ⟨_,eu⟩;subst eu;simp (disch:=first|omega|simp only[zD]<;>omega|assumption) only[↓zR,↓zRM,zR,zRM,reduceAdd,reduceMul,reduceToNat,gA.w16,hend]
noncomputable def r6:AV × H:=(zb (β:=AV × H) tab stdI 2998 (.fn 245 []) [.str [40,43,32,40,102,48,41,32,101,114,114,111,114,41]] h8 (λv h=>some (v,h))).getD (.any,H.emp)
def p6:List Df:=[⟨0,[⟨2,0,0,[]⟩,⟨7,0,0,[]⟩,⟨4,0,0,[0,1]⟩]⟩,⟨2,[⟨1,0,0,[]⟩,⟨1,3,0,[]⟩,⟨1,1,0,[]⟩,⟨4,0,0,[1,2]⟩,⟨1,0,0,[]⟩,⟨1,1,0,[]⟩,⟨4,0,0,[4,5]⟩,⟨5,7,2,[0,3,6]⟩]⟩,⟨1,[⟨1,0,0,[]⟩,⟨2,2,0,[0]⟩]⟩,⟨2,[⟨1,1,0,[]⟩]⟩]
set_option maxHeartbeats 0 in
theorem one6(kk:K AV):zb tab stdI 2998 (.fn 245 []) [.str [40,43,32,40,102,48,41,32,101,114,114,111,114,41]] h8 kk=kk r6.1 r6.2:=by kernel_rfl
set_option maxHeartbeats 0 in
theorem chk6:pgB r6.2 r6.1 p6=true:=by kernel_rfl
theorem par6:∃(hv:H) (pv:AV),LAt 2 DfC hv pv p6/\∀kk:K AV,qCall (zb tab stdI 2998) (.fn 245 []) [.str [40,43,32,40,102,48,41,32,101,114,114,111,114,41]] h8 (.mk kk)=kk (.agg [pv]) hv:=by
 obtain⟨pv,e1,e2⟩:=zc9 chk6;exact⟨r6.2,pv,e2,λkk=>(qCall_k _ _ _ _ kk).trans ((one6 kk).trans (congrArg (λv=>kk v r6.2) e1))⟩
theorem end6:((List.range 401).all λk=>isF (zp p6 (k+1) k (.part 0 2 [])))=true:=by decide +kernel
theorem may6:zJ p6=true:=by decide +kernel
set_option maxHeartbeats 0 in
theorem case6(i j:Int)(h:j%((2 ^ 3:Nat):Int)=6):zb7 i j=some (.bool true):=by
 have haw:∀(hh:H) (kk:K AV),qCall (zb tab stdI 2998) (.fn 153 []) [] hh (.mk kk)=kk (.bool true) hh:=λhh kk=>zfS (k:=153) rfl gaw 2997 hh kk
 have hand:∀c:VK AV,qBin .and (.int .i64 j) (.int .i64 7) (.mk c)=c (.int .i64 6):=λc=>(q_and 7 3 rfl (by decide) j c).trans (by rw[h])
 have fa:=zaU i;have cfa:∀kk:VK AV,zah .i64 (.int .u64 ((IntKind.u64.wrap i).tmod 401)) (.mk kk)=kk (.int .i64 (zL i)):=λkk=>zam (by show _<=zL i;omega) (by show zL i<_;omega) kk
 generalize hx:zL i=x at fa cfa;obtain⟨hv,pv,e2,hone⟩:=par6;have hend:=endless may6 (by decide +kernel) rfl end6 fa.1 fa.2;have W:=gNM.w155 (β:=AV) gC gA gi 2998 (h:=hv) e2 (by decide) (by decide) (av:=.nils) (args:=[]) (.inl ⟨rfl,rfl⟩) (by decide) 0 x;have hq:([.str [40,102,48,41],.str [40,43,32,49,32,40,102,48,41,41],.str [40,99,97,115,101,32,40,102,48,41,32,64,49,32,48,32,49,32,50,41],.str [40,108,101,116,32,49,32,40,102,48,41,41],.str [40,102,50,32,49,41],.str [40,102,49,32,40,102,50,32,49,41,32,49,41],.str [40,43,32,40,102,48,41,32,101,114,114,111,114,41],.str [40,99,97,115,101,32,49,32,64,49,32,48,32,49,32,40,102,48,41,41]]:List AV)[6]?=some (.str [40,43,32,40,102,48,41,32,101,114,114,111,114,41]):=rfl;rw[zb7,gE9.c239];unfold f239;simp (disch:=first|omega|simp only[zD]<;>omega|assumption) only[↓zR,↓zRM,zR,zRM,reduceAdd,reduceMul,reduceToNat,↓f239_J0,haw,hbs,hand,h8_eq,g8,hq,zu64,zc7,cfa,hone];refine W _ _ ?_;intro u h1 ⟨_,eu⟩;subst eu;simp (disch:=first|omega|simp only[zD]<;>omega|assumption) only[↓zR,↓zRM,zR,zRM,reduceAdd,reduceMul,reduceToNat,gA.w16,hend]
noncomputable def r7:AV × H:=(zb (β:=AV × H) tab stdI 2998 (.fn 245 []) [.str [40,99,97,115,101,32,49,32,64,49,32,48,32,49,32,40,102,48,41,41]] h8 (λv h=>some (v,h))).getD (.any,H.emp)
def p7:List Df:=[⟨0,[⟨0,1,0,[]⟩,⟨0,1,0,[]⟩,⟨2,0,0,[]⟩,⟨5,1,0,[0,1,2]⟩]⟩,⟨2,[⟨1,0,0,[]⟩,⟨1,3,0,[]⟩,⟨1,1,0,[]⟩,⟨4,0,0,[1,2]⟩,⟨1,0,0,[]⟩,⟨1,1,0,[]⟩,⟨4,0,0,[4,5]⟩,⟨5,7,2,[0,3,6]⟩]⟩,⟨1,[⟨1,0,0,[]⟩,⟨2,2,0,[0]⟩]⟩,⟨2,[⟨1,1,0,[]⟩]⟩]
set_option maxHeartbeats 0 in
theorem one7(kk:K AV):zb tab stdI 2998 (.fn 245 []) [.str [40,99,97,115,101,32,49,32,64,49,32,48,32,49,32,40,102,48,41,41]] h8 kk=kk r7.1 r7.2:=by kernel_rfl
set_option maxHeartbeats 0 in
theorem chk7:pgB r7.2 r7.1 p7=true:=by kernel_rfl
theorem par7:∃(hv:H) (pv:AV),LAt 2 DfC hv pv p7/\∀kk:K AV,qCall (zb tab stdI 2998) (.fn 245 []) [.str [40,99,97,115,101,32,49,32,64,49,32,48,32,49,32,40,102,48,41,41]] h8 (.mk kk)=kk (.agg [pv]) hv:=by
 obtain⟨pv,e1,e2⟩:=zc9 chk7;exact⟨r7.2,pv,e2,λkk=>(qCall_k _ _ _ _ kk).trans ((one7 kk).trans (congrArg (λv=>kk v r7.2) e1))⟩
theorem end7:((List.range 401).all λk=>isF (zp p7 (k+1) k (.part 0 3 [])))=true:=by decide +kernel
theorem may7:zJ p7=true:=by decide +kernel
set_option maxHeartbeats 0 in
theorem case7(i j:Int)(h:j%((2 ^ 3:Nat):Int)=7):zb7 i j=some (.bool true):=by
 have haw:∀(hh:H) (kk:K AV),qCall (zb tab stdI 2998) (.fn 153 []) [] hh (.mk kk)=kk (.bool true) hh:=λhh kk=>zfS (k:=153) rfl gaw 2997 hh kk
 have hand:∀c:VK AV,qBin .and (.int .i64 j) (.int .i64 7) (.mk c)=c (.int .i64 7):=λc=>(q_and 7 3 rfl (by decide) j c).trans (by rw[h])
 have fa:=zaU i;have cfa:∀kk:VK AV,zah .i64 (.int .u64 ((IntKind.u64.wrap i).tmod 401)) (.mk kk)=kk (.int .i64 (zL i)):=λkk=>zam (by show _<=zL i;omega) (by show zL i<_;omega) kk
 generalize hx:zL i=x at fa cfa;obtain⟨hv,pv,e2,hone⟩:=par7;have hend:=endless may7 (by decide +kernel) rfl end7 fa.1 fa.2;have W:=gNM.w155 (β:=AV) gC gA gi 2998 (h:=hv) e2 (by decide) (by decide) (av:=.nils) (args:=[]) (.inl ⟨rfl,rfl⟩) (by decide) 0 x;have hq:([.str [40,102,48,41],.str [40,43,32,49,32,40,102,48,41,41],.str [40,99,97,115,101,32,40,102,48,41,32,64,49,32,48,32,49,32,50,41],.str [40,108,101,116,32,49,32,40,102,48,41,41],.str [40,102,50,32,49,41],.str [40,102,49,32,40,102,50,32,49,41,32,49,41],.str [40,43,32,40,102,48,41,32,101,114,114,111,114,41],.str [40,99,97,115,101,32,49,32,64,49,32,48,32,49,32,40,102,48,41,41]]:List AV)[7]?=some (.str [40,99,97,115,101,32,49,32,64,49,32,48,32,49,32,40,102,48,41,41]):=rfl;rw[zb7,gE9.c239];unfold f239;simp (disch:=first|omega|simp only[zD]<;>omega|assumption) only[↓zR,↓zRM,zR,zRM,reduceAdd,reduceMul,reduceToNat,↓f239_J0,haw,hbs,hand,h8_eq,g8,hq,zu64,zc7,cfa,hone];refine W _ _ ?_;intro u h1 ⟨_,eu⟩;subst eu;simp (disch:=first|omega|simp only[zD]<;>omega|assumption) only[↓zR,↓zRM,zR,zRM,reduceAdd,reduceMul,reduceToNat,gA.w16,hend]
theorem out(i j:Int):zb7 i j=some (.bool true):=by
 have h:j%((2 ^ 3:Nat):Int)=0\/j%((2 ^ 3:Nat):Int)=1\/j%((2 ^ 3:Nat):Int)=2\/j%((2 ^ 3:Nat):Int)=3\/j%((2 ^ 3:Nat):Int)=4\/j%((2 ^ 3:Nat):Int)=5\/j%((2 ^ 3:Nat):Int)=6\/j%((2 ^ 3:Nat):Int)=7:=by omega
 rcases h with h|h|h|h|h|h|h|h
 ·exact case0 i j h
 ·exact case1 i j h
 ·exact case2 i j h
 ·exact case3 i j h
 ·exact case4 i j h
 ·exact case5 i j h
 ·exact case6 i j h
 ·exact case7 i j h
end Am.F
namespace Go.Proofs.YtddiafpckjhadaaGreatDoor.nameEndless
open Go.ChangeShapes Go.WideShapes Go.ChangeAt Go.RowKit
theorem own:ownKnob Tryz.prog.godebug=none:=by kernel_rfl
theorem gTab:Tryz.prog.globalNamed "internal/strconv.uint64pow10"=some 0:=by kernel_rfl
theorem gTabType:(Tryz.prog.globals[0]?).map (·.type)=some 200:=by kernel_rfl
theorem cellsT:Tryz.prog.cellsOf 200=20:=by kernel_rfl
theorem cellsE:Tryz.prog.cellsOf 138=1:=by kernel_rfl
theorem gSyn:Tryz.prog.globalNamed "strconv.ErrSyntax"=some 2:=by kernel_rfl
theorem gRng:Tryz.prog.globalNamed "strconv.ErrRange"=some 3:=by kernel_rfl
theorem good{W:World}(h:laidMetH Tryz.prog Rows.nameEndlessRow.laid W):Am.L.GG Tryz.prog (Am.za1 W):=by
 have h0:laidMet Tryz.prog Rows.nameEndlessRow.laid W:=cast (by kernel_rfl) h;obtain⟨tp1,p1,e1⟩:=Am.zek (Am.zT (Am.zT (Am.zT (Am.zT h0)))) gSyn (t:=168) (by kernel_rfl) Tryz.underlying168;obtain⟨tp2,p2,e2⟩:=Am.zek (Am.zT (Am.zT (Am.zT h0))) gRng (t:=168) (by kernel_rfl) Tryz.underlying168;exact⟨Am.gtab_of gTab (Lib.tabIs_of_head gTab gTabType Tryz.underlying200 Tryz.underlying138 cellsE cellsT (Am.zT (Am.zT h0))),Am.zjb gSyn e1 ⟨_,_,rfl⟩,Am.zjb gRng e2 ⟨_,_,rfl⟩⟩
theorem contract(H:Type)(enc:TypeId × Value->H)(W:World)(base:Nat)(args:Array Value)(ds gs:List (DataW H))(before:List MemPlace)
  (hval:∀(j:Nat) t v,Tryz.f4.params[j]?=some t->args[j]?=some v->Value.okWide Tryz.prog W .any base t v)
  (hW:DataW.Whole enc Tryz.prog Tryz.f4.params.toList Rows.nameEndlessSpec.vars false W args.toList ds gs before) (hL:laidMetH Tryz.prog Rows.nameEndlessRow.laid W) :
  Calls Tryz.prog 4 args W λe W'=>∃v,e = .returned v/\Rows.nameEndlessSpec.post enc Tryz.prog Tryz.f4 false true false false W args v W':=by
 have hW':=hW;obtain⟨p,q,hA0,hV,rfl,hfz,hnd⟩:=hW;have hA:DataW.TrodAll enc Tryz.prog W 0 (λ_=>true) true Tryz.f4.params.toList args.toList ds p:=hA0;rw[Tryz.params4] at hA hval;obtain⟨v0,vs0,d0,ds0,p0,q0,hargs,rfl,rfl,h0,r0⟩:=trodAll_cons hA;obtain⟨v1,vs1,d1,ds1,p1,q1,rfl,rfl,rfl,h1,r1⟩:=trodAll_cons r0;obtain⟨rfl,rfl,rfl⟩:=trodAll_nil r1;obtain rfl:args=#[v0,v1]:=by cases args;simp_all
 obtain⟨rfl,rfl⟩:=trodVars_none hV;obtain⟨n0,rfl,rfl,rfl,hn0⟩:=open_int Tryz.underlying3 (hval 0 3 v0 rfl rfl) h0;obtain⟨n1,rfl,rfl,rfl,hn1⟩:=open_int Tryz.underlying3 (hval 1 3 v1 rfl rfl) h1;clear hA0;simp only[List.append_nil] at hW';have walk:=Am.am_call (P:=Tryz.prog) (kf:=Am.L.kf) (kt:=Am.L.kt) Am.L.zg4 Am.L.link Am.L.oks Am.F.iok (n:=2998+1) (f:=4) (us:=[.int .i64 n0,.int .i64 n1]) (Am.F.out n0 n1) (good hL)
  (by simp[Am.VRs,Am.VR])
 refine walk.mono λe W' ⟨⟨ext,u,he,hu⟩,ht⟩=>?_
 simp only[Am.VR] at hu;subst hu he;exact⟨_,rfl,Am.zgi (pa:=[]) (pv:=[]) hW' (λ_ _ _=>trodAll_cons_mk (shut_bool Tryz.underlying4 _) trodAll_mk0) (λ_ _=>(trodAll_cons_mk (shut_int Tryz.underlying3 hn0) (trodAll_cons_mk (shut_int Tryz.underlying3 hn1) trodAll_mk0))) (λ_ _=>rfl) ht⟩
noncomputable def lowN:Nat:=(World.holding Tryz.prog default ⟨#[],#[],[]⟩).heap.size
def put4(o:Obj):Obj:=match o with
 | .cells _ t frozen=>.cells #[.int .u8 0,.int .u8 1,.int .u8 28,.int .u8 2,.int .u8 29,.int .u8 14,.int .u8 24,.int .u8 3,.int .u8 30,.int .u8 22,.int .u8 20,.int .u8 15,.int .u8 25,.int .u8 17,.int .u8 4,.int .u8 8,.int .u8 31,.int .u8 27,.int .u8 13,.int .u8 23,.int .u8 21,.int .u8 19,.int .u8 16,.int .u8 7,.int .u8 26,.int .u8 12,.int .u8 18,.int .u8 6,.int .u8 11,.int .u8 5,.int .u8 10,.int .u8 9] t frozen
 | o=>o
def put5(o:Obj):Obj:=match o with
 | .cells _ t frozen=>.cells #[.int .u8 0,.int .u8 1,.int .u8 56,.int .u8 2,.int .u8 57,.int .u8 49,.int .u8 28,.int .u8 3,.int .u8 61,.int .u8 58,.int .u8 42,.int .u8 50,.int .u8 38,.int .u8 29,.int .u8 17,.int .u8 4,.int .u8 62,.int .u8 47,.int .u8 59,.int .u8 36,.int .u8 45,.int .u8 43,.int .u8 51,.int .u8 22,.int .u8 53,.int .u8 39,.int .u8 33,.int .u8 30,.int .u8 24,.int .u8 18,.int .u8 12,.int .u8 5,.int .u8 63,.int .u8 55,.int .u8 48,.int .u8 27,.int .u8 60,.int .u8 41,.int .u8 37,.int .u8 16,.int .u8 46,.int .u8 35,.int .u8 44,.int .u8 21,.int .u8 52,.int .u8 32,.int .u8 23,.int .u8 11,.int .u8 54,.int .u8 26,.int .u8 40,.int .u8 15,.int .u8 34,.int .u8 20,.int .u8 31,.int .u8 10,.int .u8 25,.int .u8 14,.int .u8 19,.int .u8 9,.int .u8 13,.int .u8 8,.int .u8 7,.int .u8 6] t frozen
 | o=>o
def put0(o:Obj):Obj:=match o with
 | .cells _ t frozen=>.cells #[.int .u64 1,.int .u64 10,.int .u64 100,.int .u64 1000,.int .u64 10000,.int .u64 100000,.int .u64 1000000,.int .u64 10000000,.int .u64 100000000,.int .u64 1000000000,.int .u64 10000000000,.int .u64 100000000000,.int .u64 1000000000000,.int .u64 10000000000000,.int .u64 100000000000000,.int .u64 1000000000000000,.int .u64 10000000000000000,.int .u64 100000000000000000,.int .u64 1000000000000000000,.int .u64 10000000000000000000] t frozen
 | o=>o
noncomputable def put3(o:Obj):Obj:=match o with
 | .cells _ t frozen=>.cells #[.iface 225 (.pointer (some ⟨lowN+0,0,none⟩))] t frozen
 | o=>o
noncomputable def put2(o:Obj):Obj:=match o with
 | .cells _ t frozen=>.cells #[.iface 225 (.pointer (some ⟨lowN+1,0,none⟩))] t frozen
 | o=>o
noncomputable def laidWorld(os:Os):World :=
 { World.holding Tryz.prog os ⟨#[.cells #[.string ⟨#[118,97,108,117,101,32,111,117,116,32,111,102,32,114,97,110,103,101]⟩] 227,.cells #[.string ⟨#[105,110,118,97,108,105,100,32,115,121,110,116,97,120]⟩] 227],#[],[]⟩ with heap:=((((((World.holding Tryz.prog os ⟨#[.cells #[.string ⟨#[118,97,108,117,101,32,111,117,116,32,111,102,32,114,97,110,103,101]⟩] 227,.cells #[.string ⟨#[105,110,118,97,108,105,100,32,115,121,110,116,97,120]⟩] 227],#[],[]⟩).heap.modify 4 put4).modify 5 put5).modify 0 put0).modify 3 put3).modify 2 put2) }
theorem laid_met(os:Os):laidMet Tryz.prog Rows.nameEndlessRow.laid ((laidWorld os).forCall (λ_ _=>0) ⟨#[],#[.int .i64 0,.int .i64 0],[]⟩).memory :=
 laidMet_of_run' 8 (by kernel_rfl) (by kernel_rfl)
theorem reads(os:Os){H:Type}(enc:TypeId × Value->H):∃places,DataW.whole enc Tryz.prog ((laidWorld os).forCall (λ_ _=>0) ⟨#[],#[.int .i64 0,.int .i64 0],[]⟩).memory Tryz.f4.params.toList Rows.nameEndlessSpec.vars false #[.int .i64 0,.int .i64 0].toList 8=some ([.lit (.int .i64 0),.lit (.int .i64 0)],[],places) :=
 ⟨[],by kernel_rfl⟩
theorem lifted(os:Os)(started:os.Started)(H:Type)(enc:TypeId × Value->H)(F:Stop.Interp) :
  ReturnsInHanded {} Tryz.checked os 4 .any ((OpenSpec.ofChange Rows.nameEndlessSpec).preRow enc Tryz.prog Tryz.f4 Rows.nameEndlessRow.domain false Rows.nameEndlessRow.laid) (((OpenSpec.ofChange Rows.nameEndlessSpec).at F).post enc Tryz.prog Tryz.f4 false true false false):=by
 obtain⟨places,hx⟩:=reads os enc;refine returnsInHanded_of_row (C:=Tryz.checked) (s:=(OpenSpec.ofChange Rows.nameEndlessSpec)) own started (by kernel_rfl) Tryz.func4
  (witness_row_at (enc:=enc) (C:=Tryz.checked) false (laidWorld os) #[.int .i64 0,.int .i64 0] rfl (by kernel_rfl) (by kernel_rfl) (by kernel_rfl)
   (OpenSpec.preRow_of_cond 8 hx (by kernel_rfl) (λk hk=>by cases hk) (by kernel_rfl) (laid_met os))) ?_
 intro W base args ds gs before hval hW _ _ _ hL _ _;exact contract H enc W base args ds gs before hval hW hL
theorem said:Rows.NameEndlessSaid :=
 OpenClaim.holds_of_cond 4 Tryz.f4 rfl rfl rfl rfl rfl rfl rfl ⟨rfl,rfl,rfl,rfl,rfl⟩ rfl rfl rfl rfl rfl (by kernel_rfl) Tryz.func4 (by kernel_rfl)
  (of_decide_eq_true (by kernel_rfl)) (by unfold Func.isWrapper;first|(rw[if_pos (by decide +kernel)];kernel_rfl)|(rw[if_neg (by decide +kernel)];exact⟨rfl,rfl⟩))
  (λos started H enc _ F=>by rw[OpenClaim.pre_eq_preRow];exact lifted os started H enc F)
theorem plain(f:FuncId)(fn:Func)(hf:Tryz.pinned.checked.prog.funcNamed "sleuth/sleuthlaw9.NameEndless"=some f)(hfn:Tryz.pinned.checked.prog.funcs[f]?=some fn) :
  true=Tryz.pinned.checked.prog.looks []/\∀(j:Nat) t,fn.params[j]?=some t->Tryz.pinned.checked.prog.wantsStandIn t=false:=by
 obtain rfl:f=4:=Option.some.inj ((show Tryz.prog.funcNamed "sleuth/sleuthlaw9.NameEndless"=some 4 by kernel_rfl).symm.trans hf) |>.symm
 obtain rfl:fn=Tryz.f4:=(Option.some.inj (Tryz.func4.symm.trans hfn)).symm;refine⟨by kernel_rfl,λj t ht=>?_⟩;rw[Tryz.params4] at ht;have hm:=Array.mem_of_getElem? ht;simp only[List.mem_toArray,List.mem_cons,List.not_mem_nil,or_false] at hm;rcases hm with rfl|rfl
 ·exact (show Tryz.prog.wantsStandIn 3=false by kernel_rfl)
 ·exact (show Tryz.prog.wantsStandIn 3=false by kernel_rfl)
theorem card:Rows.NameEndlessCardSaid :=
 Claim7.holds_tied_plain_at .later [] _ _ _ _ said (λ_ h=>by cases h) (by kernel_rfl) (λ_ h=>by cases h) nameEndless_row_tie rfl ⟨rfl,rfl⟩ (by kernel_rfl) rfl plain (by kernel_rfl)
end Go.Proofs.YtddiafpckjhadaaGreatDoor.nameEndless
