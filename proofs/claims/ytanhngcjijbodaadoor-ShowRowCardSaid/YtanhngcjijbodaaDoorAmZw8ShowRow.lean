/- The law ShowRow answers true,whatever numbers it is given: no condition. -/
import Derived.Test.YtanhngcjijbodaaDoorAmZw8Link
import Derived.Test.YtanhngcjijbodaaDoorAmJd
import Derived.Test.YtanhngcjijbodaaDoorCards
import Derived.Test.YtanhngcjijbodaaDoorTie
import Derived.WalkKit
import Derived.ProofKit
import Derived.Deep.DeepHandedRow
set_option maxRecDepth 100000
set_option linter.unusedSimpArgs false
set_option linter.unusedVariables false
namespace Am.F
open Go Am
def isT(o:Option AV):Bool:=match o with|some (.bool true)=>true|_=>false
theorem isT_eq{o:Option AV}(h:isT o=true):o=some (.bool true):=by
 unfold isT at h;split at h
 ·rfl
 ·cases h
noncomputable abbrev zdg (which:Int):Option AV:=zcg tab stdI (2999+1) (.fn 247 []) [.int .i64 which] H.emp λv _=>some v
theorem eK_f{β:Type}(I:FI)(N:Nat)(call:zc β)(a:List AV)(h:H)(k:K β):e247.f β I N call a h k=f247 N call a h k:=rfl
theorem tab_K:tab.get 247=some e247:=by kernel_rfl
theorem fJoin_n{β:Type}(n:Nat)(j:Cur β n)(b:Cur β n->Option β):zdp n j b=b j:=(Eq.refl (zdp n j b):zdp n j b=b j).trans (Eq.refl _)
theorem nth_n0(a:AV)(r:List AV):nth (a::r) 0=a:=(Eq.refl (nth (a::r) 0):nth (a::r) 0=a).trans (Eq.refl _)
theorem nth_n1(a b:AV)(r:List AV):nth (a::b::r) 1=b:=(Eq.refl (nth (a::b::r) 1):nth (a::b::r) 1=b).trans (Eq.refl _)
theorem and_two(x:Int):(BitVec.ofInt 64 x &&& BitVec.ofInt 64 2).toNat=(x%((2 ^ 2:Nat):Int) / 2*2).toNat:=by
 rw[BitVec.toNat_and,BitVec.toNat_ofInt,BitVec.toNat_ofInt];have h7:0<=x%((2 ^ 64:Nat):Int):=Int.emod_nonneg _ (by simp);obtain⟨m,hm⟩:=Int.eq_ofNat_of_zero_le h7;have h6:x%((2 ^ 2:Nat):Int)=((m%4:Nat):Int):=by
  have h8:((2 ^ 64:Nat):Int)=18446744073709551616:=rfl;have h9:((2 ^ 2:Nat):Int)=4:=rfl;rw[h8] at hm;rw[h9];omega
 rw[hm,h6];have e2:(((2:Int)%((2 ^ 64:Nat):Int)).toNat)=2:=rfl;rw[e2];show m &&& 2=_;have e3:m &&& 2=(m%4) &&& 2:=by
  have a1:(m &&& 2)%2 ^ 2=m%2 ^ 2 &&& 2%2 ^ 2:=Nat.and_mod_two_pow;have a2:m &&& 2<=2:=Nat.and_le_right;rw[Nat.mod_eq_of_lt (by omega)] at a1;exact a1
 rw[e3];have e4:m%4<4:=Nat.mod_lt _ (by decide);generalize m%4=c at e4 ⊢
 match c,e4 with
 | 0,_=>rfl
 | 1,_=>rfl
 | 2,_=>rfl
 | 3,_=>rfl
theorem pBin_and2{β:Type}(x:Int)(c:VK β):pBin .and (.int .i64 x) (.int .i64 2) c=c (.int .i64 (x%((2 ^ 2:Nat):Int) / 2*2)):=by
 simp only[pBin,aInt,zF,beq_self_eq_true,cond_true,binI,zP];have e:(BitVec.ofInt IntKind.i64.bits x &&& BitVec.ofInt IntKind.i64.bits 2).toNat=(x%((2 ^ 2:Nat):Int) / 2*2).toNat:=and_two x;rw[e];have h9:((2 ^ 2:Nat):Int)=4:=rfl;rw[h9,Int.toNat_of_nonneg (by omega),zas (by omega) (by omega)]
set_option maxHeartbeats 0 in
theorem case0(which:Int)(h:which%((2 ^ 2:Nat):Int)=0):zdg which=some (.bool true):=by
 apply isT_eq;rw[zdg,za1 tab stdI 2999 247 [] [.int .i64 which] H.emp (λv _=>some v) tab_K,eK_f,List.append_nil];have g1:which%((2 ^ 1:Nat):Int)=which%((2 ^ 2:Nat):Int)%2:=by omega
 unfold f247;simp only[fJoin_n,nth_n0,pBin_and2,zcj 1 1 rfl (by decide),g1];clear g1;rw[h];clear h;show isT _=true;kernel_rfl
set_option maxHeartbeats 0 in
theorem case1(which:Int)(h:which%((2 ^ 2:Nat):Int)=1):zdg which=some (.bool true):=by
 apply isT_eq;rw[zdg,za1 tab stdI 2999 247 [] [.int .i64 which] H.emp (λv _=>some v) tab_K,eK_f,List.append_nil];have g1:which%((2 ^ 1:Nat):Int)=which%((2 ^ 2:Nat):Int)%2:=by omega
 unfold f247;simp only[fJoin_n,nth_n0,pBin_and2,zcj 1 1 rfl (by decide),g1];clear g1;rw[h];clear h;show isT _=true;kernel_rfl
set_option maxHeartbeats 0 in
theorem case2(which:Int)(h:which%((2 ^ 2:Nat):Int)=2):zdg which=some (.bool true):=by
 apply isT_eq;rw[zdg,za1 tab stdI 2999 247 [] [.int .i64 which] H.emp (λv _=>some v) tab_K,eK_f,List.append_nil];have g1:which%((2 ^ 1:Nat):Int)=which%((2 ^ 2:Nat):Int)%2:=by omega
 unfold f247;simp only[fJoin_n,nth_n0,pBin_and2,zcj 1 1 rfl (by decide),g1];clear g1;rw[h];clear h;show isT _=true;kernel_rfl
set_option maxHeartbeats 0 in
theorem case3(which:Int)(h:which%((2 ^ 2:Nat):Int)=3):zdg which=some (.bool true):=by
 apply isT_eq;rw[zdg,za1 tab stdI 2999 247 [] [.int .i64 which] H.emp (λv _=>some v) tab_K,eK_f,List.append_nil];have g1:which%((2 ^ 1:Nat):Int)=which%((2 ^ 2:Nat):Int)%2:=by omega
 unfold f247;simp only[fJoin_n,nth_n0,pBin_and2,zcj 1 1 rfl (by decide),g1];clear g1;rw[h];clear h;show isT _=true;kernel_rfl
theorem out(which:Int):zdg which=some (.bool true):=by
 have h:which%((2 ^ 2:Nat):Int)=0\/which%((2 ^ 2:Nat):Int)=1\/which%((2 ^ 2:Nat):Int)=2\/which%((2 ^ 2:Nat):Int)=3:=by omega
 rcases h with h|h|h|h
 ·exact case0 which h
 ·exact case1 which h
 ·exact case2 which h
 ·exact case3 which h
end Am.F
namespace Go.Proofs.YtanhngcjijbodaaDoor.showRow
open Go.ChangeShapes Go.WideShapes Go.ChangeAt Go.RowKit
theorem own:ownKnob Tryd.prog.godebug=none:=by kernel_rfl
theorem gTab:Tryd.prog.globalNamed "internal/strconv.uint64pow10"=some 0:=by kernel_rfl
theorem gTabType:(Tryd.prog.globals[0]?).map (·.type)=some 110:=by kernel_rfl
theorem cellsT:Tryd.prog.cellsOf 110=20:=by kernel_rfl
theorem cellsE:Tryd.prog.cellsOf 66=1:=by kernel_rfl
theorem good{W:World}(h:laidMetH Tryd.prog Rows.showRowRow.laid W):Am.L.GG Tryd.prog (Am.zaD W):=by
 have h0:laidMet Tryd.prog Rows.showRowRow.laid W:=cast (by kernel_rfl) h;exact Am.gtab_of gTab (Lib.tabIs_of_head gTab gTabType Tryd.underlying110 Tryd.underlying66 cellsE cellsT (Am.zb8 (Am.zb8 h0)))
theorem contract(H:Type)(enc:TypeId × Value->H)(W:World)(base:Nat)(args:Array Value)(ds gs:List (DataW H))(before:List MemPlace)
  (hval:∀(j:Nat) t v,Tryd.f4.params[j]?=some t->args[j]?=some v->Value.okWide Tryd.prog W .any base t v)
  (hW:DataW.Whole enc Tryd.prog Tryd.f4.params.toList Rows.showRowSpec.vars false W args.toList ds gs before) (hL:laidMetH Tryd.prog Rows.showRowRow.laid W) :
  Calls Tryd.prog 4 args W λe W'=>∃v,e = .returned v/\Rows.showRowSpec.post enc Tryd.prog Tryd.f4 false true false false W args v W':=by
 have hW':=hW;obtain⟨p,q,hA0,hV,rfl,hfz,hnd⟩:=hW;have hA:DataW.TrodAll enc Tryd.prog W 0 (λ_=>true) true Tryd.f4.params.toList args.toList ds p:=hA0;rw[Tryd.params4] at hA hval;obtain⟨v0,vs0,d0,ds0,p0,q0,hargs,rfl,rfl,h0,r0⟩:=trodAll_cons hA;obtain⟨rfl,rfl,rfl⟩:=trodAll_nil r0;obtain rfl:args=#[v0]:=by cases args;simp_all
 obtain⟨rfl,rfl⟩:=trodVars_none hV;obtain⟨n0,rfl,rfl,rfl,hn0⟩:=open_int Tryd.underlying3 (hval 0 3 v0 rfl rfl) h0;clear hA0;simp only[List.append_nil] at hW';have walk:=Am.am_call (P:=Tryd.prog) (kf:=Am.L.kf) (kt:=Am.L.kt) Am.L.gg_keeps Am.L.link Am.L.oks Am.F.iok (n:=2999+1) (f:=4) (us:=[.int .i64 n0]) (Am.F.out n0) (good hL)
  (by simp[Am.VRs,Am.VR])
 refine walk.mono λe W' ⟨⟨ext,u,he,hu⟩,ht⟩=>?_
 simp only[Am.VR] at hu;subst hu he;exact⟨_,rfl,Am.zeF (pa:=[]) (pv:=[]) hW' (λ_ _ _=>trodAll_cons_mk (shut_bool Tryd.underlying4 _) trodAll_mk0) (λ_ _=>(trodAll_cons_mk (shut_int Tryd.underlying3 hn0) trodAll_mk0)) (λ_ _=>rfl) ht⟩
def put2(o:Obj):Obj:=match o with
 | .cells _ t frozen=>.cells #[.int .u8 0,.int .u8 1,.int .u8 28,.int .u8 2,.int .u8 29,.int .u8 14,.int .u8 24,.int .u8 3,.int .u8 30,.int .u8 22,.int .u8 20,.int .u8 15,.int .u8 25,.int .u8 17,.int .u8 4,.int .u8 8,.int .u8 31,.int .u8 27,.int .u8 13,.int .u8 23,.int .u8 21,.int .u8 19,.int .u8 16,.int .u8 7,.int .u8 26,.int .u8 12,.int .u8 18,.int .u8 6,.int .u8 11,.int .u8 5,.int .u8 10,.int .u8 9] t frozen
 | o=>o
def put3(o:Obj):Obj:=match o with
 | .cells _ t frozen=>.cells #[.int .u8 0,.int .u8 1,.int .u8 56,.int .u8 2,.int .u8 57,.int .u8 49,.int .u8 28,.int .u8 3,.int .u8 61,.int .u8 58,.int .u8 42,.int .u8 50,.int .u8 38,.int .u8 29,.int .u8 17,.int .u8 4,.int .u8 62,.int .u8 47,.int .u8 59,.int .u8 36,.int .u8 45,.int .u8 43,.int .u8 51,.int .u8 22,.int .u8 53,.int .u8 39,.int .u8 33,.int .u8 30,.int .u8 24,.int .u8 18,.int .u8 12,.int .u8 5,.int .u8 63,.int .u8 55,.int .u8 48,.int .u8 27,.int .u8 60,.int .u8 41,.int .u8 37,.int .u8 16,.int .u8 46,.int .u8 35,.int .u8 44,.int .u8 21,.int .u8 52,.int .u8 32,.int .u8 23,.int .u8 11,.int .u8 54,.int .u8 26,.int .u8 40,.int .u8 15,.int .u8 34,.int .u8 20,.int .u8 31,.int .u8 10,.int .u8 25,.int .u8 14,.int .u8 19,.int .u8 9,.int .u8 13,.int .u8 8,.int .u8 7,.int .u8 6] t frozen
 | o=>o
def put0(o:Obj):Obj:=match o with
 | .cells _ t frozen=>.cells #[.int .u64 1,.int .u64 10,.int .u64 100,.int .u64 1000,.int .u64 10000,.int .u64 100000,.int .u64 1000000,.int .u64 10000000,.int .u64 100000000,.int .u64 1000000000,.int .u64 10000000000,.int .u64 100000000000,.int .u64 1000000000000,.int .u64 10000000000000,.int .u64 100000000000000,.int .u64 1000000000000000,.int .u64 10000000000000000,.int .u64 100000000000000000,.int .u64 1000000000000000000,.int .u64 10000000000000000000] t frozen
 | o=>o
def put5(o:Obj):Obj:=match o with
 | .cells _ t frozen=>.cells #[.int .u8 128,.int .u8 191,.int .u8 160,.int .u8 191,.int .u8 128,.int .u8 159,.int .u8 144,.int .u8 191,.int .u8 128,.int .u8 143,.int .u8 0,.int .u8 0,.int .u8 0,.int .u8 0,.int .u8 0,.int .u8 0,.int .u8 0,.int .u8 0,.int .u8 0,.int .u8 0,.int .u8 0,.int .u8 0,.int .u8 0,.int .u8 0,.int .u8 0,.int .u8 0,.int .u8 0,.int .u8 0,.int .u8 0,.int .u8 0,.int .u8 0,.int .u8 0] t frozen
 | o=>o
noncomputable def put4(o:Obj):Obj:=match o with
 | .cells _ t frozen=>.cells (Go.Pinned.utf8FirstZ.map λ(n:Nat)=>Value.int .u8 (n:Int)).toArray t frozen
 | o=>o
noncomputable def laidWorld(os:Os):World :=
 { World.holding Tryd.prog os ⟨#[],#[],[]⟩ with heap:=((((((World.holding Tryd.prog os ⟨#[],#[],[]⟩).heap.modify 2 put2).modify 3 put3).modify 0 put0).modify 5 put5).modify 4 put4) }
theorem laid_met(os:Os):laidMet Tryd.prog Rows.showRowRow.laid ((laidWorld os).forCall (λ_ _=>0) ⟨#[],#[.int .i64 0],[]⟩).memory :=
 laidMet_of_run' 8 (by kernel_rfl) (by kernel_rfl)
theorem reads(os:Os){H:Type}(enc:TypeId × Value->H):∃places,DataW.whole enc Tryd.prog ((laidWorld os).forCall (λ_ _=>0) ⟨#[],#[.int .i64 0],[]⟩).memory Tryd.f4.params.toList Rows.showRowSpec.vars false #[.int .i64 0].toList 8=some ([.lit (.int .i64 0)],[],places) :=
 ⟨[],by kernel_rfl⟩
theorem lifted(os:Os)(started:os.Started)(H:Type)(enc:TypeId × Value->H)(F:Stop.Interp) :
  ReturnsInHanded {} Tryd.checked os 4 .any ((OpenSpec.ofChange Rows.showRowSpec).preRow enc Tryd.prog Tryd.f4 Rows.showRowRow.domain false Rows.showRowRow.laid) (((OpenSpec.ofChange Rows.showRowSpec).at F).post enc Tryd.prog Tryd.f4 false true false false):=by
 obtain⟨places,hx⟩:=reads os enc;refine returnsInHanded_of_row (C:=Tryd.checked) (s:=(OpenSpec.ofChange Rows.showRowSpec)) own started (by kernel_rfl) Tryd.func4
  (witness_row_at (enc:=enc) (C:=Tryd.checked) false (laidWorld os) #[.int .i64 0] rfl (by kernel_rfl) (by kernel_rfl) (by kernel_rfl)
   (OpenSpec.preRow_of_cond 8 hx (by kernel_rfl) (λk hk=>by cases hk) (by kernel_rfl) (laid_met os))) ?_
 intro W base args ds gs before hval hW _ _ _ hL _ _;exact contract H enc W base args ds gs before hval hW hL
theorem said:Rows.ShowRowSaid :=
 OpenClaim.holds_of_cond 4 Tryd.f4 rfl rfl rfl rfl rfl rfl rfl ⟨rfl,rfl,rfl,rfl,rfl⟩ rfl rfl rfl rfl rfl (by kernel_rfl) Tryd.func4 (by kernel_rfl)
  (of_decide_eq_true (by kernel_rfl)) (by unfold Func.isWrapper;first|(rw[if_pos (by decide +kernel)];kernel_rfl)|(rw[if_neg (by decide +kernel)];exact⟨rfl,rfl⟩))
  (λos started H enc _ F=>by rw[OpenClaim.pre_eq_preRow];exact lifted os started H enc F)
theorem plain(f:FuncId)(fn:Func)(hf:Tryd.pinned.checked.prog.funcNamed "sleuth/sleuthlaw8.ShowRow"=some f)(hfn:Tryd.pinned.checked.prog.funcs[f]?=some fn) :
  false=Tryd.pinned.checked.prog.looks []/\∀(j:Nat) t,fn.params[j]?=some t->Tryd.pinned.checked.prog.wantsStandIn t=false:=by
 obtain rfl:f=4:=Option.some.inj ((show Tryd.prog.funcNamed "sleuth/sleuthlaw8.ShowRow"=some 4 by kernel_rfl).symm.trans hf) |>.symm
 obtain rfl:fn=Tryd.f4:=(Option.some.inj (Tryd.func4.symm.trans hfn)).symm;refine⟨by kernel_rfl,λj t ht=>?_⟩;rw[Tryd.params4] at ht;have hm:=Array.mem_of_getElem? ht;simp only[List.mem_toArray,List.mem_cons,List.not_mem_nil,or_false] at hm;subst hm;exact (show Tryd.prog.wantsStandIn 3=false by kernel_rfl)
theorem card:Rows.ShowRowCardSaid :=
 Claim7.holds_tied_plain_at .later [] _ _ _ _ said (λ_ h=>by cases h) (by kernel_rfl) (λ_ h=>by cases h) showRow_row_tie rfl ⟨rfl,rfl⟩ (by kernel_rfl) rfl plain (by kernel_rfl)
end Go.Proofs.YtanhngcjijbodaaDoor.showRow
