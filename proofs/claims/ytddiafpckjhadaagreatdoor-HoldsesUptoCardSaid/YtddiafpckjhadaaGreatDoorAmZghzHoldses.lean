/- The law Holdses answers true: no condition. -/
import Derived.Test.YtddiafpckjhadaaGreatDoorAmZghzLink
import Derived.Test.YtddiafpckjhadaaGreatDoorAmJd
import Derived.Test.YtddiafpckjhadaaGreatDoorCards
import Derived.Test.YtddiafpckjhadaaGreatDoorTie
import Derived.WalkKit
import Derived.ProofKit
import Derived.Deep.DeepHandedRow
import Derived.Test.YtddiafpckjhadaaGreatDoorAmL10z
import Derived.Test.YtddiafpckjhadaaGreatDoorAmRep
import Derived.Test.YtddiafpckjhadaaGreatDoorAmOpen
set_option linter.unusedVariables false
set_option maxRecDepth 100000
namespace Go.Proofs.YtddiafpckjhadaaGreatDoor.holdses
open Go.ChangeShapes Go.WideShapes Go.ChangeAt Go.RowKit Go.ChangeMaps
theorem own:ownKnob Tryz.prog.godebug=none:=by kernel_rfl
theorem gTab:Tryz.prog.globalNamed "internal/strconv.uint64pow10"=some 0:=by kernel_rfl
theorem gTabType:(Tryz.prog.globals[0]?).map (·.type)=some 200:=by kernel_rfl
theorem cells200:Tryz.prog.cellsOf 200=20:=by kernel_rfl
theorem cells138:Tryz.prog.cellsOf 138=1:=by kernel_rfl
theorem gSyn:Tryz.prog.globalNamed "strconv.ErrSyntax"=some 2:=by kernel_rfl
theorem gRng:Tryz.prog.globalNamed "strconv.ErrRange"=some 3:=by kernel_rfl
theorem good{W:World}(h:laidMetH Tryz.prog Rows.holdsesUptoRow.laid W):Am.L.GG Tryz.prog (Am.zaG W):=by
 have h0:laidMet Tryz.prog Rows.holdsesUptoRow.laid W:=cast (by kernel_rfl) h;have h1:=Am.zbw h0;have h2:=Am.zbw h1;have h3:=Am.zbw h2;have h4:=Am.zbw h3;obtain⟨tp,p,e1⟩:=Am.zeW h3 gRng (t:=168) (by kernel_rfl) Tryz.underlying168;obtain⟨tp',p',e2⟩:=Am.zeW h4 gSyn (t:=168) (by kernel_rfl) Tryz.underlying168;exact⟨Am.gtab_of gTab (Lib.tabIs_of_head gTab gTabType Tryz.underlying200 Tryz.underlying138 cells138 cells200 h2),Am.zjO gSyn e2 ⟨_,_,rfl⟩,Am.zjO gRng e1 ⟨_,_,rfl⟩⟩
theorem lower{W:World}(h:Am.L.GG Tryz.prog (Am.zaG W)):0<W.heap.size:=by
 obtain⟨⟨g,_,hg⟩,_⟩:=h.1;exact Nat.lt_of_le_of_lt (Nat.zero_le _) hg
def shape:List Am.Ty:=[Am.zeK,Am.zbI,.int .i64]
def small(H:Type)(xs:List Am.Dat):Prop:=Rows.uptoBulkAll (H:=H) (Am.toWz shape xs)<=1048576
theorem bulkOk{H:Type}:Am.Bulk (H:=H) Rows.uptoBulk Rows.uptoBulkAll :=
 ⟨λs=>by simp only[Rows.uptoBulk],λk n=>by simp only[Rows.uptoBulk],λe s=>by simp only[Rows.uptoBulk],λp=>by simp only[Rows.uptoBulk],by simp only[Rows.uptoBulkAll],λd r=>by simp only[Rows.uptoBulkAll]⟩
open Am Am.F in
theorem out(H:Type)(S:St)(h:F.H)(args:List AV)(xs:List Dat)(ha:F.Abs h S)(hr:zcq S shape args xs)(hc:small H xs):∃n,zc tab stdI n (.fn (L.kf 5) []) args h (λv _=>some v)=some (.bool true):=by
 obtain⟨a0,u0,x0,y0,rfl,rfl,⟨us,rfl,r0⟩,hr⟩:=hr;obtain⟨a1,u1,x1,y1,rfl,rfl,⟨us1,rfl,r1⟩,hr⟩:=hr;obtain⟨a2,u2,x2,y2,rfl,rfl,⟨n2,e2,rfl,_⟩,hr⟩:=hr;cases e2;obtain⟨rfl,rfl⟩:=hr;obtain⟨p,⟨pv,hpv,hp⟩,pd,hpl⟩:=Am.Rep.prog ha r0;cases hpv;obtain⟨y,⟨w,hw,hs⟩,nd,nsm⟩:=Am.Rep.node2 ha r1;cases hw;simp only[small,shape,toWz,Rows.uptoBulkAll] at hc;have b1:=(bulkOk (H:=H)).prog pd (N:=1048576) (by omega);have b2:=((bulkOk (H:=H)).node nd).1;exact⟨_,gX10.w234 gS10 gR10 gP gB gNM gR9 gC gA gi gaw _ 1048576 (Nat.le_refl _) hp hs nsm.fit (by omega) (Nat.le_refl _) b1.1 b1.2 _ _ _ λv h' e=>by rw[e]⟩
theorem fits:Am.FitsL Tryz.prog shape Tryz.f5.params.toList:=by
 rw[Tryz.params5];exact⟨24,_,rfl,⟨_,Tryz.underlying24,by kernel_rfl,⟨_,_,rfl,rfl,by kernel_rfl,⟨53,Tryz.underlying22,by kernel_rfl,by decide,⟨_,Tryz.underlying53,by kernel_rfl,⟨_,_,rfl,rfl,by kernel_rfl,Tryz.underlying3,⟨_,_,rfl,rfl,by kernel_rfl,⟨87,Tryz.underlying51,by kernel_rfl,by decide,⟨_,Tryz.underlying87,by kernel_rfl,⟨_,_,rfl,rfl,by kernel_rfl,Tryz.underlying3,⟨_,_,rfl,rfl,by kernel_rfl,Tryz.underlying3,⟨_,_,rfl,rfl,by kernel_rfl,Tryz.underlying3,⟨_,_,rfl,rfl,by kernel_rfl,⟨3,Tryz.underlying85,by kernel_rfl,by decide,Tryz.underlying3⟩,rfl⟩⟩⟩⟩⟩⟩,rfl⟩⟩⟩⟩,rfl⟩⟩,⟨42,_,rfl,⟨_,Tryz.underlying42,by kernel_rfl,⟨_,_,rfl,rfl,by kernel_rfl,Tryz.underlying3,⟨_,_,rfl,rfl,by kernel_rfl,Tryz.underlying3,⟨_,_,rfl,rfl,by kernel_rfl,⟨9,Tryz.underlying25,by kernel_rfl,by decide,Tryz.underlying9⟩,⟨_,_,rfl,rfl,by kernel_rfl,Tryz.underlying9,rfl⟩⟩⟩⟩⟩,⟨3,_,rfl,Tryz.underlying3,rfl⟩⟩⟩
theorem contract(H:Type)(enc:TypeId × Value->H)(W:World)(base:Nat)(args:Array Value)(ds gs:List (DataW H))(before:List MemPlace)
  (hval:∀(j:Nat) t v,Tryz.f5.params[j]?=some t->args[j]?=some v->Value.okWide Tryz.prog W .any base t v)
  (hW:DataW.Whole enc Tryz.prog Tryz.f5.params.toList Rows.holdsesSpec.vars false W args.toList ds gs before) (hcond:Rows.uptoSmall H (ds++gs)=true) (hL:laidMetH Tryz.prog Rows.holdsesUptoRow.laid W) :
  Calls Tryz.prog 5 args W λe W'=>∃v,e = .returned v/\Rows.holdsesSpec.post enc Tryz.prog Tryz.f5 false true false false W args v W':=by
 refine Am.zfy (kf:=Am.L.kf) (kt:=Am.L.kt) Am.L.zhM Am.L.link Am.L.oks Am.F.iok (tys:=shape) (cond:=small H) (rt:=4) (by kernel_rfl) Tryz.underlying4 fits (by kernel_rfl)
  (of_decide_eq_true (by rw[Tryz.params5];kernel_rfl)) rfl ?_ (out H) hval hW (good hL) (lower (good hL)) ?_
 ·intro ds hd
  match ds,hd with
  | [_,_,_],_=>rfl
 ·intro xs hx;have hg:gs=[]:=by
   obtain⟨p,q,_,hV,_⟩:=hW;exact (trodVars_none hV).1
  subst hg;rw[List.append_nil,hx] at hcond;exact of_decide_eq_true (p:=Rows.uptoBulkAll (H:=H) (Am.toWz shape xs)<=1048576) hcond
noncomputable def lowN:Nat:=(World.holding Tryz.prog default ⟨#[],#[],[]⟩).heap.size
def put4(o:Obj):Obj:=match o with
 | .cells _ t frozen=>.cells #[.int .u8 0,.int .u8 1,.int .u8 28,.int .u8 2,.int .u8 29,.int .u8 14,.int .u8 24,.int .u8 3,.int .u8 30,.int .u8 22,.int .u8 20,.int .u8 15,.int .u8 25,.int .u8 17,.int .u8 4,.int .u8 8,.int .u8 31,.int .u8 27,.int .u8 13,.int .u8 23,.int .u8 21,.int .u8 19,.int .u8 16,.int .u8 7,.int .u8 26,.int .u8 12,.int .u8 18,.int .u8 6,.int .u8 11,.int .u8 5,.int .u8 10,.int .u8 9] t frozen
 | o=>o
def put5(o:Obj):Obj:=match o with
 | .cells _ t frozen=>.cells #[.int .u8 0,.int .u8 1,.int .u8 56,.int .u8 2,.int .u8 57,.int .u8 49,.int .u8 28,.int .u8 3,.int .u8 61,.int .u8 58,.int .u8 42,.int .u8 50,.int .u8 38,.int .u8 29,.int .u8 17,.int .u8 4,.int .u8 62,.int .u8 47,.int .u8 59,.int .u8 36,.int .u8 45,.int .u8 43,.int .u8 51,.int .u8 22,.int .u8 53,.int .u8 39,.int .u8 33,.int .u8 30,.int .u8 24,.int .u8 18,.int .u8 12,.int .u8 5,.int .u8 63,.int .u8 55,.int .u8 48,.int .u8 27,.int .u8 60,.int .u8 41,.int .u8 37,.int .u8 16,.int .u8 46,.int .u8 35,.int .u8 44,.int .u8 21,.int .u8 52,.int .u8 32,.int .u8 23,.int .u8 11,.int .u8 54,.int .u8 26,.int .u8 40,.int .u8 15,.int .u8 34,.int .u8 20,.int .u8 31,.int .u8 10,.int .u8 25,.int .u8 14,.int .u8 19,.int .u8 9,.int .u8 13,.int .u8 8,.int .u8 7,.int .u8 6] t frozen
 | o=>o
def put0(o:Obj):Obj:=match o with
 | .cells _ t frozen=>.cells #[.int .u64 1,.int .u64 10,.int .u64 100,.int .u64 1000,.int .u64 10000,.int .u64 100000,.int .u64 1000000,.int .u64 10000000,.int .u64 100000000,.int .u64 1000000000,.int .u64 10000000000,.int .u64 100000000000,.int .u64 1000000000000,.int .u64 10000000000000,.int .u64 100000000000000,.int .u64 1000000000000000,.int .u64 10000000000000000,.int .u64 100000000000000000,.int .u64 1000000000000000000,.int .u64 10000000000000000000] t frozen
 | o=>o
noncomputable def put3(o:Obj):Obj:=match o with
 | .cells _ t frozen=>.cells #[.iface 225 (.pointer (some ⟨lowN+0,0,none⟩))] t frozen
 | o=>o
noncomputable def put2(o:Obj):Obj:=match o with
 | .cells _ t frozen=>.cells #[.iface 225 (.pointer (some ⟨lowN+1,0,none⟩))] t frozen
 | o=>o
noncomputable def laidWorld(os:Os):World :=
 { World.holding Tryz.prog os ⟨#[.cells #[.string ⟨#[118,97,108,117,101,32,111,117,116,32,111,102,32,114,97,110,103,101]⟩] 227,.cells #[.string ⟨#[105,110,118,97,108,105,100,32,115,121,110,116,97,120]⟩] 227],#[],[]⟩ with heap:=((((((World.holding Tryz.prog os ⟨#[.cells #[.string ⟨#[118,97,108,117,101,32,111,117,116,32,111,102,32,114,97,110,103,101]⟩] 227,.cells #[.string ⟨#[105,110,118,97,108,105,100,32,115,121,110,116,97,120]⟩] 227],#[],[]⟩).heap.modify 4 put4).modify 5 put5).modify 0 put0).modify 3 put3).modify 2 put2) }
theorem laid_met(os:Os):laidMet Tryz.prog Rows.holdsesUptoRow.laid ((laidWorld os).forCall (λ_ _=>0) ⟨#[],#[.agg #[.slice none 0 0],.agg #[.int .i64 0,.int .i64 0,.slice none 0 0,.string ⟨#[]⟩],.int .i64 0],[]⟩).memory :=
 laidMet_of_run' 8 (by kernel_rfl) (by kernel_rfl)
theorem reads(os:Os){H:Type}(enc:TypeId × Value->H):∃places,DataW.whole enc Tryz.prog ((laidWorld os).forCall (λ_ _=>0) ⟨#[],#[.agg #[.slice none 0 0],.agg #[.int .i64 0,.int .i64 0,.slice none 0 0,.string ⟨#[]⟩],.int .i64 0],[]⟩).memory Tryz.f5.params.toList Rows.holdsesSpec.vars false #[.agg #[.slice none 0 0],.agg #[.int .i64 0,.int .i64 0,.slice none 0 0,.string ⟨#[]⟩],.int .i64 0].toList 8=some ([.agg [.nil],.agg [.lit (.int .i64 0),.lit (.int .i64 0),.nil,.lit (.string [])],.lit (.int .i64 0)],[],places) :=
 ⟨[],by kernel_rfl⟩
theorem lifted(os:Os)(started:os.Started)(H:Type)(enc:TypeId × Value->H)(F:Stop.Interp) :
  ReturnsInHanded {} Tryz.checked os 5 .any ((Rows.OpenSpec.upto Rows.holdsesSpec).preRow enc Tryz.prog Tryz.f5 Rows.holdsesUptoRow.domain false Rows.holdsesUptoRow.laid) (((Rows.OpenSpec.upto Rows.holdsesSpec).at F).post enc Tryz.prog Tryz.f5 false true false false):=by
 obtain⟨places,hx⟩:=reads os enc;refine returnsInHanded_of_row (C:=Tryz.checked) (s:=(Rows.OpenSpec.upto Rows.holdsesSpec)) own started (by kernel_rfl) Tryz.func5
  (witness_row_at (enc:=enc) (C:=Tryz.checked) false (laidWorld os) #[.agg #[.slice none 0 0],.agg #[.int .i64 0,.int .i64 0,.slice none 0 0,.string ⟨#[]⟩],.int .i64 0] rfl (by kernel_rfl) (by kernel_rfl) (by kernel_rfl)
   (OpenSpec.preRow_of_cond 8 hx (by kernel_rfl) (λk hk=>by cases hk;kernel_rfl) (by kernel_rfl) (laid_met os))) ?_
 intro W base args ds gs before hval hW _ hcond _ hL _ _;exact contract H enc W base args ds gs before hval hW (hcond _ rfl) hL
theorem said:Rows.HoldsesUptoSaid :=
 OpenClaim.holds_of_cond 5 Tryz.f5 rfl rfl rfl rfl rfl rfl rfl ⟨rfl,rfl,rfl,rfl,rfl⟩ rfl rfl rfl rfl rfl (by kernel_rfl) Tryz.func5 (by kernel_rfl)
  (of_decide_eq_true (by kernel_rfl)) (by unfold Func.isWrapper;first|(rw[if_pos (by decide +kernel)];kernel_rfl)|(rw[if_neg (by decide +kernel)];exact⟨rfl,rfl⟩))
  (λos started H enc _ F=>by rw[OpenClaim.pre_eq_preRow];exact lifted os started H enc F)
theorem plain(f:FuncId)(fn:Func)(hf:Tryz.pinned.checked.prog.funcNamed "sleuth/sleuthlaw10.Holdses"=some f)(hfn:Tryz.pinned.checked.prog.funcs[f]?=some fn) :
  true=Tryz.pinned.checked.prog.looks []/\∀(j:Nat) t,fn.params[j]?=some t->Tryz.pinned.checked.prog.wantsStandIn t=false:=by
 obtain rfl:f=5:=Option.some.inj ((show Tryz.prog.funcNamed "sleuth/sleuthlaw10.Holdses"=some 5 by kernel_rfl).symm.trans hf) |>.symm
 obtain rfl:fn=Tryz.f5:=(Option.some.inj (Tryz.func5.symm.trans hfn)).symm;refine⟨by kernel_rfl,λj t ht=>?_⟩;rw[Tryz.params5] at ht;have hm:=Array.mem_of_getElem? ht;simp only[List.mem_toArray,List.mem_cons,List.not_mem_nil,or_false] at hm;rcases hm with rfl|rfl|rfl
 ·exact (show Tryz.prog.wantsStandIn 24=false by kernel_rfl)
 ·exact (show Tryz.prog.wantsStandIn 42=false by kernel_rfl)
 ·exact (show Tryz.prog.wantsStandIn 3=false by kernel_rfl)
theorem card:Rows.HoldsesUptoCardSaid :=
 Claim7.holds_tied_plain_at .later [] _ _ _ _ said (λ_ h=>by cases h) (by kernel_rfl) (λ_ h=>by cases h) holdsesUpto_row_tie rfl ⟨rfl,rfl⟩ (by kernel_rfl) rfl plain (by kernel_rfl)
end Go.Proofs.YtddiafpckjhadaaGreatDoor.holdses
