/- strings.Split of the operations' words,taken whole. -/
import Derived.Test.YtanhngcjijbodaaDoorAmJd
import Derived.Shelf.Strings.Split
namespace Go.Proofs
open Go.Shelf Go.RowKit Go.Lib
variable {P:Program} {ρ:Ren}
set_option maxHeartbeats 1000000 in
theorem zfL(L:Lays.n146 P ρ)(hi9:(P.info? (ρ.t 9)).map (λi=>(i.zero,i.size,i.bytes))=some (some (.string ByteArray.empty),1,16))(s:ByteArray)(c:UInt8)(w:World)(hs:s.size<4294967281) :
  Calls P (ρ.f 146) #[.string s,.string ⟨#[c]⟩] w λe w'=>
   e = .returned (.slice (some ⟨w.heap.size,0,none⟩) (Lib.countB s ⟨#[c]⟩+1) (Lib.countB s ⟨#[c]⟩+1))/\w'=w.alloc (.cells ((Lib.splitB ⟨#[c]⟩ 0 (Lib.countB s ⟨#[c]⟩) s).map Value.string).toArray (ρ.t 9)):=by
 have h1:1<=(⟨#[c]⟩:ByteArray).size:=Nat.le_refl 1;have hle:=Lib.countB_le ⟨#[c]⟩ h1 s.size s (Nat.le_refl _);have hlen:=Lib.splitB_all ⟨#[c]⟩ h1 0 _ s rfl;have c0:=Any.strings_genSplit_core { L with } hi9 s ⟨#[c]⟩ 0 (-1) (Lib.countB s ⟨#[c]⟩+1) w hs h1 (Nat.zero_le _)
  (λx d hx=>(Any.strings_Index_one { L with } x c _).mono λe w' ⟨he,hw⟩=>⟨by rw[he];show _=Ending.returned (Value.int .i64 (Lib.index x.data.toList [c]));rw[Lib.index_one],hw⟩)
  ((Any.strings_Count_one { L with } s c w).mono λe w' ⟨he,hw⟩=>⟨by
   rw[he];show _=Ending.returned (Value.int .i64 ((Lib.count s.data.toList [c]:Nat):Int));rw[Lib.count_one];rfl,hw⟩)
  (by decide) (by decide) (by rw[if_pos (by decide)];omega)
 rw[Nat.add_sub_cancel,hlen] at c0;have e2:Lib.cellsOf (Lib.splitB ⟨#[c]⟩ 0 (Lib.countB s ⟨#[c]⟩) s) (Lib.countB s ⟨#[c]⟩+1)=((Lib.splitB ⟨#[c]⟩ 0 (Lib.countB s ⟨#[c]⟩) s).map Value.string).toArray:=by rw[<- hlen];exact Lib.cellsOf_full _
 rw[e2] at c0;have t3:=L.t3;have t9:=L.t9;have t31:=L.t31
 have a3:=L.a3;have a9:=L.a9;have a31:=L.a31
 have z3:=L.z3;have v3:=L.v3;have z9:=L.z9;have v9:=L.v9;have z31:=L.z31;have v31:=L.v31
 have e221:∀args w,(callFunc (ρ.f 221) args).run P w = .ok (.enter (ρ.f 221) args) w:=enters_of L.f221 (by kernel_rfl) rfl
 go_enter L.f146,Body.n146_ntmps ρ
 go_wp2_with (go_at_fn (ρ.f 221);refine c0.mono ?_;rintro e w' ⟨rfl,hw⟩;rw[hw])
 go_ret
 exact⟨rfl,rfl⟩
end Go.Proofs
namespace Am
open Go Go.RowKit
theorem zb4:Lib.countB ⟨#[43,32,45,32,42,32,61,32,60]⟩ ⟨#[32]⟩=4/\Lib.splitB ⟨#[32]⟩ 0 4 ⟨#[43,32,45,32,42,32,61,32,60]⟩=[⟨#[43]⟩,⟨#[45]⟩,⟨#[42]⟩,⟨#[61]⟩,⟨#[60]⟩]:=by
 constructor<;>decide
theorem zfM{P:Program}{kf:Nat->Nat}{f:FuncId}{G:Base->Prop}{t9:TypeId}(hE:zcc P f)
  (h1:∀(s:ByteArray) (w:World),s.size<4294967281->Calls P f #[.string s,.string ⟨#[32]⟩] w λe w'=>e = .returned (.slice (some ⟨w.heap.size,0,none⟩) (Lib.countB s ⟨#[32]⟩+1) (Lib.countB s ⟨#[32]⟩+1))/\w'=w.alloc (.cells ((Lib.splitB ⟨#[32]⟩ 0 (Lib.countB s ⟨#[32]⟩) s).map Value.string).toArray t9)) :
  zbW P kf (λ_=>0) G f F.zct:=by
 intro args S v S' hg w0 hG fm w us hR hv;refine⟨hE,?_⟩;unfold F.zct at hg;split at hg
 ·rename_i s cs;split at hg
  ·rename_i hl;cases hg;obtain⟨u,u',rfl,hu,hu'⟩:=hv.two;simp only[VR] at hu hu';obtain⟨bs,rfl,hbs⟩:=hu;obtain⟨bc,rfl,hbc⟩:=hu';obtain⟨hl1,hl2⟩:=hl;rw[hl1] at hbs;rw[hl2] at hbc;have e1:bs=⟨#[43,32,45,32,42,32,61,32,60]⟩:=by
    cases bs with
    | mk d=>
     have:d=#[43,32,45,32,42,32,61,32,60]:=Array.ext' hbs
     rw[this]
   have e2:bc=⟨#[32]⟩:=by
    cases bc with
    | mk d=>
     have:d=#[32]:=Array.ext' hbc
     rw[this]
   subst e1 e2;refine callsIn_wide.2 ((h1 _ w (by decide)).mono ?_)
   rintro e w' ⟨rfl,rfl⟩
   rw[zb4.1,zb4.2];refine⟨[(⟨w.heap.size,0,none⟩,5)],_,rfl,?_,?_⟩
   ·refine hR.push (tag:=0) (cs:=F.zdC) rfl (λi hi=>by simp) (by simp) (by decide) λi u hu=>?_
    rcases i with _|_|_|_|_|i
    all_goals first|(cases hu;exact⟨rfl,_,rfl,by simp[VR]⟩)|(simp[F.zdC] at hu)
   ·simp only[VR];refine⟨_,5,_,by rw[List.getElem?_append_right (by rw[hR.len];omega),hR.len,Nat.sub_self];rfl,rfl,by omega,by omega,by omega,.inl ?_,λ_=>rfl,λes h=>(by cases h)⟩;rw[zC]
  ·cases hg
 ·cases hg
end Am
