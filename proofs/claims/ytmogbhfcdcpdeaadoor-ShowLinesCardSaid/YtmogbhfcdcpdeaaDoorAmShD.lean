/- Texts of programs: plain. -/
import Derived.Test.YtmogbhfcdcpdeaaDoorAmJi
import Derived.Test.YtmogbhfcdcpdeaaDoorAmJf
set_option linter.unusedVariables false
namespace Am.F
open Go Am
def zgL:List (List UInt8):=[[43],[45],[42],[61],[60]]
def zam(e:Ex):List UInt8 :=
 if e.kind=2 then 102::Lib.itoa e.num else if e.kind=3 then 64::Lib.itoa e.num else if e.kind=4 then zgL.getD e.num.toNat [] else if e.kind=6 then [108,101,116] else [99,97,115,101]
def kidW(e:Ex)(k:Nat)(t:List UInt8):List (List UInt8):=if e.kind=5/\k=1 then [64::Lib.itoa e.num,Lib.itoa e.bind,t] else [t]
def zq(e:Ex):Nat->List (List UInt8)->List (List UInt8)
 | _,[]=>[]
 | k,t::ts=>kidW e k t++zq e (k+1) ts
def zaZ(e:Ex)(ts:List (List UInt8)):List UInt8 :=
 if e.kind=0 then Lib.itoa e.num else if e.kind=1 then 36::Lib.itoa e.num else if e.kind=7 then [101,114,114,111,114]
 else if e.kind=3/\ts=[] then 64::Lib.itoa e.num
 else 40::(Lib.join (zam e::zq e 0 ts) [32]++[41])
def zc8:Nat->List Ex->Nat->List UInt8
 | 0,_,_=>[]
 | N+1,body,i=>match body[i]? with
  | none=>[]
  | some e=>zaZ e (e.kids.map λ(k:Int)=>zc8 N body k.toNat)
def Parts(body:List Ex):Prop:=∀(i:Nat) (e:Ex),body[i]?=some e->(∃l,zi e l)/\∀(k:Nat) (kid:Int),e.kids[k]?=some kid->0<=kid/\kid<(i:Int)
theorem zdN{body:List Ex}(hb:Parts body):∀(N M i:Nat),i<N->i<M->zc8 N body i=zc8 M body i
 | N+1,M+1,i,h1,h2=>by
  show (match body[i]? with|none=>[]|some e=>zaZ e (e.kids.map λ(k:Int)=>zc8 N body k.toNat))=(match body[i]? with|none=>[]|some e=>zaZ e (e.kids.map λ(k:Int)=>zc8 M body k.toNat));cases he:body[i]? with
  | none=>rfl
  | some e=>
   show zaZ e _=zaZ e _;congr 1;refine List.map_congr_left λk hk=>?_
   obtain⟨q,hq⟩:=List.mem_iff_getElem?.1 hk;have:=(hb i e he).2 q k hq
   exact zdN hb N M k.toNat (by omega) (by omega)
def zW(body:List Ex)(i:Nat):List UInt8:=zc8 (i+1) body i
theorem zeA{body:List Ex}(hb:Parts body){i:Nat}{e:Ex}(he:body[i]?=some e):zW body i=zaZ e (e.kids.map λ(k:Int)=>zW body k.toNat):=by
 unfold zW;show (match body[i]? with|none=>[]|some e=>zaZ e (e.kids.map λ(k:Int)=>zc8 i body k.toNat))=_;rw[he];show zaZ e _=zaZ e _;congr 1;refine List.map_congr_left λk hk=>?_
 obtain⟨q,hq⟩:=List.mem_iff_getElem?.1 hk;have:=(hb i e he).2 q k hq
 exact zdN hb i _ k.toNat (by omega) (by omega)
theorem zcI(e:Ex):∀(ts:List (List UInt8)) (k:Nat) (t:List UInt8),zq e k (ts++[t])=zq e k ts++kidW e (k+ts.length) t
 | [],k,t=>by simp[zq]
 | x::ts,k,t=>by
  have ih:=zcI e ts (k+1) t;show kidW e k x++zq e (k+1) (ts++[t])=kidW e k x++zq e (k+1) ts++_;rw[ih,List.append_assoc,List.length_cons,show k+1+ts.length=k+(ts.length+1) by omega]
def lens(ws:List (List UInt8)):Nat:=(ws.map λw=>w.length+1).sum
theorem zbH(w:List UInt8)(ws:List (List UInt8)):lens (w::ws)=w.length+1+lens ws:=by simp[lens]
theorem lens_app(a b:List (List UInt8)):lens (a++b)=lens a+lens b:=by simp[lens]
theorem zgk:lens []=0:=rfl
theorem zcr:∀ws:List (List UInt8),(Lib.joinTail [32] ws).length<=lens ws
 | []=>by simp[Lib.joinTail,lens]
 | w::ws=>by
  have:=zcr ws
  have h3:Lib.joinTail [32] (w::ws)=[32]++w++Lib.joinTail [32] ws:=by simp[Lib.joinTail]
  rw[h3,zbH];simp only[List.length_append,List.length_cons,List.length_nil];omega
theorem zh3(ws:List (List UInt8)):(Lib.join ws [32]).length<=lens ws:=by
 cases ws with
 | nil=>simp[Lib.join]
 | cons w ws=>
  rw[Lib.join_cons,List.length_append,zbH];have:=zcr ws;omega
theorem zi.num{e:Ex}{l:Int}(h:zi e l)(hl:l<=100):(-32768<=e.num/\e.num<=32767)/\(0<=e.bind/\e.bind<=3)/\e.kids.length<=3:=by
 unfold zi Plain at h;rcases h with h|h|h|h|h|h|h|h<;>omega
theorem zcz{e:Ex}(hn:(Lib.itoa e.num).length<=20)(hb:(Lib.itoa e.bind).length<=20){m:Nat}:∀(ts:List (List UInt8)) (k:Nat),(∀t ∈ ts,t.length<=m)->lens (zq e k ts)<=ts.length*(m+1)+(if k<=1 then 43 else 0)/\(zq e k ts).length<=ts.length+(if k<=1 then 2 else 0)
 | [],k,_=>⟨by simp[zq,lens],by simp[zq]⟩
 | t::ts,k,h=>by
  have ih:=zcz hn hb ts (k+1) λx hx=>h x (List.mem_cons_of_mem _ hx)
  have ht:=h t List.mem_cons_self;show lens (kidW e k t++zq e (k+1) ts)<=_/\(kidW e k t++zq e (k+1) ts).length<=_;rw[lens_app,List.length_append,List.length_cons,Nat.add_mul];unfold kidW
  by_cases hc:e.kind=5/\k=1
  ·rw[if_pos hc];simp only[zbH,zgk,List.length_cons,List.length_nil];obtain⟨_,rfl⟩:=hc;simp only[Nat.le_refl,if_true] at ih ⊢;rw[if_neg (by omega),if_neg (by omega)] at ih;omega
  ·rw[if_neg hc];simp only[zbH,zgk,List.length_cons,List.length_nil];split
   ·by_cases h0:k+1<=1
    ·rw[if_pos h0,if_pos h0] at ih;omega
    ·rw[if_neg h0,if_neg h0] at ih;omega
   ·rw[if_neg (by omega),if_neg (by omega)] at ih;omega
theorem zeB{e:Ex}{l:Int}(hp:zi e l)(hl:l<=100){m:Nat}{ts:List (List UInt8)}(ht:∀t ∈ ts,t.length<=m)(hk:ts.length<=3):(zaZ e ts).length<=3*m+75/\(Lib.join (zam e::zq e 0 ts) [32]).length<=3*m+73/\(zam e::zq e 0 ts).length<=6:=by
 obtain⟨h1,h2,_⟩:=hp.num hl;have hn:=zaL (x:=e.num) (by omega) (by omega);have hb:=zaL (x:=e.bind) (by omega) (by omega);obtain⟨w1,w2⟩:=zcz hn hb ts 0 ht;have hh:(zam e).length<=21:=by
  unfold zam;split
  ·simp only[List.length_cons];omega
  ·split
   ·simp only[List.length_cons];omega
   ·split
    ·have:∀q:Nat,(zgL.getD q []).length<=1:=λq=>by
      rcases q with _|_|_|_|_|q<;>simp[zgL]
     have:=this e.num.toNat;omega
    ·split<;>simp
 have hj:=zh3 (zam e::zq e 0 ts);rw[zbH] at hj;have hm:ts.length*(m+1)<=3*(m+1):=Nat.mul_le_mul_right _ hk;simp only[Nat.zero_le,if_true] at w1 w2;have h73:(Lib.join (zam e::zq e 0 ts) [32]).length<=3*m+73:=by omega
 refine⟨?_,h73,by simp only[List.length_cons];omega⟩;unfold zaZ;split
 ·omega
 ·split
  ·simp only[List.length_cons];omega
  ·split
   ·simp
   ·split
    ·simp only[List.length_cons];omega
    ·simp only[List.length_cons,List.length_append,List.length_nil];omega
def zdD(body:List Ex):Prop:=∀(i:Nat) (e:Ex),body[i]?=some e->(∃l,l<=100/\zi e l)/\∀(k:Nat) (kid:Int),e.kids[k]?=some kid->0<=kid/\kid<(i:Int)
theorem zdd{d:Df}(h:zt d=true):zdD d.body:=λi e he=>by
 obtain⟨lv,hl⟩:=zcw h;obtain⟨h1,h2,h3⟩:=hl.part i e he;exact⟨⟨_,by omega,h2⟩,λk kid hk=>(h3 k kid hk).1⟩
theorem zdD.parts{body:List Ex}(h:zdD body):Parts body:=λi e he=>⟨let ⟨l,_,h1⟩:=(h i e he).1;⟨l,h1⟩,(h i e he).2⟩
theorem zdM{body:List Ex}(hb:zdD body):∀(N i:Nat),i<N->(zW body i).length+40<=40*3 ^ (i+1)
 | N+1,i,h=>by
  have hpos:0<3 ^ i:=Nat.pow_pos (by omega);have hs:3 ^ (i+1)=3 ^ i*3:=Nat.pow_succ ..;cases he:body[i]? with
  | none=>
   have:zW body i=[]:=by unfold zW;show (match body[i]? with|none=>[]|some e=>zaZ e (e.kids.map λ(k:Int)=>zc8 i body k.toNat))=_;rw[he]
   rw[this,hs];simp only[List.length_nil];omega
  | some e=>
   rw[zeA hb.parts he];obtain⟨⟨l,hl,hp⟩,hk⟩:=hb i e he;have hk3:=(hp.num hl).2.2;have key:∀t ∈ e.kids.map (λ(k:Int)=>zW body k.toNat),t.length<=40*3 ^ i-40:=by
    intro t ht;obtain⟨k,hkm,rfl⟩:=List.mem_map.1 ht;obtain⟨q,hq⟩:=List.mem_iff_getElem?.1 hkm;have hki:=hk q k hq;have ih:=zdM hb N k.toNat (by omega);have hmono:3 ^ (k.toNat+1)<=3 ^ i:=Nat.pow_le_pow_right (by omega) (by omega);omega
   have:=(zeB hp hl key (by rw[List.length_map];exact hk3)).1
   omega
theorem zb3{body:List Ex}(hb:zdD body){i:Nat}(hi:i<24):(zW body i).length<=11297181459240:=by
 have h1:=zdM hb (i+1) i (by omega);have h2:3 ^ (i+1)<=3 ^ 24:=Nat.pow_le_pow_right (by omega) (by omega);have h3:(3:Nat) ^ 24=282429536481:=by decide
 omega
end Am.F
