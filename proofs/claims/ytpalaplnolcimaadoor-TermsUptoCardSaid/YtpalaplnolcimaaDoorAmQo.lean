/- The evaluator's operations, their continuations wrapped so that simp does not look into them. -/
import Derived.Test.YtpalaplnolcimaaDoorAmFs
namespace Am.F
open Go Am

/-- A wrapped term. -/
inductive Wr {α : Type} : α → Type where
  | mk (a : α) : Wr a

section
variable {β : Type}
noncomputable def qAdd (a b : AV) {k : VK β} (_ : Wr k) : Option β := pAdd a b k
noncomputable def qSub (a b : AV) {k : VK β} (_ : Wr k) : Option β := pSub a b k
noncomputable def qMul (a b : AV) {k : VK β} (_ : Wr k) : Option β := pMul a b k
noncomputable def qEql (a b : AV) {k : VK β} (_ : Wr k) : Option β := pEql a b k
noncomputable def qNeq (a b : AV) {k : VK β} (_ : Wr k) : Option β := pNeq a b k
noncomputable def qLss (a b : AV) {k : VK β} (_ : Wr k) : Option β := pLss a b k
noncomputable def qLeq (a b : AV) {k : VK β} (_ : Wr k) : Option β := pLeq a b k
noncomputable def qGtr (a b : AV) {k : VK β} (_ : Wr k) : Option β := pGtr a b k
noncomputable def qGeq (a b : AV) {k : VK β} (_ : Wr k) : Option β := pGeq a b k
noncomputable def qSAdd (a b : AV) {k : VK β} (_ : Wr k) : Option β := pSAdd a b k
noncomputable def qSEql (a b : AV) {k : VK β} (_ : Wr k) : Option β := pSEql a b k
noncomputable def qSNeq (a b : AV) {k : VK β} (_ : Wr k) : Option β := pSNeq a b k
noncomputable def qMin (a b : AV) {k : VK β} (_ : Wr k) : Option β := pMin a b k
noncomputable def qMax (a b : AV) {k : VK β} (_ : Wr k) : Option β := pMax a b k
noncomputable def qIdxS (a b : AV) {k : VK β} (_ : Wr k) : Option β := pIdxS a b k
noncomputable def qNot (a : AV) {k : VK β} (_ : Wr k) : Option β := pNot a k
noncomputable def qNeg (a : AV) {k : VK β} (_ : Wr k) : Option β := pNeg a k
noncomputable def qLenS (a : AV) {k : VK β} (_ : Wr k) : Option β := pLenS a k
noncomputable def qLenL (a : AV) {k : VK β} (_ : Wr k) : Option β := pLenL a k
noncomputable def qCapL (a : AV) {k : VK β} (_ : Wr k) : Option β := pCapL a k
noncomputable def qIdS (a : AV) {k : VK β} (_ : Wr k) : Option β := pIdS a k
noncomputable def qBin (op : BinOp) (a b : AV) {k : VK β} (_ : Wr k) : Option β := pBin op a b k
noncomputable def qBinS (op : BinOp) (a b : AV) {k : VK β} (_ : Wr k) : Option β := pBinS op a b k
noncomputable def qEqB (neg : Bool) (a b : AV) {k : VK β} (_ : Wr k) : Option β := pEqB neg a b k
noncomputable def qIsNil (c : NK) (neg : Bool) (a : AV) {k : VK β} (_ : Wr k) : Option β := pIsNil c neg a k
noncomputable def qEqP (neg : Bool) (a b : AV) {k : VK β} (_ : Wr k) : Option β := pEqP neg a b k
noncomputable def qEqA (ks : List FK) (neg : Bool) (a b : AV) {k : VK β} (_ : Wr k) : Option β := pEqA ks neg a b k
noncomputable def qPick (a b c : AV) {k : VK β} (_ : Wr k) : Option β := pPick a b c k
noncomputable def qBuild (z : List AV) (ps : List (Nat × Nat)) (vs : List AV) {k : VK β} (_ : Wr k) : Option β := pBuild z ps vs k
noncomputable def qConv (kd : IntKind) (a : AV) {k : VK β} (_ : Wr k) : Option β := pConv kd a k
noncomputable def qSlS (lo hi : Bool) (a : AV) (bs : List AV) {k : VK β} (_ : Wr k) : Option β := pSlS lo hi a bs k
noncomputable def qSlL (es : Nat) (lo hi mx : Bool) (a : AV) (bs : List AV) {k : VK β} (_ : Wr k) : Option β := pSlL es lo hi mx a bs k
noncomputable def qSlA (n es : Nat) (lo hi mx : Bool) (a : AV) (bs : List AV) {k : VK β} (_ : Wr k) : Option β := pSlA n es lo hi mx a bs k
noncomputable def qFadr (off : Nat) (a : AV) {k : VK β} (_ : Wr k) : Option β := pFadr off a k
noncomputable def qFld1 (off : Nat) (a : AV) {k : VK β} (_ : Wr k) : Option β := pFld1 off a k
noncomputable def qFldN (n off : Nat) (a : AV) {k : VK β} (_ : Wr k) : Option β := pFldN n off a k
noncomputable def qIadr (es : Nat) (a i : AV) {k : VK β} (_ : Wr k) : Option β := pIadr es a i k
noncomputable def qIadrA (n es : Nat) (a i : AV) {k : VK β} (_ : Wr k) : Option β := pIadrA n es a i k
noncomputable def qIdxA1 (n es : Nat) (a i : AV) {k : VK β} (_ : Wr k) : Option β := pIdxA1 n es a i k
noncomputable def qIdxAN (n es m : Nat) (a i : AV) {k : VK β} (_ : Wr k) : Option β := pIdxAN n es m a i k
noncomputable def qExt (i : Nat) (a : AV) {k : VK β} (_ : Wr k) : Option β := pExt i a k
noncomputable def qAlloc (tag : Nat) (z : List AV) (h : H) {k : K β} (_ : Wr k) : Option β := fAlloc tag z h k
noncomputable def qBox (tag : Nat) (a : AV) (h : H) {k : K β} (_ : Wr k) : Option β := fBox tag a h k
noncomputable def qBslice (tag : Nat) (z : List AV) (n : Nat) (ps : List (Nat × Nat)) (vs : List AV) (h : H) {k : K β} (_ : Wr k) : Option β := fBslice tag z n ps vs h k
noncomputable def qLoad1 (a : AV) (h : H) {k : VK β} (_ : Wr k) : Option β := fLoad1 a h k
noncomputable def qLoadN (n : Nat) (a : AV) (h : H) {k : VK β} (_ : Wr k) : Option β := fLoadN n a h k
noncomputable def qStore (n : Nat) (a v : AV) (h : H) {k : H → Option β} (_ : Wr k) : Option β := fStore n a v h k
noncomputable def qNil (a : AV) {k : VK β} (_ : Wr k) : Option β := fNil a k
noncomputable def qB2s (a : AV) (h : H) {k : VK β} (_ : Wr k) : Option β := fB2s a h k
noncomputable def qS2b (tag : Nat) (a : AV) (h : H) {k : K β} (_ : Wr k) : Option β := fS2b tag a h k
noncomputable def qMkslice (tag : Nat) (z : List AV) (bytes : Nat) (l c : AV) (h : H) {k : K β} (_ : Wr k) : Option β := fMkslice tag z bytes l c h k
noncomputable def qApp (tag es bytes : Nat) (s x : AV) (h : H) {k : K β} (_ : Wr k) : Option β := fApp tag es bytes s x h k
noncomputable def qAppz (tag es bytes : Nat) (z : List AV) (s x : AV) (h : H) {k : K β} (_ : Wr k) : Option β := fAppz tag es bytes z s x h k
noncomputable def qCpy (es : Nat) (d x : AV) (h : H) {k : K β} (_ : Wr k) : Option β := fCpy es d x h k
noncomputable def qCall (call : FCall β) (f : AV) (vs : List AV) (h : H) {k : K β} (_ : Wr k) : Option β := call f vs h k
noncomputable def qIf (v : AV) {a b : Option β} (_ : Wr a) (_ : Wr b) : Option β := fIf v a b
noncomputable def qAnd (v : AV) (h : H) {b : H → K β → Option β} {k : K β} (_ : Wr b) (_ : Wr k) : Option β := fAnd v h b k
noncomputable def qOr (v : AV) (h : H) {b : H → K β → Option β} {k : K β} (_ : Wr b) (_ : Wr k) : Option β := fOr v h b k
noncomputable def qGrd (v : AV) (want : Bool) (h : H) {act : H → K β → Option β} {k : K β} (_ : Wr act) (_ : Wr k) : Option β := fGrd v want h act k
noncomputable def qChk (v w : AV) {c : Option β} (_ : Wr c) : Option β := fChk v w c
noncomputable def qJoin (n : Nat) {j : Cur β n} {b : Cur β n → Option β} (_ : Wr j) (_ : Wr b) : Option β := fJoin n j b
noncomputable def qLoop (n N : Nat) {F : Cur β n → Cur β n} (_ : Wr F) : Cur β n := fLoop n N F
noncomputable def qSome {α : Type} (o : Option α) {c : α → Option β} (_ : Wr c) : Option β := oSome o c
def qCond (b : Bool) {x y : Option β} (_ : Wr x) (_ : Wr y) : Option β := cond b x y
end
end Am.F
