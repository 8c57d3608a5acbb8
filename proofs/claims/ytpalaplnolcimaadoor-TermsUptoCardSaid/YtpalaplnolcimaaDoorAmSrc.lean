/- Code with expressions: fewer temporaries. How it lies in the abstract machine's own; that it comes to the same. -/
import Derived.Test.YtpalaplnolcimaaDoorAmDrawA
namespace Am
open Go

/-- An expression: its operations with the temporaries that they write. -/
inductive SE where
  | v (x : Nat) (m : Option Nat)
  | k (c : AV)
  | op (d : Option Nat) (f : OpK) (args : List SE)
  | opr (d : Option Nat) (f : OpK) (a b : SE)
  | and (m p : Nat) (a b : SE)
  | or (m p : Nat) (a b : SE)
  deriving Repr, Inhabited

/-- A statement: a variable is given a value; or the value is let go. -/
inductive SS where
  | set (x : Nat) (e : SE)
  | ef (e : SE)
  deriving Repr, Inhabited

inductive SC where
  | skip
  | ret
  | reg (ss : List SS)
  | dreg (lv : List Nat) (ops : List IOp) (its : List DItem)
  | seq (a b : SC)
  | cond (c : Opd) (a b : SC)
  | ifr (ss : List SS) (e : SE) (a b : SC)
  | block (id : Nat) (c : SC)
  | loop (live : List Nat) (c : SC)
  | exit (id : Nat)
  deriving Repr, Inhabited

/-! ### What it does -/

mutual
def evE (call : Call) (ce : Env) : SE → St → Option (AV × St)
  | .v x _, S => some (ce.getD x (.tup []), S)
  | .k c, S => some (c, S)
  | .op _ f args, S => (evEs call ce args S).bind fun r => ap call f r.1 r.2
  | .opr _ f a b, S => (evE call ce b S).bind fun rb => (evE call ce a rb.2).bind fun ra => ap call f [ra.1, rb.1] ra.2
  | .and _ _ a b, S => (evE call ce a S).bind fun r => match r.1 with
    | .bool true => (evE call ce b r.2)
    | .bool false => some (.bool false, r.2)
    | _ => none
  | .or _ _ a b, S => (evE call ce a S).bind fun r => match r.1 with
    | .bool true => some (.bool true, r.2)
    | .bool false => (evE call ce b r.2)
    | _ => none
def evEs (call : Call) (ce : Env) : List SE → St → Option (List AV × St)
  | [], S => some ([], S)
  | e :: es, S => (evE call ce e S).bind fun r => (evEs call ce es r.2).map fun rs => (r.1 :: rs.1, rs.2)
end

def exSS (call : Call) : List SS → Env → St → Option (Env × St)
  | [], ce, S => some (ce, S)
  | .set x e :: ss, ce, S => (evE call ce e S).bind fun r => exSS call ss (ce.set x r.1) r.2
  | .ef e :: ss, ce, S => (evE call ce e S).bind fun r => exSS call ss ce r.2

def exS (call : Call) (N : Nat) : SC → Env → St → Option (Ex × Env × St)
  | .skip, ce, S => some (.normal, ce, S)
  | .ret, ce, S => some (.ret, ce, S)
  | .reg ss, ce, S => (exSS call ss ce S).map fun r => (.normal, r.1, r.2)
  | .dreg lv ops its, ce, S => (exItems call ops its (ce ++ List.replicate lv.length (.tup [])) S).map fun r => (.normal, r.1.take ce.length, r.2)
  | .seq a b, ce, S => match exS call N a ce S with
    | some (.normal, ce', S') => exS call N b ce' S'
    | r => r
  | .cond c a b, ce, S => match c.ev ce with
    | .bool true => exS call N a ce S
    | .bool false => exS call N b ce S
    | _ => none
  | .ifr ss e a b, ce, S => (exSS call ss ce S).bind fun r => (evE call r.1 e r.2).bind fun q => match q.1 with
    | .bool true => exS call N a r.1 q.2
    | .bool false => exS call N b r.1 q.2
    | _ => none
  | .block id c, ce, S => match exS call N c ce S with
    | some (.exit id', ce', S') => if id' = id then some (.normal, ce', S') else some (.exit id', ce', S')
    | r => r
  | .loop live c, ce, S => iter (fun ce S => exS call N c (keepLive live ce) S) N ce S
  | .exit id, ce, S => some (.exit id, ce, S)

/-! ### How it lies in the abstract machine's code -/

/-- The temporary of a variable. -/
def tm (vm : List Nat) (x : Nat) : Nat := vm.getD x 0

mutual
def flE (vm : List Nat) (g : Option (Nat × Bool)) : SE → List IOp × Opd
  | .v x none => ([], .t (tm vm x))
  | .v x (some m) => ([⟨some m, .mov, [.t (tm vm x)], g⟩], .t m)
  | .k c => ([], .c c)
  | .op d f args => ((flEs vm g args).1 ++ [⟨d, f, (flEs vm g args).2, g⟩], .t (d.getD 0))
  | .opr d f a b => ((flE vm g b).1 ++ (flE vm g a).1 ++ [⟨d, f, [(flE vm g a).2, (flE vm g b).2], g⟩], .t (d.getD 0))
  | .and m p a b => ((flE vm g a).1 ++ [⟨some m, .mov, [(flE vm g a).2], g⟩] ++ (flE vm (some (m, true)) b).1 ++ [⟨some p, .pick, [.t m, (flE vm (some (m, true)) b).2, .c (.bool false)], g⟩], .t p)
  | .or m p a b => ((flE vm g a).1 ++ [⟨some m, .mov, [(flE vm g a).2], g⟩] ++ (flE vm (some (m, false)) b).1 ++ [⟨some p, .pick, [.t m, .c (.bool true), (flE vm (some (m, false)) b).2], g⟩], .t p)
def flEs (vm : List Nat) (g : Option (Nat × Bool)) : List SE → List IOp × List Opd
  | [] => ([], [])
  | e :: es => ((flE vm g e).1 ++ (flEs vm g es).1, (flE vm g e).2 :: (flEs vm g es).2)
end

def SS.e : SS → SE
  | .set _ e => e
  | .ef e => e

def flSS (vm : List Nat) : List SS → List IOp
  | [] => []
  | s :: ss => (flE vm none s.e).1 ++ flSS vm ss

def rnO (vm : List Nat) : Opd → Opd
  | .t x => .t (tm vm x)
  | .c v => .c v

def rnI (vm : List Nat) (o : IOp) : IOp := ⟨o.dst.map (tm vm), o.k, o.args.map (rnO vm), o.guard.map fun p => (tm vm p.1, p.2)⟩

def flC (vm : List Nat) : SC → ICode
  | .skip => .skip
  | .ret => .ret
  | .reg ss => .reg (flSS vm ss)
  | .dreg lv ops its => .dreg (ops.map (rnI (vm ++ lv))) its
  | .seq a b => .seq (flC vm a) (flC vm b)
  | .cond c a b => .cond (rnO vm c) (flC vm a) (flC vm b)
  | .ifr ss e a b => .seq (.reg (flSS vm ss ++ (flE vm none e).1)) (.cond (flE vm none e).2 (flC vm a) (flC vm b))
  | .block id c => .block id (flC vm c)
  | .loop live c => .loop (live.map (tm vm)) (flC vm c)
  | .exit id => .exit id

/-! ### What is asked of it -/

mutual
/-- The temporaries that an expression writes. -/
def wrE : SE → List Nat
  | .v _ m => m.toList
  | .k _ => []
  | .op d _ args => wrEs args ++ d.toList
  | .opr d _ a b => wrE b ++ wrE a ++ d.toList
  | .and m p a b => wrE a ++ m :: (wrE b ++ [p])
  | .or m p a b => wrE a ++ m :: (wrE b ++ [p])
def wrEs : List SE → List Nat
  | [] => []
  | e :: es => wrE e ++ wrEs es
end

mutual
/-- Every variable is one; every operation but the outermost one writes a temporary. -/
def okE (nv : Nat) : SE → Bool
  | .v x _ => decide (x < nv)
  | .k _ => true
  | .op _ _ args => okEs nv args
  | .opr _ _ a b => a.hasT && okE nv a && (b.hasT && okE nv b)
  | .and _ _ a b => a.hasT && okE nv a && (b.hasT && okE nv b)
  | .or _ _ a b => a.hasT && okE nv a && (b.hasT && okE nv b)
def okEs (nv : Nat) : List SE → Bool
  | [] => true
  | e :: es => e.hasT && okE nv e && okEs nv es
/-- Does its value stand somewhere? -/
def SE.hasT : SE → Bool
  | .op d _ _ => d.isSome
  | .opr d _ _ _ => d.isSome
  | _ => true
end

def nodupB : List Nat → Bool
  | [] => true
  | x :: xs => !xs.contains x && nodupB xs

/-- The temporary where a value that is reckoned stands. -/
def SE.root : SE → Option Nat
  | .v _ m => m
  | .k _ => none
  | .op d _ _ => d
  | .opr d _ _ _ => d
  | .and _ p _ _ => some p
  | .or _ p _ _ => some p

def okS (vm : List Nat) (nt : Nat) : SS → Bool
  | .set x e => decide (x < vm.length) && okE vm.length e && nodupB (wrE e) && ((wrE e).all fun t => decide (t < nt)) && (e.root == some (tm vm x)) && (wrE e).all fun t => !vm.contains t || t == tm vm x
  | .ef e => okE vm.length e && nodupB (wrE e) && ((wrE e).all fun t => decide (t < nt)) && (wrE e).all fun t => !vm.contains t

def okO (nv : Nat) : Opd → Bool
  | .t x => decide (x < nv)
  | .c _ => true

def okI (nv : Nat) (o : IOp) : Bool :=
  (match o.dst with | some d => decide (d < nv) | none => true) && o.args.all (okO nv) && (match o.guard with | some g => decide (g.1 < nv) | none => true)

/-- What is looked at has been written, where it is not a variable. -/
def okLoc (nv : Nat) (ops : List IOp) : List Nat → List DItem → Bool
  | _, [] => true
  | W, .op i :: its => match ops[i]? with
    | some o => (o.reads.all fun t => decide (t < nv) || W.contains t) && okLoc nv ops (o.dst.toList ++ W) its
    | none => true
  | W, .chk i :: its => match ops[i]? with
    | some o => (o.reads.all fun t => decide (t < nv) || W.contains t) && (o.dst.toList.all fun t => decide (t < nv) || W.contains t) && okLoc nv ops W its
    | none => true

def okC (vm : List Nat) (nt : Nat) : SC → Bool
  | .skip | .ret | .exit _ => true
  | .reg ss => ss.all (okS vm nt)
  | .dreg lv ops its => ops.all (okI (vm ++ lv).length) && nodupB (vm ++ lv) && (lv.all fun t => decide (t < nt)) && okLoc vm.length ops [] its
  | .seq a b => okC vm nt a && okC vm nt b
  | .cond c a b => okO vm.length c && (okC vm nt a && okC vm nt b)
  | .ifr ss e a b => ss.all (okS vm nt) && okS vm nt (.ef e) && e.hasT && (okC vm nt a && okC vm nt b)
  | .block _ c => okC vm nt c
  | .loop live c => (live.all fun x => decide (x < vm.length)) && okC vm nt c

/-! ### It comes to the same -/

/-- The variables, where they stand among the temporaries. -/
structure At (vm : List Nat) (nt : Nat) (ce e : Env) : Prop where
  len : ce.length = vm.length
  nt : nt ≤ e.length
  at_ : ∀ x, x < vm.length → e.getD (tm vm x) (.tup []) = ce.getD x (.tup [])

/-- The same but for these. -/
def Same (e e' : Env) (ts : List Nat) : Prop := e'.length = e.length ∧ ∀ t, t ∉ ts → e'.getD t (.tup []) = e.getD t (.tup [])

theorem Same.refl (e : Env) (ts : List Nat) : Same e e ts := ⟨rfl, fun _ _ => rfl⟩

theorem Same.trans {e e' e'' : Env} {ts us : List Nat} (h : Same e e' ts) (h' : Same e' e'' us) : Same e e'' (ts ++ us) :=
  ⟨h'.1.trans h.1, fun t ht => by rw [List.mem_append, not_or] at ht; rw [h'.2 t ht.2, h.2 t ht.1]⟩

theorem Same.set (e : Env) (d : Option Nat) (v : AV) : Same e (setD e d v) d.toList := by
  cases d with
  | none => exact Same.refl _ _
  | some d =>
    refine ⟨by simp [setD], fun t ht => ?_⟩
    simp only [Option.toList_some, List.mem_singleton] at ht
    simp only [setD, List.getD_eq_getElem?_getD, List.getElem?_set]
    rw [if_neg (fun h => ht h.symm)]

theorem exOps_append {call : Call} : ∀ (a b : List IOp) (e : Env) (S : St), exOps call (a ++ b) e S = (exOps call a e S).bind fun r => exOps call b r.1 r.2
  | [], b, e, S => by simp [exOps]
  | o :: a, b, e, S => by
    simp only [List.cons_append, exOps]
    cases exOp call o e S with
    | none => rfl
    | some r => simp [exOps_append a b]

theorem getD_set_self {e : Env} {d : Nat} (v : AV) (h : d < e.length) : (e.set d v).getD d (.tup []) = v := by
  simp [List.getD_eq_getElem?_getD, h]

theorem nodupB_iff : ∀ {l : List Nat}, nodupB l = true ↔ l.Nodup
  | [] => by simp [nodupB]
  | x :: xs => by
    simp only [nodupB, Bool.and_eq_true, Bool.not_eq_true', List.nodup_cons, nodupB_iff (l := xs)]
    rw [← Bool.not_eq_true, List.contains_iff_mem]

theorem wanted_same {e e' : Env} {g : Option (Nat × Bool)} (h : ∀ t w, g = some (t, w) → e'.getD t (.tup []) = e.getD t (.tup [])) : wanted e' g = wanted e g := by
  cases g with
  | none => rfl
  | some p => simp only [wanted, h p.1 p.2 rfl]

theorem ev_same {e e' : Env} {p : Opd} (h : ∀ t, p = .t t → e'.getD t (.tup []) = e.getD t (.tup [])) : p.ev e' = p.ev e := by
  cases p with
  | t i => exact h i rfl
  | c v => rfl

/-- The guard's own temporary is not among these. -/
def Off (g : Option (Nat × Bool)) (ts : List Nat) : Prop := ∀ t w, g = some (t, w) → t ∉ ts

theorem Off.left {g : Option (Nat × Bool)} {ts us : List Nat} (h : Off g (ts ++ us)) : Off g ts := fun t w hg hm => h t w hg (List.mem_append_left _ hm)
theorem Off.right {g : Option (Nat × Bool)} {ts us : List Nat} (h : Off g (ts ++ us)) : Off g us := fun t w hg hm => h t w hg (List.mem_append_right _ hm)

theorem Same.wanted {e e' : Env} {ts : List Nat} {g : Option (Nat × Bool)} (h : Same e e' ts) (ho : Off g ts) : Am.wanted e' g = Am.wanted e g := wanted_same fun t w hg => h.2 t (ho t w hg)

theorem exOps_one {call : Call} {o : IOp} {e : Env} {S S' : St} {v : AV} (h : exOp call o e S = some (v, S')) : exOps call [o] e S = some (setD e o.dst v, S') := by simp [exOps, h]

theorem exOp_skip {call : Call} {o : IOp} {e : Env} {S : St} (h : wanted e o.guard = some false) : exOp call o e S = some (.tup [], S) := by simp [exOp, h]

theorem getD_set_tup (e : Env) (d : Nat) : (e.set d (.tup [])).getD d (.tup []) = .tup [] := by
  by_cases h : d < e.length
  · exact getD_set_self _ h
  · rw [List.getD_eq_getElem?_getD, List.getElem?_eq_none (by simp; omega)]; rfl

section
variable {call : Call} {vm : List Nat} {nt : Nat}

mutual
/-- What is skipped leaves nothing but in its own temporaries. -/
theorem skipE : ∀ (x : SE) (g : Option (Nat × Bool)) (e : Env) (S : St), (wrE x).Nodup → wanted e g = some false → Off g (wrE x) → ∃ e', exOps call (flE vm g x).1 e S = some (e', S) ∧ Same e e' (wrE x)
  | .v x none, g, e, S, _, _, _ => ⟨e, by simp [flE, exOps], Same.refl _ _⟩
  | .v x (some m), g, e, S, _, hw, _ => ⟨_, exOps_one (exOp_skip hw), Same.set e (some m) _⟩
  | .k c, g, e, S, _, _, _ => ⟨e, by simp [flE, exOps], Same.refl _ _⟩
  | .op d f args, g, e, S, hn, hw, ho => by
    simp only [wrE] at hn ho
    obtain ⟨e1, h1, h2⟩ := skipEs args g e S (List.nodup_append.1 hn).1 hw ho.left
    refine ⟨_, ?_, h2.trans (Same.set e1 d (.tup []))⟩
    simp only [flE, exOps_append, h1, Option.bind_some]
    exact exOps_one (exOp_skip (by rw [h2.wanted ho.left]; exact hw))
  | .opr d f a b, g, e, S, hn, hw, ho => by
    simp only [wrE] at hn ho
    have hn1 := (List.nodup_append.1 hn).1
    obtain ⟨e1, h1, h2⟩ := skipE b g e S (List.nodup_append.1 hn1).1 hw ho.left.left
    obtain ⟨e2, h3, h4⟩ := skipE a g e1 S (List.nodup_append.1 hn1).2.1 (by rw [h2.wanted ho.left.left]; exact hw) ho.left.right
    refine ⟨_, ?_, (h2.trans h4).trans (Same.set e2 d (.tup []))⟩
    simp only [flE, exOps_append, h1, h3, Option.bind_some]
    exact exOps_one (exOp_skip (by rw [(h2.trans h4).wanted ho.left]; exact hw))
  | .and m p a b, g, e, S, hn, hw, ho => by
    simp only [wrE] at hn ho
    rw [show wrE a ++ m :: (wrE b ++ [p]) = (wrE a ++ [m]) ++ (wrE b ++ [p]) by simp] at hn ho
    have hna := (List.nodup_append.1 (List.nodup_append.1 hn).1).1
    have hnb := (List.nodup_append.1 (List.nodup_append.1 hn).2.1).1
    obtain ⟨e1, h1, h2⟩ := skipE a g e S hna hw ho.left.left
    have h5 := h2.trans (Same.set e1 (some m) (.tup []))
    have hwm : wanted (e1.set m (.tup [])) (some (m, true)) = some false := by simp only [wanted, getD_set_tup]
    obtain ⟨e3, h3, h4⟩ := skipE b (some (m, true)) (e1.set m (.tup [])) S hnb hwm (fun t w h hm => by
      cases h; exact (List.nodup_append.1 hn).2.2 m (by simp) m (List.mem_append_left _ hm) rfl)
    have h6 : Same e e3 _ := h5.trans h4
    refine ⟨setD e3 (some p) (.tup []), ?_, ?_⟩
    · simp only [flE, exOps_append, h1, Option.bind_some, exOps, exOp_skip (o := ⟨some m, .mov, [(flE vm g a).2], g⟩) (by rw [h2.wanted ho.left.left]; exact hw : wanted e1 g = some false), setD, h3]
      rw [exOp_skip (o := ⟨some p, .pick, _, g⟩) (by
        rw [h6.wanted (fun t w hg hm => ho t w hg (by simp at hm ⊢; rcases hm with hm | hm | hm <;> simp [hm]))]; exact hw : wanted e3 g = some false)]
      rfl
    · have := h6.trans (Same.set e3 (some p) (.tup []))
      simpa [wrE] using this
  | .or m p a b, g, e, S, hn, hw, ho => by
    simp only [wrE] at hn ho
    rw [show wrE a ++ m :: (wrE b ++ [p]) = (wrE a ++ [m]) ++ (wrE b ++ [p]) by simp] at hn ho
    have hna := (List.nodup_append.1 (List.nodup_append.1 hn).1).1
    have hnb := (List.nodup_append.1 (List.nodup_append.1 hn).2.1).1
    obtain ⟨e1, h1, h2⟩ := skipE a g e S hna hw ho.left.left
    have h5 := h2.trans (Same.set e1 (some m) (.tup []))
    have hwm : wanted (e1.set m (.tup [])) (some (m, false)) = some false := by simp only [wanted, getD_set_tup]
    obtain ⟨e3, h3, h4⟩ := skipE b (some (m, false)) (e1.set m (.tup [])) S hnb hwm (fun t w h hm => by
      cases h; exact (List.nodup_append.1 hn).2.2 m (by simp) m (List.mem_append_left _ hm) rfl)
    have h6 : Same e e3 _ := h5.trans h4
    refine ⟨setD e3 (some p) (.tup []), ?_, ?_⟩
    · simp only [flE, exOps_append, h1, Option.bind_some, exOps, exOp_skip (o := ⟨some m, .mov, [(flE vm g a).2], g⟩) (by rw [h2.wanted ho.left.left]; exact hw : wanted e1 g = some false), setD, h3]
      rw [exOp_skip (o := ⟨some p, .pick, _, g⟩) (by
        rw [h6.wanted (fun t w hg hm => ho t w hg (by simp at hm ⊢; rcases hm with hm | hm | hm <;> simp [hm]))]; exact hw : wanted e3 g = some false)]
      rfl
    · have := h6.trans (Same.set e3 (some p) (.tup []))
      simpa [wrE] using this
theorem skipEs : ∀ (xs : List SE) (g : Option (Nat × Bool)) (e : Env) (S : St), (wrEs xs).Nodup → wanted e g = some false → Off g (wrEs xs) → ∃ e', exOps call (flEs vm g xs).1 e S = some (e', S) ∧ Same e e' (wrEs xs)
  | [], g, e, S, _, _, _ => ⟨e, by simp [flEs, exOps], Same.refl _ _⟩
  | x :: xs, g, e, S, hn, hw, ho => by
    simp only [wrEs] at hn ho
    obtain ⟨e1, h1, h2⟩ := skipE x g e S (List.nodup_append.1 hn).1 hw ho.left
    obtain ⟨e2, h3, h4⟩ := skipEs xs g e1 S (List.nodup_append.1 hn).2.1 (by rw [h2.wanted ho.left]; exact hw) ho.right
    exact ⟨e2, by simp only [flEs, exOps_append, h1, Option.bind_some, h3], h2.trans h4⟩
end

/-- None of these is a variable's. -/
def NoVar (vm : List Nat) (ts : List Nat) : Prop := ∀ t ∈ ts, ∀ x, x < vm.length → tm vm x ≠ t

theorem At.same {ce e e' : Env} {ts : List Nat} (h : At vm nt ce e) (hs : Same e e' ts) (hn : NoVar vm ts) : At vm nt ce e' :=
  ⟨h.len, by rw [hs.1]; exact h.nt, fun x hx => by rw [hs.2 _ fun hm => hn _ hm x hx rfl]; exact h.at_ x hx⟩

theorem opd_where (g : Option (Nat × Bool)) : ∀ (x : SE), x.hasT = true → okE vm.length x = true → ∀ t, (flE vm g x).2 = .t t → t ∈ wrE x ∨ ∃ y, y < vm.length ∧ t = tm vm y
  | .v y none, _, ho, t, h => by simp only [flE] at h; cases h; simp only [okE, decide_eq_true_eq] at ho; exact .inr ⟨y, ho, rfl⟩
  | .v y (some m), _, _, t, h => by simp only [flE] at h; cases h; exact .inl (by simp [wrE])
  | .k c, _, _, t, h => by simp [flE] at h
  | .op d f args, hT, _, t, h => by
    simp only [flE] at h; cases h
    simp only [SE.hasT] at hT
    cases d with
    | none => cases hT
    | some d => exact .inl (by simp [wrE])
  | .opr d f a b, hT, _, t, h => by
    simp only [flE] at h; cases h
    simp only [SE.hasT] at hT
    cases d with
    | none => cases hT
    | some d => exact .inl (by simp [wrE])
  | .and m p a b, _, _, t, h => by simp only [flE] at h; cases h; exact .inl (by simp [wrE])
  | .or m p a b, _, _, t, h => by simp only [flE] at h; cases h; exact .inl (by simp [wrE])

theorem opd_keep {g : Option (Nat × Bool)} {x : SE} {e e' : Env} {ts : List Nat} (hT : x.hasT = true) (hok : okE vm.length x = true) (hs : Same e e' ts) (hd : ∀ t ∈ wrE x, t ∉ ts) (hn : NoVar vm ts) :
    (flE vm g x).2.ev e' = (flE vm g x).2.ev e := by
  refine ev_same fun t ht => hs.2 t ?_
  rcases opd_where g x hT hok t ht with h | ⟨y, hy, rfl⟩
  · exact hd t h
  · intro hm; exact hn _ hm y hy rfl

theorem setD_get {e : Env} {d : Option Nat} {v : AV} (hd : d.isSome = true) (hlt : ∀ t ∈ d.toList, t < e.length) : (Opd.t (d.getD 0)).ev (setD e d v) = v := by
  cases d with
  | none => cases hd
  | some d => exact getD_set_self v (hlt d (by simp))

mutual
theorem evE_ok {ce : Env} : ∀ (x : SE) (g : Option (Nat × Bool)) (e : Env) (S : St) (v : AV) (S' : St), evE call ce x S = some (v, S') → At vm nt ce e → okE vm.length x = true → (wrE x).Nodup → (∀ t ∈ wrE x, t < nt) →
    (∀ t ∈ wrE x, x.root ≠ some t → ∀ y, y < vm.length → tm vm y ≠ t) → wanted e g = some true → Off g (wrE x) →
    ∃ e', exOps call (flE vm g x).1 e S = some (e', S') ∧ Same e e' (wrE x) ∧ (x.hasT = true → (flE vm g x).2.ev e' = v)
  | .v y none, g, e, S, v, S', h, hA, hok, _, _, _, _, _ => by
    simp only [evE] at h; cases h
    simp only [okE, decide_eq_true_eq] at hok
    exact ⟨e, by simp [flE, exOps], Same.refl _ _, fun _ => hA.at_ y hok⟩
  | .v y (some m), g, e, S, v, S', h, hA, hok, _, hlt, _, hw, _ => by
    simp only [evE] at h; cases h
    simp only [okE, decide_eq_true_eq] at hok
    refine ⟨e.set m (ce.getD y (.tup [])), ?_, Same.set e (some m) _, fun _ => ?_⟩
    · refine exOps_one (o := ⟨some m, .mov, [.t (tm vm y)], g⟩) ?_
      simp only [exOp, hw, List.map_cons, List.map_nil, ap, Opd.ev, hA.at_ y hok]
    · exact getD_set_self _ (Nat.lt_of_lt_of_le (hlt m (by simp [wrE])) hA.nt)
  | .k c, g, e, S, v, S', h, _, _, _, _, _, _, _ => by
    simp only [evE] at h; cases h
    exact ⟨e, by simp [flE, exOps], Same.refl _ _, fun _ => rfl⟩
  | .op d f args, g, e, S, v, S', h, hA, hok, hn, hlt, hnv, hw, ho => by
    simp only [evE, Option.bind_eq_some_iff] at h
    obtain ⟨⟨vs, S1⟩, h1, h2⟩ := h
    simp only [wrE] at hn hlt hnv ho
    simp only [okE] at hok
    have hnv' : NoVar vm (wrEs args) := fun t ht y hy => hnv t (List.mem_append_left _ ht) (fun hr => by
      simp only [SE.root] at hr
      exact (List.nodup_append.1 hn).2.2 t ht t (by simp [hr]) rfl) y hy
    obtain ⟨e1, h3, h4, h5⟩ := evEs_ok args g e S vs S1 h1 hA hok (List.nodup_append.1 hn).1 (fun t ht => hlt t (List.mem_append_left _ ht)) hnv' hw ho.left
    refine ⟨setD e1 d v, ?_, h4.trans (Same.set e1 d v), fun hT => ?_⟩
    · simp only [flE, exOps_append, h3, Option.bind_some]
      refine exOps_one (o := ⟨d, f, (flEs vm g args).2, g⟩) ?_
      simp only [exOp, h4.wanted ho.left, hw, h5]
      exact h2
    · exact setD_get hT fun t ht => by rw [h4.1]; exact Nat.lt_of_lt_of_le (hlt t (List.mem_append_right _ ht)) hA.nt
  | .opr d f a b, g, e, S, v, S', h, hA, hok, hn, hlt, hnv, hw, ho => by
    simp only [evE, Option.bind_eq_some_iff] at h
    obtain ⟨⟨vb, S1⟩, h1, ⟨va, S2⟩, h2, h3⟩ := h
    simp only [wrE] at hn hlt hnv ho
    simp only [okE, Bool.and_eq_true] at hok
    obtain ⟨⟨hTa, hoka⟩, hTb, hokb⟩ := hok
    have hn1 := (List.nodup_append.1 hn).1
    have hnv' : NoVar vm (wrE b ++ wrE a) := fun t ht y hy => hnv t (List.mem_append_left _ ht) (fun hr => by
      simp only [SE.root] at hr
      exact (List.nodup_append.1 hn).2.2 t ht t (by simp [hr]) rfl) y hy
    obtain ⟨e1, h4, h5, h6⟩ := evE_ok b g e S vb S1 h1 hA hokb (List.nodup_append.1 hn1).1 (fun t ht => hlt t (by simp [ht])) (fun t ht _ => hnv' t (List.mem_append_left _ ht)) hw ho.left.left
    have hA1 := hA.same h5 fun t ht => hnv' t (List.mem_append_left _ ht)
    obtain ⟨e2, h7, h8, h9⟩ := evE_ok a g e1 S1 va S2 h2 hA1 hoka (List.nodup_append.1 hn1).2.1 (fun t ht => hlt t (by simp [ht])) (fun t ht _ => hnv' t (List.mem_append_right _ ht)) (by rw [h5.wanted ho.left.left]; exact hw) ho.left.right
    have h10 := h5.trans h8
    refine ⟨setD e2 d v, ?_, h10.trans (Same.set e2 d v), fun hT => ?_⟩
    · simp only [flE, exOps_append, h4, h7, Option.bind_some]
      refine exOps_one (o := ⟨d, f, [(flE vm g a).2, (flE vm g b).2], g⟩) ?_
      simp only [exOp, h10.wanted ho.left, hw, List.map_cons, List.map_nil, h9 hTa]
      rw [opd_keep (x := b) hTb hokb h8 (fun t ht hm => (List.nodup_append.1 hn1).2.2 t ht t hm rfl) (fun t ht => hnv' t (List.mem_append_right _ ht)), h6 hTb]
      exact h3
    · exact setD_get hT fun t ht => by rw [h10.1]; exact Nat.lt_of_lt_of_le (hlt t (List.mem_append_right _ ht)) hA.nt
  | .and m p a b, g, e, S, v, S', h, hA, hok, hn, hlt, hnv, hw, ho => by
    simp only [evE, Option.bind_eq_some_iff] at h
    obtain ⟨⟨va, S1⟩, h1, h2⟩ := h
    simp only [wrE] at hn hlt hnv ho
    rw [show wrE a ++ m :: (wrE b ++ [p]) = (wrE a ++ [m]) ++ (wrE b ++ [p]) by simp] at hn hlt hnv ho
    simp only [okE, Bool.and_eq_true] at hok
    obtain ⟨⟨hTa, hoka⟩, hTb, hokb⟩ := hok
    have hn1 := (List.nodup_append.1 hn).1
    have hn2 := (List.nodup_append.1 hn).2.1
    have hpne : ∀ t ∈ (wrE a ++ [m]) ++ wrE b, t ≠ p := by
      intro t ht he
      subst he
      rcases List.mem_append.1 ht with h' | h'
      · exact (List.nodup_append.1 hn).2.2 t h' t (by simp) rfl
      · exact (List.nodup_append.1 hn2).2.2 t h' t (by simp) rfl
    have hnv' : NoVar vm ((wrE a ++ [m]) ++ wrE b) := fun t ht y hy => hnv t (by rw [← List.append_assoc]; exact List.mem_append_left _ ht) (fun hr => by
      simp only [SE.root, Option.some.injEq] at hr; exact hpne t ht hr.symm) y hy
    obtain ⟨e1, h4, h5, h6⟩ := evE_ok a g e S va S1 h1 hA hoka (List.nodup_append.1 hn1).1 (fun t ht => hlt t (by simp [ht])) (fun t ht _ => hnv' t (by simp [ht])) hw ho.left.left
    have hmlt : m < e1.length := by rw [h5.1]; exact Nat.lt_of_lt_of_le (hlt m (by simp)) hA.nt
    have h7 := h5.trans (Same.set e1 (some m) va)
    have hmb : m ∉ wrE b := fun hm => (List.nodup_append.1 hn).2.2 m (by simp) m (List.mem_append_left _ hm) rfl
    have hmv : exOp call ⟨some m, .mov, [(flE vm g a).2], g⟩ e1 S1 = some (va, S1) := by
      simp only [exOp, h5.wanted ho.left.left, hw, List.map_cons, List.map_nil, h6 hTa, ap]
    have hgm : ∀ e3, Same (setD e1 (some m) va) e3 (wrE b) → wanted e3 g = some true := by
      intro e3 h
      rw [(h7.trans h).wanted (fun t w hg hm => ho t w hg (by simp at hm ⊢; rcases hm with hm | hm | hm <;> simp [hm]))]; exact hw
    have hbool : va = .bool true ∨ va = .bool false := by
      cases va <;> simp at h2
      rename_i b'; cases b' <;> simp
    rcases hbool with rfl | rfl
    · simp only at h2
      have hA1 := hA.same h7 fun t ht => hnv' t (List.mem_append_left _ ht)
      have hwm : wanted (setD e1 (some m) (.bool true)) (some (m, true)) = some true := by
        simp only [wanted, setD, getD_set_self _ hmlt]; rfl
      obtain ⟨e3, h8, h9, h10⟩ := evE_ok b (some (m, true)) _ S1 v S' h2 hA1 hokb (List.nodup_append.1 hn2).1 (fun t ht => hlt t (by simp [ht])) (fun t ht _ => hnv' t (by simp [ht])) hwm (fun t w h hm => by cases h; exact hmb hm)
      have h11 := h7.trans h9
      refine ⟨e3.set p v, ?_, by have := h11.trans (Same.set e3 (some p) v); simpa [wrE, setD] using this, fun _ => getD_set_self _ (by rw [h11.1]; exact Nat.lt_of_lt_of_le (hlt p (by simp)) hA.nt)⟩
      simp only [flE, exOps_append, h4, Option.bind_some, exOps, hmv]
      rw [h8]
      simp only [Option.bind_some]
      have hpk : exOp call ⟨some p, .pick, [.t m, (flE vm (some (m, true)) b).2, .c (.bool false)], g⟩ e3 S' = some (v, S') := by
        simp only [exOp, hgm e3 h9, List.map_cons, List.map_nil, h10 hTb]
        have : (Opd.t m).ev e3 = .bool true := by
          simp only [Opd.ev]; rw [h9.2 m hmb]; exact getD_set_self _ hmlt
        rw [this]; rfl
      rw [hpk]; rfl
    · simp only [Option.some.injEq, Prod.mk.injEq] at h2
      obtain ⟨rfl, rfl⟩ := h2
      have hwm : wanted (setD e1 (some m) (.bool false)) (some (m, true)) = some false := by
        simp only [wanted, setD, getD_set_self _ hmlt]; rfl
      obtain ⟨e3, h8, h9⟩ := skipE (call := call) (vm := vm) b (some (m, true)) _ S1 (List.nodup_append.1 hn2).1 hwm (fun t w h hm => by cases h; exact hmb hm)
      have h11 := h7.trans h9
      refine ⟨e3.set p (.bool false), ?_, by have := h11.trans (Same.set e3 (some p) (.bool false)); simpa [wrE, setD] using this, fun _ => getD_set_self _ (by rw [h11.1]; exact Nat.lt_of_lt_of_le (hlt p (by simp)) hA.nt)⟩
      simp only [flE, exOps_append, h4, Option.bind_some, exOps, hmv]
      rw [h8]
      simp only [Option.bind_some]
      have hpk : exOp call ⟨some p, .pick, [.t m, (flE vm (some (m, true)) b).2, .c (.bool false)], g⟩ e3 S1 = some (.bool false, S1) := by
        simp only [exOp, hgm e3 h9, List.map_cons, List.map_nil]
        have : (Opd.t m).ev e3 = .bool false := by
          simp only [Opd.ev]; rw [h9.2 m hmb]; exact getD_set_self _ hmlt
        rw [this]; rfl
      rw [hpk]; rfl
  | .or m p a b, g, e, S, v, S', h, hA, hok, hn, hlt, hnv, hw, ho => by
    simp only [evE, Option.bind_eq_some_iff] at h
    obtain ⟨⟨va, S1⟩, h1, h2⟩ := h
    simp only [wrE] at hn hlt hnv ho
    rw [show wrE a ++ m :: (wrE b ++ [p]) = (wrE a ++ [m]) ++ (wrE b ++ [p]) by simp] at hn hlt hnv ho
    simp only [okE, Bool.and_eq_true] at hok
    obtain ⟨⟨hTa, hoka⟩, hTb, hokb⟩ := hok
    have hn1 := (List.nodup_append.1 hn).1
    have hn2 := (List.nodup_append.1 hn).2.1
    have hpne : ∀ t ∈ (wrE a ++ [m]) ++ wrE b, t ≠ p := by
      intro t ht he
      subst he
      rcases List.mem_append.1 ht with h' | h'
      · exact (List.nodup_append.1 hn).2.2 t h' t (by simp) rfl
      · exact (List.nodup_append.1 hn2).2.2 t h' t (by simp) rfl
    have hnv' : NoVar vm ((wrE a ++ [m]) ++ wrE b) := fun t ht y hy => hnv t (by rw [← List.append_assoc]; exact List.mem_append_left _ ht) (fun hr => by
      simp only [SE.root, Option.some.injEq] at hr; exact hpne t ht hr.symm) y hy
    obtain ⟨e1, h4, h5, h6⟩ := evE_ok a g e S va S1 h1 hA hoka (List.nodup_append.1 hn1).1 (fun t ht => hlt t (by simp [ht])) (fun t ht _ => hnv' t (by simp [ht])) hw ho.left.left
    have hmlt : m < e1.length := by rw [h5.1]; exact Nat.lt_of_lt_of_le (hlt m (by simp)) hA.nt
    have h7 := h5.trans (Same.set e1 (some m) va)
    have hmb : m ∉ wrE b := fun hm => (List.nodup_append.1 hn).2.2 m (by simp) m (List.mem_append_left _ hm) rfl
    have hmv : exOp call ⟨some m, .mov, [(flE vm g a).2], g⟩ e1 S1 = some (va, S1) := by
      simp only [exOp, h5.wanted ho.left.left, hw, List.map_cons, List.map_nil, h6 hTa, ap]
    have hgm : ∀ e3, Same (setD e1 (some m) va) e3 (wrE b) → wanted e3 g = some true := by
      intro e3 h
      rw [(h7.trans h).wanted (fun t w hg hm => ho t w hg (by simp at hm ⊢; rcases hm with hm | hm | hm <;> simp [hm]))]; exact hw
    have hbool : va = .bool true ∨ va = .bool false := by
      cases va <;> simp at h2
      rename_i b'; cases b' <;> simp
    rcases hbool with rfl | rfl
    · simp only [Option.some.injEq, Prod.mk.injEq] at h2
      obtain ⟨rfl, rfl⟩ := h2
      have hwm : wanted (setD e1 (some m) (.bool true)) (some (m, false)) = some false := by
        simp only [wanted, setD, getD_set_self _ hmlt]; rfl
      obtain ⟨e3, h8, h9⟩ := skipE (call := call) (vm := vm) b (some (m, false)) _ S1 (List.nodup_append.1 hn2).1 hwm (fun t w h hm => by cases h; exact hmb hm)
      have h11 := h7.trans h9
      refine ⟨e3.set p (.bool true), ?_, by have := h11.trans (Same.set e3 (some p) (.bool true)); simpa [wrE, setD] using this, fun _ => getD_set_self _ (by rw [h11.1]; exact Nat.lt_of_lt_of_le (hlt p (by simp)) hA.nt)⟩
      simp only [flE, exOps_append, h4, Option.bind_some, exOps, hmv]
      rw [h8]
      simp only [Option.bind_some]
      have hpk : exOp call ⟨some p, .pick, [.t m, .c (.bool true), (flE vm (some (m, false)) b).2], g⟩ e3 S1 = some (.bool true, S1) := by
        simp only [exOp, hgm e3 h9, List.map_cons, List.map_nil]
        have : (Opd.t m).ev e3 = .bool true := by
          simp only [Opd.ev]; rw [h9.2 m hmb]; exact getD_set_self _ hmlt
        rw [this]; rfl
      rw [hpk]; rfl
    · simp only at h2
      have hA1 := hA.same h7 fun t ht => hnv' t (List.mem_append_left _ ht)
      have hwm : wanted (setD e1 (some m) (.bool false)) (some (m, false)) = some true := by
        simp only [wanted, setD, getD_set_self _ hmlt]; rfl
      obtain ⟨e3, h8, h9, h10⟩ := evE_ok b (some (m, false)) _ S1 v S' h2 hA1 hokb (List.nodup_append.1 hn2).1 (fun t ht => hlt t (by simp [ht])) (fun t ht _ => hnv' t (by simp [ht])) hwm (fun t w h hm => by cases h; exact hmb hm)
      have h11 := h7.trans h9
      refine ⟨e3.set p v, ?_, by have := h11.trans (Same.set e3 (some p) v); simpa [wrE, setD] using this, fun _ => getD_set_self _ (by rw [h11.1]; exact Nat.lt_of_lt_of_le (hlt p (by simp)) hA.nt)⟩
      simp only [flE, exOps_append, h4, Option.bind_some, exOps, hmv]
      rw [h8]
      simp only [Option.bind_some]
      have hpk : exOp call ⟨some p, .pick, [.t m, .c (.bool true), (flE vm (some (m, false)) b).2], g⟩ e3 S' = some (v, S') := by
        simp only [exOp, hgm e3 h9, List.map_cons, List.map_nil, h10 hTb]
        have : (Opd.t m).ev e3 = .bool false := by
          simp only [Opd.ev]; rw [h9.2 m hmb]; exact getD_set_self _ hmlt
        rw [this]; rfl
      rw [hpk]; rfl
theorem evEs_ok {ce : Env} : ∀ (xs : List SE) (g : Option (Nat × Bool)) (e : Env) (S : St) (vs : List AV) (S' : St), evEs call ce xs S = some (vs, S') → At vm nt ce e → okEs vm.length xs = true → (wrEs xs).Nodup → (∀ t ∈ wrEs xs, t < nt) →
    NoVar vm (wrEs xs) → wanted e g = some true → Off g (wrEs xs) →
    ∃ e', exOps call (flEs vm g xs).1 e S = some (e', S') ∧ Same e e' (wrEs xs) ∧ (flEs vm g xs).2.map (·.ev e') = vs
  | [], g, e, S, vs, S', h, _, _, _, _, _, _, _ => by
    simp only [evEs] at h; cases h
    exact ⟨e, by simp [flEs, exOps], Same.refl _ _, rfl⟩
  | x :: xs, g, e, S, vs, S', h, hA, hok, hn, hlt, hnv, hw, ho => by
    simp only [evEs, Option.bind_eq_some_iff, Option.map_eq_some_iff] at h
    obtain ⟨⟨v, S1⟩, h1, ⟨vs1, S2⟩, h2, h3⟩ := h
    cases h3
    simp only [wrEs] at hn hlt hnv ho
    simp only [okEs, Bool.and_eq_true] at hok
    obtain ⟨⟨hT, hok1⟩, hok2⟩ := hok
    obtain ⟨e1, h4, h5, h6⟩ := evE_ok x g e S v S1 h1 hA hok1 (List.nodup_append.1 hn).1 (fun t ht => hlt t (by simp [ht])) (fun t ht _ => hnv t (by simp [ht])) hw ho.left
    have hA1 := hA.same h5 fun t ht => hnv t (by simp [ht])
    obtain ⟨e2, h7, h8, h9⟩ := evEs_ok xs g e1 S1 vs1 _ h2 hA1 hok2 (List.nodup_append.1 hn).2.1 (fun t ht => hlt t (by simp [ht])) (fun t ht => hnv t (by simp [ht])) (by rw [h5.wanted ho.left]; exact hw) ho.right
    refine ⟨e2, by simp only [flEs, exOps_append, h4, Option.bind_some, h7], h5.trans h8, ?_⟩
    simp only [flEs, List.map_cons, h9, List.cons.injEq, and_true]
    rw [opd_keep hT hok1 h8 (fun t ht hm => (List.nodup_append.1 hn).2.2 t ht t hm rfl) (fun t ht => hnv t (by simp [ht])), h6 hT]
end
end
end Am
