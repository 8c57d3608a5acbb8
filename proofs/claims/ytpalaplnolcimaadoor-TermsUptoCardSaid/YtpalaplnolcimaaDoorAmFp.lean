/- The evaluator by continuations is sound: expressions, statements, functions. -/
import Derived.Test.YtpalaplnolcimaaDoorAmFo
import Derived.Test.YtpalaplnolcimaaDoorAmFs
namespace Am.F
open Go Am

section
variable {β : Type} {r : β} {fcall : FCall β} {scall : Call}

theorem fAnd_some {v : AV} {h : H} {b : H → K β → Option β} {k : K β} (hh : fAnd v h b k = some r) : (v = .bool true ∧ b h k = some r) ∨ (v = .bool false ∧ k (.bool false) h = some r) := by
  obtain ⟨x, rfl, h1⟩ := aBool_some hh
  cases x
  · exact .inr ⟨rfl, h1⟩
  · exact .inl ⟨rfl, h1⟩
theorem fOr_some {v : AV} {h : H} {b : H → K β → Option β} {k : K β} (hh : fOr v h b k = some r) : (v = .bool false ∧ b h k = some r) ∨ (v = .bool true ∧ k (.bool true) h = some r) := by
  obtain ⟨x, rfl, h1⟩ := aBool_some hh
  cases x
  · exact .inl ⟨rfl, h1⟩
  · exact .inr ⟨rfl, h1⟩
theorem fIf_some {v : AV} {a b : Option β} (hh : fIf v a b = some r) : (v = .bool true ∧ a = some r) ∨ (v = .bool false ∧ b = some r) := by
  obtain ⟨x, rfl, h1⟩ := aBool_some hh
  cases x
  · exact .inr ⟨rfl, h1⟩
  · exact .inl ⟨rfl, h1⟩

mutual
theorem fE_ok (hc : FOk fcall scall) {ce : Env} : ∀ (e : SE) {h : H} {k : K β} {S : St}, fE fcall e ce h k = some r → Abs h S → Goes (evE scall ce e) S k r
  | .v x m, h, k, S, hf, ha => by
    have hf : k (nth ce x) h = some r := hf
    rw [nth_eq] at hf
    exact .here ha (by simp only [evE]) hf
  | .k c, h, k, S, hf, ha => .here ha (by simp only [evE]) hf
  | .op d f args, h, k, S, hf, ha => by
    have hf : fEs fcall args ce h (fun vs h => fAp fcall f vs h k) = some r := hf
    obtain ⟨vs, S1, h1, h2, h3, h4⟩ := fEs_ok hc args hf ha
    obtain ⟨v, S2, h', h5, h6, h7⟩ := fAp_ok hc h4 h3
    exact ⟨v, S2, h', by simp only [evE, h2, Option.bind_some]; exact h5, h6, h7⟩
  | .opr d f a b, h, k, S, hf, ha => by
    have hf : fE fcall b ce h (fun vb h => fE fcall a ce h fun va h => fAp fcall f [va, vb] h k) = some r := hf
    obtain ⟨vb, S1, h1, h2, h3, h4⟩ := fE_ok hc b hf ha
    obtain ⟨va, S2, h5, h6, h7, h8⟩ := fE_ok hc a h4 h3
    obtain ⟨v, S3, h', h9, h10, h11⟩ := fAp_ok hc h8 h7
    exact ⟨v, S3, h', by simp only [evE, h2, h6, Option.bind_some]; exact h9, h10, h11⟩
  | .and m p a b, h, k, S, hf, ha => by
    have hf : fE fcall a ce h (fun v h => fAnd v h (fun h k => fE fcall b ce h k) k) = some r := hf
    obtain ⟨va, S1, h1, h2, h3, h4⟩ := fE_ok hc a hf ha
    rcases fAnd_some h4 with ⟨rfl, h5⟩ | ⟨rfl, h5⟩
    · obtain ⟨v, S2, h', h6, h7, h8⟩ := fE_ok hc b h5 h3
      exact ⟨v, S2, h', by simp only [evE, h2, Option.bind_some]; exact h6, h7, h8⟩
    · exact ⟨_, _, _, by simp only [evE, h2, Option.bind_some], h3, h5⟩
  | .or m p a b, h, k, S, hf, ha => by
    have hf : fE fcall a ce h (fun v h => fOr v h (fun h k => fE fcall b ce h k) k) = some r := hf
    obtain ⟨va, S1, h1, h2, h3, h4⟩ := fE_ok hc a hf ha
    rcases fOr_some h4 with ⟨rfl, h5⟩ | ⟨rfl, h5⟩
    · obtain ⟨v, S2, h', h6, h7, h8⟩ := fE_ok hc b h5 h3
      exact ⟨v, S2, h', by simp only [evE, h2, Option.bind_some]; exact h6, h7, h8⟩
    · exact ⟨_, _, _, by simp only [evE, h2, Option.bind_some], h3, h5⟩
theorem fEs_ok (hc : FOk fcall scall) {ce : Env} : ∀ (es : List SE) {h : H} {k : List AV → H → Option β} {S : St}, fEs fcall es ce h k = some r → Abs h S →
    ∃ vs S' h', evEs scall ce es S = some (vs, S') ∧ Abs h' S' ∧ k vs h' = some r
  | [], h, k, S, hf, ha => ⟨[], S, h, by simp only [evEs], ha, hf⟩
  | e :: es, h, k, S, hf, ha => by
    have hf : fE fcall e ce h (fun v h => fEs fcall es ce h fun vs h => k (v :: vs) h) = some r := hf
    obtain ⟨v, S1, h1, h2, h3, h4⟩ := fE_ok hc e hf ha
    obtain ⟨vs, S2, h', h5, h6, h7⟩ := fEs_ok hc es h4 h3
    exact ⟨v :: vs, S2, h', by simp only [evEs, h2, h5, Option.bind_some, Option.map_some], h6, h7⟩
end

theorem fSS_ok (hc : FOk fcall scall) : ∀ (ss : List SS) {ce : Env} {h : H} {k : Env → H → Option β} {S : St}, fSS fcall ss ce h k = some r → Abs h S →
    ∃ ce' S' h', exSS scall ss ce S = some (ce', S') ∧ Abs h' S' ∧ k ce' h' = some r ∧ ce'.length = ce.length
  | [], ce, h, k, S, hf, ha => ⟨ce, S, h, by simp only [exSS], ha, hf, rfl⟩
  | .set x e :: ss, ce, h, k, S, hf, ha => by
    have hf : fE fcall e ce h (fun v h => fSS fcall ss (putN ce x v) h k) = some r := hf
    obtain ⟨v, S1, h1, h2, h3, h4⟩ := fE_ok hc e hf ha
    simp only [putN_eq] at h4
    obtain ⟨ce', S2, h', h5, h6, h7, h8⟩ := fSS_ok hc ss h4 h3
    exact ⟨ce', S2, h', by simp only [exSS, h2, h5, Option.bind_some], h6, h7, by simpa using h8⟩
  | .ef e :: ss, ce, h, k, S, hf, ha => by
    have hf : fE fcall e ce h (fun v h => fSS fcall ss ce h k) = some r := hf
    obtain ⟨v, S1, h1, h2, h3, h4⟩ := fE_ok hc e hf ha
    obtain ⟨ce', S2, h', h5, h6, h7, h8⟩ := fSS_ok hc ss h4 h3
    exact ⟨ce', S2, h', by simp only [exSS, h2, h5, Option.bind_some], h6, h7, h8⟩

theorem fOpd_eq (ce : Env) (p : Opd) : fOpd ce p = p.ev ce := by
  cases p with
  | t i => exact nth_eq ce i
  | c v => rfl

theorem fOp_ok (hc : FOk fcall scall) {o : IOp} {ce : Env} {h : H} {k : K β} {S : St} (hf : fOp fcall o ce h k = some r) (ha : Abs h S) : Goes (exOp scall o ce) S k r := by
  have hm : o.args.map (fOpd ce) = o.args.map (·.ev ce) := List.map_congr_left fun p _ => fOpd_eq ce p
  unfold fOp at hf
  split at hf
  · rename_i hg
    rw [hm] at hf
    obtain ⟨v, S', h', h1, h2, h3⟩ := fAp_ok hc hf ha
    exact ⟨v, S', h', by simp only [exOp, hg, wanted]; exact h1, h2, h3⟩
  · rename_i g hg
    rw [hm, nth_eq] at hf
    unfold fGrd at hf
    obtain ⟨t, w⟩ := g
    split at hf
    · rename_i b hb
      have hb : ce.getD t (.tup []) = .bool b := hb
      have hcs : (b = w ∧ fAp fcall o.k (o.args.map (·.ev ce)) h k = some r) ∨ (b ≠ w ∧ k (.tup []) h = some r) := by
        cases b <;> cases w <;> first | exact .inl ⟨rfl, hf⟩ | exact .inr ⟨by decide, hf⟩
      rcases hcs with ⟨h0, hf⟩ | ⟨h0, hf⟩
      · obtain ⟨v, S', h', h1, h2, h3⟩ := fAp_ok hc hf ha
        exact ⟨v, S', h', by simp only [exOp, hg, wanted, hb, h0, beq_self_eq_true]; exact h1, h2, h3⟩
      · exact .here ha (by
          have : (b == w) = false := by simpa using h0
          simp only [exOp, hg, wanted, hb, this]) hf
    · rename_i us hb
      have hb : ce.getD t (.tup []) = .tup us := hb
      exact .here ha (by simp only [exOp, hg, wanted, hb]) hf
    · cases hf

theorem fPut_eq (d : Option Nat) (ce : Env) (v : AV) : fPut d ce v = setD ce d v := by
  cases d with
  | none => rfl
  | some d => exact putN_eq ce d v

theorem setD_len (d : Option Nat) (ce : Env) (v : AV) : (setD ce d v).length = ce.length := by
  cases d <;> simp [setD]

theorem fNone_ok : FOk (β := β) (fun _ _ _ _ => none) (fun _ _ _ => none) := fun _ _ _ _ _ _ h _ => by cases h

theorem fIts_ok (hc : FOk fcall scall) {ops : List IOp} : ∀ (its : List DItem) {ce : Env} {h : H} {k : Env → H → Option β} {S : St}, fIts fcall ops its ce h k = some r → Abs h S →
    ∃ ce' S' h', exItems scall ops its ce S = some (ce', S') ∧ Abs h' S' ∧ k ce' h' = some r ∧ ce'.length = ce.length
  | [], ce, h, k, S, hf, ha => ⟨ce, S, h, rfl, ha, hf, rfl⟩
  | .op i :: its, ce, h, k, S, hf, ha => by
    have hf : (match ops[i]? with
        | some o => fOp fcall o ce h fun v h => fIts fcall ops its (fPut o.dst ce v) h k
        | none => none) = some r := hf
    split at hf
    · rename_i o ho
      obtain ⟨v, S1, h1, h2, h3, h4⟩ := fOp_ok hc hf ha
      simp only [fPut_eq] at h4
      obtain ⟨ce', S2, h', h5, h6, h7, h8⟩ := fIts_ok hc its h4 h3
      exact ⟨ce', S2, h', by simp only [exItems, ho, h2, Option.bind_some]; exact h5, h6, h7, by rw [h8, setD_len]⟩
    · cases hf
  | .chk i :: its, ce, h, k, S, hf, ha => by
    have hf : (match ops[i]? with
        | some o => (match o.dst with
          | some d => fOp (fun _ _ _ _ => none) o ce h fun v _ => fChk v (nth ce d) (fIts fcall ops its ce h k)
          | none => none)
        | none => none) = some r := hf
    split at hf
    · rename_i o ho
      split at hf
      · rename_i d hd
        obtain ⟨v, S1, h1, h2, h3, h4⟩ := fOp_ok fNone_ok hf ha
        obtain ⟨h5, h6⟩ := cond_some h4
        rw [nth_eq] at h5
        obtain ⟨ce', S2, h', h7, h8, h9, h10⟩ := fIts_ok hc its h6 ha
        exact ⟨ce', S2, h', by simp only [exItems, ho, hd, h2, Option.bind_some, h5, if_true]; exact h7, h8, h9, h10⟩
      · cases hf
    · cases hf

theorem fKeep_go (live : List Nat) : ∀ (ce : Env) (i : Nat), fKeep live ce i = ce.mapIdx fun j v => if live.contains (i + j) then v else .any
  | [], i => by simp [fKeep]
  | v :: ce, i => by
    have h1 : fKeep live (v :: ce) i = cond (live.contains i) v .any :: fKeep live ce (Nat.succ i) := rfl
    rw [h1, fKeep_go live ce, List.mapIdx_cons]
    congr 1
    · cases live.contains (i + 0) <;> rfl
    · apply List.mapIdx_eq_mapIdx_iff.2
      intro j hj
      rw [show i.succ + j = i + (j + 1) by omega]

theorem fKeep_eq (live : List Nat) (ce : Env) : fKeep live ce 0 = keepLive live ce := by
  rw [fKeep_go]; simp only [keepLive, Nat.zero_add]

theorem keepLive_len (live : List Nat) (ce : Env) : (keepLive live ce).length = ce.length := by simp [keepLive]

theorem uncur_curry : ∀ (n : Nat) {f : Env → H → Option β} {ce : Env} {h : H}, uncur n (curry n f) ce h = some r → f ce h = some r ∧ ce.length = n
  | 0, f, [], h, hu => ⟨hu, rfl⟩
  | 0, f, x :: ce, h, hu => by cases hu
  | n + 1, f, [], h, hu => by cases hu
  | n + 1, f, x :: ce, h, hu => by
    have := uncur_curry n (f := fun xs => f (x :: xs)) (ce := ce) (h := h) hu
    exact ⟨this.1, by simp [this.2]⟩

/-- How a piece of code ended, and what goes on then. -/
def Ends (kn kr : Env → H → Option β) (kx : Nat → Env → H → Option β) (r : β) (x : Ex) (ce : Env) (h : H) : Prop := match x with
  | .normal => kn ce h = some r
  | .ret => kr ce h = some r
  | .exit id => kx id ce h = some r

theorem fC_ok (hc : FOk fcall scall) {N nv : Nat} : ∀ (c : SC) {ce : Env} {h : H} {kn kr : Env → H → Option β} {kx : Nat → Env → H → Option β} {S : St},
    fC fcall N nv c ce h kn kr kx = some r → ce.length = nv → Abs h S → ∃ x ce' S' h', exS scall N c ce S = some (x, ce', S') ∧ ce'.length = nv ∧ Abs h' S' ∧ Ends kn kr kx r x ce' h' := by
  intro c
  induction c with
  | skip => intro ce h kn kr kx S hf hl ha; exact ⟨.normal, ce, S, h, rfl, hl, ha, hf⟩
  | ret => intro ce h kn kr kx S hf hl ha; exact ⟨.ret, ce, S, h, rfl, hl, ha, hf⟩
  | exit id => intro ce h kn kr kx S hf hl ha; exact ⟨.exit id, ce, S, h, rfl, hl, ha, hf⟩
  | reg ss =>
    intro ce h kn kr kx S hf hl ha
    obtain ⟨ce', S', h', h1, h2, h3, h4⟩ := fSS_ok hc ss hf ha
    exact ⟨.normal, ce', S', h', by simp only [exS, h1, Option.map_some], h4.trans hl, h2, h3⟩
  | dreg lv ops its =>
    intro ce h kn kr kx S hf hl ha
    have hf : fIts fcall ops its (appF ce (List.replicate lv.length (.tup []))) h (fun ce h => kn (takeF nv ce) h) = some r := hf
    rw [appF_eq] at hf
    obtain ⟨ce', S', h', h1, h2, h3, h4⟩ := fIts_ok hc its hf ha
    rw [takeF_eq] at h3
    refine ⟨.normal, ce'.take ce.length, S', h', by simp only [exS, h1, Option.map_some], ?_, h2, by rw [hl]; exact h3⟩
    rw [List.length_take, h4, List.length_append]; omega
  | seq a b iha ihb =>
    intro ce h kn kr kx S hf hl ha
    have hf : cond (br a) (fJoin nv (curry nv fun ce h => fC fcall N nv b ce h kn kr kx) fun j => fC fcall N nv a ce h (uncur nv j) kr kx) (fC fcall N nv a ce h (fun ce h => fC fcall N nv b ce h kn kr kx) kr kx) = some r := hf
    have key : ∃ x ce' S' h', exS scall N a ce S = some (x, ce', S') ∧ ce'.length = nv ∧ Abs h' S' ∧ Ends (fun ce h => fC fcall N nv b ce h kn kr kx) kr kx r x ce' h' := by
      rcases cond_or hf with ⟨_, hf⟩ | ⟨_, hf⟩
      · obtain ⟨x, ce', S', h', h1, h2, h3, h4⟩ := iha hf hl ha
        refine ⟨x, ce', S', h', h1, h2, h3, ?_⟩
        cases x with
        | normal => exact (uncur_curry nv h4).1
        | ret => exact h4
        | exit id => exact h4
      · exact iha hf hl ha
    obtain ⟨x, ce', S', h', h1, h2, h3, h4⟩ := key
    cases x with
    | normal =>
      obtain ⟨x, ce2, S2, h2', h5, h6, h7, h8⟩ := ihb h4 h2 h3
      exact ⟨x, ce2, S2, h2', by simp only [exS, h1]; exact h5, h6, h7, h8⟩
    | ret => exact ⟨.ret, ce', S', h', by simp only [exS, h1], h2, h3, h4⟩
    | exit id => exact ⟨.exit id, ce', S', h', by simp only [exS, h1], h2, h3, h4⟩
  | cond c a b iha ihb =>
    intro ce h kn kr kx S hf hl ha
    have hf : fIf (fOpd ce c) (fC fcall N nv a ce h kn kr kx) (fC fcall N nv b ce h kn kr kx) = some r := hf
    rw [fOpd_eq] at hf
    rcases fIf_some hf with ⟨hv, hf⟩ | ⟨hv, hf⟩
    · obtain ⟨x, ce2, S2, h2', h5, h6, h7, h8⟩ := iha hf hl ha
      exact ⟨x, ce2, S2, h2', by simp only [exS, hv]; exact h5, h6, h7, h8⟩
    · obtain ⟨x, ce2, S2, h2', h5, h6, h7, h8⟩ := ihb hf hl ha
      exact ⟨x, ce2, S2, h2', by simp only [exS, hv]; exact h5, h6, h7, h8⟩
  | ifr ss e a b iha ihb =>
    intro ce h kn kr kx S hf hl ha
    have hf : fSS fcall ss ce h (fun ce h => fE fcall e ce h fun v h => fIf v (fC fcall N nv a ce h kn kr kx) (fC fcall N nv b ce h kn kr kx)) = some r := hf
    obtain ⟨ce1, S1, h1', h1, h2, h3, h4⟩ := fSS_ok hc ss hf ha
    obtain ⟨v, S2, h2', h5, h6, h7⟩ := fE_ok hc e h3 h2
    rcases fIf_some h7 with ⟨rfl, hf⟩ | ⟨rfl, hf⟩
    · obtain ⟨x, ce3, S3, h3', h8, h9, h10, h11⟩ := iha hf (h4.trans hl) h6
      exact ⟨x, ce3, S3, h3', by simp only [exS, h1, h5, Option.bind_some]; exact h8, h9, h10, h11⟩
    · obtain ⟨x, ce3, S3, h3', h8, h9, h10, h11⟩ := ihb hf (h4.trans hl) h6
      exact ⟨x, ce3, S3, h3', by simp only [exS, h1, h5, Option.bind_some]; exact h8, h9, h10, h11⟩
  | block id c ih =>
    intro ce h kn kr kx S hf hl ha
    have hf : fC fcall N nv c ce h kn kr (fun id' ce h => cond (Nat.beq id' id) (kn ce h) (kx id' ce h)) = some r := hf
    obtain ⟨x, ce', S', h', h1, h2, h3, h4⟩ := ih hf hl ha
    cases x with
    | normal => exact ⟨.normal, ce', S', h', by simp only [exS, h1], h2, h3, h4⟩
    | ret => exact ⟨.ret, ce', S', h', by simp only [exS, h1], h2, h3, h4⟩
    | exit id' =>
      have h4 : cond (Nat.beq id' id) (kn ce' h') (kx id' ce' h') = some r := h4
      rw [cond_beq] at h4
      by_cases hid : id' = id
      · rw [if_pos hid] at h4; exact ⟨.normal, ce', S', h', by simp only [exS, h1, if_pos hid], h2, h3, h4⟩
      · rw [if_neg hid] at h4; exact ⟨.exit id', ce', S', h', by simp only [exS, h1, if_neg hid], h2, h3, h4⟩
  | loop live c ih =>
    intro ce h kn kr kx S hf hl ha
    have key : ∀ (M : Nat) (ce : Env) (h : H) (S : St), uncur nv (fLoop nv M fun again => curry nv fun ce h => fC fcall N nv c (fKeep live ce 0) h (uncur nv again) kr kx) ce h = some r → ce.length = nv → Abs h S →
        ∃ x ce' S' h', iter (fun ce S => exS scall N c (keepLive live ce) S) M ce S = some (x, ce', S') ∧ ce'.length = nv ∧ Abs h' S' ∧ Ends kn kr kx r x ce' h' := by
      intro M
      induction M with
      | zero =>
        intro ce h S hf hl ha
        have hf : uncur nv (curry nv fun _ _ => none) ce h = some r := hf
        cases (uncur_curry nv hf).1
      | succ M ihM =>
        intro ce h S hf hl ha
        have hf : uncur nv (curry nv fun ce h => fC fcall N nv c (fKeep live ce 0) h (uncur nv (fLoop nv M fun again => curry nv fun ce h => fC fcall N nv c (fKeep live ce 0) h (uncur nv again) kr kx)) kr kx) ce h = some r := hf
        have hf := (uncur_curry nv hf).1
        rw [fKeep_eq] at hf
        obtain ⟨x, ce', S', h', h1, h2, h3, h4⟩ := ih hf ((keepLive_len live ce).trans hl) ha
        cases x with
        | normal =>
          obtain ⟨x, ce2, S2, h2', h5, h6, h7, h8⟩ := ihM _ _ _ h4 h2 h3
          exact ⟨x, ce2, S2, h2', by simp only [iter, h1]; exact h5, h6, h7, h8⟩
        | ret => exact ⟨.ret, ce', S', h', by simp only [iter, h1], h2, h3, h4⟩
        | exit id => exact ⟨.exit id, ce', S', h', by simp only [iter, h1], h2, h3, h4⟩
    exact key N ce h S hf hl ha

theorem fRes_ok {h : H} {S : St} (ha : Abs h S) {ce : Env} : ∀ (res : List IRes) {k : List AV → Option β}, fRes res ce h k = some r → ∃ vs, exRes ce S res = some vs ∧ k vs = some r
  | [], k, hf => ⟨[], rfl, hf⟩
  | .tmp t :: rs, k, hf => by
    have hf : fRes rs ce h (fun vs => k (nth ce t :: vs)) = some r := hf
    obtain ⟨vs, h1, h2⟩ := fRes_ok ha rs hf
    rw [nth_eq] at h2
    exact ⟨_, by simp only [exRes, h1, Option.bind_some, Option.map_some], h2⟩
  | .cell1 t :: rs, k, hf => by
    have hf : fLoad1 (nth ce t) h (fun v => fRes rs ce h fun vs => k (v :: vs)) = some r := hf
    obtain ⟨b, o, v, h1, h2, h3⟩ := fLoad1_ok ha hf
    obtain ⟨vs, h4, h5⟩ := fRes_ok ha rs h3
    rw [nth_eq] at h1
    exact ⟨_, by simp only [exRes, h1, h2, h4, Option.bind_some, Option.map_some], h5⟩
  | .cellN t n :: rs, k, hf => by
    have hf : fLoadN n (nth ce t) h (fun v => fRes rs ce h fun vs => k (v :: vs)) = some r := hf
    obtain ⟨b, o, v, h1, h2, h3⟩ := fLoadN_ok ha hf
    obtain ⟨vs, h4, h5⟩ := fRes_ok ha rs h3
    rw [nth_eq] at h1
    exact ⟨_, by simp only [exRes, h1, h2, h4, Option.bind_some, Option.map_some], h5⟩

/-- What is taken whole does what its reading says. -/
def IOk (T : Nat → Option SFn) (I : FI) : Prop := ∀ g f, T g = some (.intr f) → ∀ args h v h' S, I g args h = some (v, h') → Abs h S → ∃ S', f args S = some (v, S') ∧ Abs h' S'

theorem fRun_ok {T : Nat → Option SFn} {I : FI} (hI : IOk T I) : ∀ n, FOk (β := β) (fRun T I n) (runS T n)
  | 0 => fun f vs h k r S hf ha => by cases hf
  | n + 1 => fun f vs h k r S hf ha => by
    have ih := fRun_ok hI n
    cases f with
    | fn g caps =>
      have hf : (match T g with
        | some fn => fBody I g fn n (fRun T I n) (appF vs caps) h k
        | none => none) = some r := hf
      rw [appF_eq] at hf
      split at hf
      · rename_i fn hT
        cases fn with
        | intr f =>
          have hf : fInt I g (vs ++ caps) h k = some r := hf
          obtain ⟨q, h1, h2⟩ := oSome_some hf
          obtain ⟨S', h3, h4⟩ := hI g f hT _ _ _ _ _ h1 ha
          refine ⟨q.1, S', q.2, ?_, h4, h2⟩
          unfold runS
          simp only [hT, h3]
        | src nt vm res body =>
          have hf : fC (fRun T I n) n (lenF vm) body (vm.map (nth (vs ++ caps))) h (fun ce h => fRes res ce h fun vs => k (one vs) h) (fun ce h => fRes res ce h fun vs => k (one vs) h) (fun _ _ _ => none) = some r := hf
          obtain ⟨x, ce', S', h', h1, h2, h3, h4⟩ := fC_ok ih body hf (by simp [lenF_eq]) ha
          have hvm : vm.map (nth (vs ++ caps)) = vm.map fun t => (vs ++ caps).getD t (.tup []) := List.map_congr_left fun t _ => nth_eq _ t
          rw [hvm] at h1
          cases x with
          | normal =>
            obtain ⟨us, h5, h6⟩ := fRes_ok h3 res h4
            refine ⟨_, S', h', ?_, h3, h6⟩
            unfold runS
            simp only [hT, h1, h5, Option.map_some]
          | ret =>
            obtain ⟨us, h5, h6⟩ := fRes_ok h3 res h4
            refine ⟨_, S', h', ?_, h3, h6⟩
            unfold runS
            simp only [hT, h1, h5, Option.map_some]
          | exit id => cases h4
      · cases hf
    | _ => cases hf

/-- A run by continuations that ends is a run. -/
theorem fRunS_ok {t : ETree} {I : FI} (hI : IOk t.T I) {n : Nat} {f : AV} {vs : List AV} {h : H} {k : K β} {S : St} (hf : fRunS t I n f vs h k = some r) (ha : Abs h S) : Goes (runS t.T n f vs) S k r := by
  rw [fRunS_eq] at hf; exact fRun_ok hI n _ _ _ _ _ _ hf ha
end
end Am.F
