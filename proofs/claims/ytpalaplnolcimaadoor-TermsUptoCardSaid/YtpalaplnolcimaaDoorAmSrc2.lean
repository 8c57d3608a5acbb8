/- Code with expressions: statements, functions. -/
import Derived.Test.YtpalaplnolcimaaDoorAmSrc
namespace Am
open Go

section
variable {call : Call} {vm : List Nat} {nt : Nat}

/-- Of the variables' places: no two alike, all of them there. -/
structure Vars (vm : List Nat) (nt : Nat) : Prop where
  nodup : vm.Nodup
  lt : ∀ t ∈ vm, t < nt

theorem tm_mem {x : Nat} (h : x < vm.length) : tm vm x ∈ vm := by
  unfold tm; rw [List.getD_eq_getElem?_getD, List.getElem?_eq_getElem h]; exact List.getElem_mem h

theorem Vars.inj (h : Vars vm nt) {x y : Nat} (hx : x < vm.length) (hy : y < vm.length) (he : tm vm x = tm vm y) : x = y := by
  unfold tm at he
  rw [List.getD_eq_getElem?_getD, List.getD_eq_getElem?_getD, List.getElem?_eq_getElem hx, List.getElem?_eq_getElem hy] at he
  have he : vm[x] = vm[y] := by simpa using he
  have hp := List.pairwise_iff_getElem.1 h.nodup
  rcases Nat.lt_trichotomy x y with hlt | heq | hgt
  · exact absurd he (hp x y hx hy hlt)
  · exact heq
  · exact absurd he.symm (hp y x hy hx hgt)

theorem mem_tm {t : Nat} (h : t ∈ vm) : ∃ x, x < vm.length ∧ tm vm x = t := by
  obtain ⟨x, hx, he⟩ := List.mem_iff_getElem.1 h
  exact ⟨x, hx, by unfold tm; rw [List.getD_eq_getElem?_getD, List.getElem?_eq_getElem hx]; simpa using he⟩

theorem getD_set_eq (e : Env) (d : Nat) (v : AV) (t : Nat) : (e.set d v).getD t (.tup []) = if d = t ∧ d < e.length then v else e.getD t (.tup []) := by
  simp only [List.getD_eq_getElem?_getD, List.getElem?_set]
  by_cases h1 : d = t
  · subst h1
    by_cases h2 : d < e.length
    · simp [h2]
    · simp [h2]
  · simp [h1]

theorem root_where (g : Option (Nat × Bool)) {x : SE} {t : Nat} (h : x.root = some t) : x.hasT = true ∧ (flE vm g x).2 = .t t := by
  cases x with
  | v y m => simp only [SE.root] at h; subst h; exact ⟨rfl, rfl⟩
  | k c => simp [SE.root] at h
  | op d f args => simp only [SE.root] at h; subst h; exact ⟨rfl, rfl⟩
  | opr d f a b => simp only [SE.root] at h; subst h; exact ⟨rfl, rfl⟩
  | and m p a b => simp only [SE.root] at h; cases h; exact ⟨rfl, rfl⟩
  | or m p a b => simp only [SE.root] at h; cases h; exact ⟨rfl, rfl⟩

theorem all_lt {ts : List Nat} (h : (ts.all fun t => decide (t < nt)) = true) : ∀ t ∈ ts, t < nt := by
  intro t ht; simp only [List.all_eq_true] at h; simpa using h t ht

theorem noVar_of {ts : List Nat} (h : (ts.all fun t => !vm.contains t) = true) : NoVar vm ts := by
  intro t ht y hy he
  simp only [List.all_eq_true] at h
  have := h t ht
  rw [Bool.not_eq_true', ← Bool.not_eq_true, List.contains_iff_mem] at this
  exact this (he ▸ tm_mem hy)

theorem ef_ok {ce e : Env} {S S' : St} {x : SE} {v : AV} (hx : evE call ce x S = some (v, S')) (hA : At vm nt ce e) (hok : okS vm nt (.ef x) = true) :
    ∃ e', exOps call (flE vm none x).1 e S = some (e', S') ∧ At vm nt ce e' ∧ (x.hasT = true → (flE vm none x).2.ev e' = v) := by
  simp only [okS, Bool.and_eq_true] at hok
  obtain ⟨⟨⟨h1, h2⟩, h3⟩, h4⟩ := hok
  have hnv := noVar_of h4
  obtain ⟨e', h5, h6, h7⟩ := evE_ok x none e S v S' hx hA h1 (nodupB_iff.1 h2) (all_lt h3) (fun t ht _ => hnv t ht) rfl (fun t w h => by cases h)
  exact ⟨e', h5, hA.same h6 hnv, h7⟩

theorem exSS_ok (hV : Vars vm nt) : ∀ (ss : List SS) (ce e : Env) (S : St) (ce' : Env) (S' : St), exSS call ss ce S = some (ce', S') → At vm nt ce e → ss.all (okS vm nt) = true →
    ∃ e', exOps call (flSS vm ss) e S = some (e', S') ∧ At vm nt ce' e'
  | [], ce, e, S, ce', S', h, hA, _ => by simp only [exSS] at h; cases h; exact ⟨e, by simp [flSS, exOps], hA⟩
  | .set x q :: ss, ce, e, S, ce', S', h, hA, hok => by
    simp only [exSS, Option.bind_eq_some_iff] at h
    obtain ⟨⟨v, S1⟩, h1, h2⟩ := h
    simp only [List.all_cons, Bool.and_eq_true] at hok
    obtain ⟨hok1, hok2⟩ := hok
    simp only [okS, Bool.and_eq_true] at hok1
    obtain ⟨⟨⟨⟨⟨h3, h4⟩, h5⟩, h6⟩, h7⟩, h8⟩ := hok1
    have hroot : q.root = some (tm vm x) := by simpa using h7
    have hx : x < vm.length := by simpa using h3
    have hwr : ∀ t ∈ wrE q, ∀ y, y < vm.length → tm vm y = t → y = x := by
      intro t ht y hy he
      simp only [List.all_eq_true] at h8
      have h9 := h8 t ht
      simp only [Bool.or_eq_true, Bool.not_eq_true', beq_iff_eq] at h9
      rcases h9 with h9 | h9
      · rw [← Bool.not_eq_true, List.contains_iff_mem] at h9; exact absurd (he ▸ tm_mem hy) h9
      · exact hV.inj hy hx (he.trans h9)
    obtain ⟨e1, h9, h10, h11⟩ := evE_ok q none e S v S1 h1 hA h4 (nodupB_iff.1 h5) (all_lt h6) (fun t ht hne y hy he => hne (hroot.trans (congrArg some ((hwr t ht y hy he) ▸ he)))) rfl (fun t w h => by cases h)
    obtain ⟨hT, hr⟩ := root_where (vm := vm) none hroot
    have hval := h11 hT
    rw [hr] at hval
    have hA1 : At vm nt (ce.set x v) e1 := by
      refine ⟨by simp [hA.len], by rw [h10.1]; exact hA.nt, fun y hy => ?_⟩
      rw [getD_set_eq]
      by_cases hxy : x = y
      · subst hxy
        rw [if_pos ⟨rfl, by rw [hA.len]; exact hx⟩]
        exact hval
      · rw [if_neg fun h => hxy h.1, h10.2 _ fun hm => hxy (hwr _ hm y hy rfl).symm]
        exact hA.at_ y hy
    obtain ⟨e2, h12, h13⟩ := exSS_ok hV ss _ e1 S1 ce' S' h2 hA1 hok2
    exact ⟨e2, by simp only [flSS, exOps_append, SS.e, h9, Option.bind_some, h12], h13⟩
  | .ef q :: ss, ce, e, S, ce', S', h, hA, hok => by
    simp only [exSS, Option.bind_eq_some_iff] at h
    obtain ⟨⟨v, S1⟩, h1, h2⟩ := h
    simp only [List.all_cons, Bool.and_eq_true] at hok
    obtain ⟨e1, h3, h4, _⟩ := ef_ok h1 hA hok.1
    obtain ⟨e2, h12, h13⟩ := exSS_ok hV ss _ e1 S1 ce' S' h2 h4 hok.2
    exact ⟨e2, by simp only [flSS, exOps_append, SS.e, h3, Option.bind_some, h12], h13⟩

theorem opd_rn {ce e : Env} (hA : At vm nt ce e) {p : Opd} (hp : okO vm.length p = true) : (rnO vm p).ev e = p.ev ce := by
  cases p with
  | t x => simp only [okO, decide_eq_true_eq] at hp; exact hA.at_ x hp
  | c v => rfl

theorem exOp_rn {ce e : Env} (hA : At vm nt ce e) {o : IOp} (ho : okI vm.length o = true) (call : Call) (S : St) : exOp call (rnI vm o) e S = exOp call o ce S := by
  simp only [okI, Bool.and_eq_true] at ho
  obtain ⟨⟨_, h2⟩, h3⟩ := ho
  have hw : wanted e (rnI vm o).guard = wanted ce o.guard := by
    simp only [rnI]
    cases hg : o.guard with
    | none => rfl
    | some g =>
      rw [hg] at h3
      simp only [decide_eq_true_eq] at h3
      simp only [Option.map_some, wanted, hA.at_ g.1 h3]
  have ha : (rnI vm o).args.map (·.ev e) = o.args.map (·.ev ce) := by
    simp only [rnI, List.map_map]
    refine List.map_congr_left fun p hp => ?_
    simp only [List.all_eq_true] at h2
    exact opd_rn hA (h2 p hp)
  simp only [exOp, hw, ha]
  rfl

theorem at_setD (hV : Vars vm nt) {ce e : Env} (hA : At vm nt ce e) {d : Option Nat} (hd : ∀ x, d = some x → x < vm.length) (v : AV) : At vm nt (setD ce d v) (setD e (d.map (tm vm)) v) := by
  cases d with
  | none => exact hA
  | some x =>
    have hx := hd x rfl
    refine ⟨by simp [setD, hA.len], by simpa [setD] using hA.nt, fun y hy => ?_⟩
    simp only [setD, Option.map_some, getD_set_eq]
    by_cases hxy : x = y
    · subst hxy
      rw [if_pos ⟨rfl, Nat.lt_of_lt_of_le (hV.lt _ (tm_mem hx)) hA.nt⟩, if_pos ⟨rfl, by rw [hA.len]; exact hx⟩]
    · rw [if_neg fun h => hxy (hV.inj hx hy h.1), if_neg fun h => hxy h.1]
      exact hA.at_ y hy

theorem exItems_rn (hV : Vars vm nt) {ops : List IOp} (hok : ops.all (okI vm.length) = true) : ∀ (its : List DItem) (ce e : Env) (S : St) (ce' : Env) (S' : St), exItems call ops its ce S = some (ce', S') → At vm nt ce e →
    ∃ e', exItems call (ops.map (rnI vm)) its e S = some (e', S') ∧ At vm nt ce' e'
  | [], ce, e, S, ce', S', h, hA => by simp only [exItems] at h; cases h; exact ⟨e, rfl, hA⟩
  | .op i :: its, ce, e, S, ce', S', h, hA => by
    simp only [exItems] at h
    split at h
    · rename_i o ho
      have hoo : okI vm.length o = true := by simp only [List.all_eq_true] at hok; exact hok o (List.mem_of_getElem? ho)
      simp only [Option.bind_eq_some_iff] at h
      obtain ⟨⟨v, S1⟩, h1, h2⟩ := h
      have hA1 := at_setD hV hA (d := o.dst) (fun x hx => by simp only [okI, Bool.and_eq_true, hx] at hoo; simpa using hoo.1.1) v
      obtain ⟨e', h3, h4⟩ := exItems_rn hV hok its _ _ S1 ce' S' h2 hA1
      refine ⟨e', ?_, h4⟩
      simp only [exItems, List.getElem?_map, ho, Option.map_some, exOp_rn hA hoo, h1, Option.bind_some]
      exact h3
    · cases h
  | .chk i :: its, ce, e, S, ce', S', h, hA => by
    simp only [exItems] at h
    split at h
    · rename_i o ho
      have hoo : okI vm.length o = true := by simp only [List.all_eq_true] at hok; exact hok o (List.mem_of_getElem? ho)
      split at h
      · rename_i d hd
        have hdl : d < vm.length := by simp only [okI, Bool.and_eq_true, hd] at hoo; simpa using hoo.1.1
        simp only [Option.bind_eq_some_iff] at h
        obtain ⟨⟨v, S1⟩, h1, h2⟩ := h
        split at h2
        · rename_i hb
          obtain ⟨e', h3, h4⟩ := exItems_rn hV hok its _ _ S ce' S' h2 hA
          refine ⟨e', ?_, h4⟩
          simp only [exItems, List.getElem?_map, ho, Option.map_some, exOp_rn hA hoo, h1, Option.bind_some]
          simp only [rnI, hd, Option.map_some, hA.at_ d hdl, hb, if_true]
          exact h3
        · cases h2
      · cases h
    · cases h

/-- What is nobody's to look at does not count. -/
theorem items_loc {ops : List IOp} {nv : Nat} : ∀ (its : List DItem) (W : List Nat) (e1 e2 : Env) (S : St) (e1' : Env) (S' : St), (∀ x, x < nv ∨ x ∈ W → e1.getD x (.tup []) = e2.getD x (.tup [])) → e1.length = e2.length →
    okLoc nv ops W its = true → exItems call ops its e1 S = some (e1', S') → ∃ e2', exItems call ops its e2 S = some (e2', S') ∧ e1'.length = e2'.length ∧ e1'.length = e1.length ∧ ∀ x, x < nv → e1'.getD x (.tup []) = e2'.getD x (.tup [])
  | [], W, e1, e2, S, e1', S', he, hl, _, h => by simp only [exItems] at h; cases h; exact ⟨e2, rfl, hl, rfl, fun x hx => he x (.inl hx)⟩
  | .op i :: its, W, e1, e2, S, e1', S', he, hl, hok, h => by
    simp only [exItems] at h
    split at h
    · rename_i o ho
      simp only [okLoc, ho, Bool.and_eq_true] at hok
      simp only [Option.bind_eq_some_iff] at h
      obtain ⟨⟨v, S1⟩, h1, h2⟩ := h
      have hr : ∀ t ∈ o.reads, e1.getD t (.tup []) = e2.getD t (.tup []) := by
        intro t ht
        have h3 := hok.1
        simp only [List.all_eq_true, Bool.or_eq_true, decide_eq_true_eq, List.contains_iff_mem] at h3
        exact he t (h3 t ht)
      have he' : ∀ x, x < nv ∨ x ∈ o.dst.toList ++ W → (setD e1 o.dst v).getD x (.tup []) = (setD e2 o.dst v).getD x (.tup []) := by
        intro x hx
        cases hd : o.dst with
        | none => rw [hd] at hx; exact he x (by simpa using hx)
        | some d =>
          simp only [setD, getD_set_eq, hl]
          by_cases hdx : d = x
          · subst hdx
            by_cases hlt : d < e2.length
            · simp [hlt]
            · have a1 : e1[d]? = none := by simp; omega
              have a2 : e2[d]? = none := by simp; omega
              simp [List.getD_eq_getElem?_getD, a1, a2]
          · simp only [hdx, false_and, if_false]
            refine he x ?_
            rw [hd] at hx
            rcases hx with hx | hx
            · exact .inl hx
            · simp only [Option.toList_some, List.cons_append, List.nil_append, List.mem_cons] at hx
              rcases hx with hx | hx
              · exact absurd hx.symm hdx
              · exact .inr hx
      obtain ⟨e2', h3, h4, h5, h6⟩ := items_loc its _ _ _ S1 e1' S' he' (by rw [setD_length, setD_length, hl]) hok.2 h2
      refine ⟨e2', ?_, h4, by rw [h5, setD_length], h6⟩
      simp only [exItems, ho, ← exOp_congr hr, h1, Option.bind_some]
      exact h3
    · cases h
  | .chk i :: its, W, e1, e2, S, e1', S', he, hl, hok, h => by
    simp only [exItems] at h
    split at h
    · rename_i o ho
      simp only [okLoc, ho, Bool.and_eq_true] at hok
      split at h
      · rename_i d hd
        simp only [Option.bind_eq_some_iff] at h
        obtain ⟨⟨v, S1⟩, h1, h2⟩ := h
        have hr : ∀ t ∈ o.reads, e1.getD t (.tup []) = e2.getD t (.tup []) := by
          intro t ht
          have h3 := hok.1.1
          simp only [List.all_eq_true, Bool.or_eq_true, decide_eq_true_eq, List.contains_iff_mem] at h3
          exact he t (h3 t ht)
        have hdd : e1.getD d (.tup []) = e2.getD d (.tup []) := by
          have h3 := hok.1.2
          simp only [hd, Option.toList_some, List.all_cons, List.all_nil, Bool.and_true, Bool.or_eq_true, decide_eq_true_eq, List.contains_iff_mem] at h3
          exact he d h3
        split at h2
        · rename_i hb
          obtain ⟨e2', h3, h4, h5, h6⟩ := items_loc its W e1 e2 S e1' S' he hl hok.2 h2
          refine ⟨e2', ?_, h4, h5, h6⟩
          simp only [exItems, ho, hd, ← exOp_congr hr, h1, Option.bind_some, ← hdd, hb, if_true]
          exact h3
        · cases h2
      · cases h
    · cases h

theorem dreg_ok (hV : Vars vm nt) {lv : List Nat} {ops : List IOp} {its : List DItem} {ce e ce1 : Env} {S S' : St} (hok : okC vm nt (.dreg lv ops its) = true) (hA : At vm nt ce e)
    (h : exItems call ops its (ce ++ List.replicate lv.length (.tup [])) S = some (ce1, S')) : ∃ e', exItems call (ops.map (rnI (vm ++ lv))) its e S = some (e', S') ∧ At vm nt (ce1.take ce.length) e' := by
  simp only [okC, Bool.and_eq_true] at hok
  obtain ⟨⟨⟨h1, h2⟩, h3⟩, h4⟩ := hok
  have hV' : Vars (vm ++ lv) nt := ⟨nodupB_iff.1 h2, fun t ht => by
    rcases List.mem_append.1 ht with h | h
    · exact hV.lt t h
    · exact all_lt h3 t h⟩
  have hA' : At (vm ++ lv) nt (ce ++ lv.map fun t => e.getD t (.tup [])) e := by
    refine ⟨by simp [hA.len], hA.nt, fun x hx => ?_⟩
    by_cases hxv : x < vm.length
    · have : tm (vm ++ lv) x = tm vm x := by simp only [tm, List.getD_eq_getElem?_getD, List.getElem?_append_left hxv]
      rw [this, hA.at_ x hxv, List.getD_eq_getElem?_getD, List.getD_eq_getElem?_getD, List.getElem?_append_left (by rw [hA.len]; exact hxv)]
    · have hx2 : x - vm.length < lv.length := by simp at hx; omega
      have h5 : tm (vm ++ lv) x = lv[x - vm.length] := by
        simp only [tm, List.getD_eq_getElem?_getD]
        rw [List.getElem?_append_right (by omega), List.getElem?_eq_getElem hx2]; rfl
      rw [h5, List.getD_eq_getElem?_getD (l := ce ++ _), List.getElem?_append_right (by rw [hA.len]; omega), hA.len, List.getElem?_map, List.getElem?_eq_getElem hx2]
      rfl
  obtain ⟨e2', h5, h6, h7, h8⟩ := items_loc (call := call) its [] (ce ++ List.replicate lv.length (.tup [])) (ce ++ lv.map fun t => e.getD t (.tup [])) S ce1 S' (fun x hx => by
    rcases hx with hx | hx
    · rw [List.getD_eq_getElem?_getD, List.getD_eq_getElem?_getD, List.getElem?_append_left (by rw [hA.len]; exact hx), List.getElem?_append_left (by rw [hA.len]; exact hx)]
    · cases hx) (by simp) h4 h
  obtain ⟨e', h9, h10⟩ := exItems_rn hV' h1 its _ e S e2' S' h5 hA'
  refine ⟨e', h9, ?_⟩
  have hl1 : ce1.length = ce.length + lv.length := by rw [h7]; simp
  refine ⟨by rw [List.length_take, hl1, hA.len]; omega, h10.nt, fun x hx => ?_⟩
  have hxl : x < (vm ++ lv).length := by simp; omega
  have h11 := h10.at_ x hxl
  have : tm (vm ++ lv) x = tm vm x := by simp only [tm, List.getD_eq_getElem?_getD, List.getElem?_append_left hx]
  rw [this] at h11
  rw [h11, ← h8 x hx, List.getD_eq_getElem?_getD, List.getD_eq_getElem?_getD, List.getElem?_take, if_pos (by rw [hA.len]; exact hx)]

theorem keepLive_at (hV : Vars vm nt) {ce e : Env} (hA : At vm nt ce e) {live : List Nat} (hl : (live.all fun x => decide (x < vm.length)) = true) : At vm nt (keepLive live ce) (keepLive (live.map (tm vm)) e) := by
  refine ⟨by simp [keepLive, hA.len], by simpa [keepLive] using hA.nt, fun x hx => ?_⟩
  have h1 : x < ce.length := by rw [hA.len]; exact hx
  have h2 : tm vm x < e.length := Nat.lt_of_lt_of_le (hV.lt _ (tm_mem hx)) hA.nt
  have h3 := hA.at_ x hx
  simp only [keepLive, List.getD_eq_getElem?_getD, List.getElem?_mapIdx, List.getElem?_eq_getElem h1, List.getElem?_eq_getElem h2, Option.map_some, Option.getD_some] at h3 ⊢
  rw [h3]
  have : (live.map (tm vm)).contains (tm vm x) = live.contains x := by
    rw [Bool.eq_iff_iff, List.contains_iff_mem, List.contains_iff_mem, List.mem_map]
    constructor
    · rintro ⟨y, hy, he⟩
      simp only [List.all_eq_true] at hl
      have := hV.inj (by simpa using hl y hy) hx he
      exact this ▸ hy
    · intro h; exact ⟨x, h, rfl⟩
  rw [this]

theorem iter_at {ce0 : Env} {f : Env → St → Option (Ex × Env × St)} {g : Loc → St → Option (Ex × Loc × St)}
    (hfg : ∀ (ce : Env) (l : Loc) (S : St) (x : Ex) (ce' : Env) (S' : St), f ce S = some (x, ce', S') → At vm nt ce l.e → ∃ l', g l S = some (x, l', S') ∧ At vm nt ce' l'.e ∧ l'.ds = l.ds) :
    ∀ (n : Nat) (ce : Env) (l : Loc) (S : St) (x : Ex) (ce' : Env) (S' : St), iter f n ce S = some (x, ce', S') → At vm nt ce l.e → ∃ l', iter g n l S = some (x, l', S') ∧ At vm nt ce' l'.e ∧ l'.ds = l.ds
  | 0, ce, l, S, x, ce', S', h, _ => by simp [iter] at h
  | n + 1, ce, l, S, x, ce', S', h, hA => by
    simp only [iter] at h ⊢
    split at h
    · rename_i ce1 S1 h1
      obtain ⟨l1, h2, h3, hd1⟩ := hfg ce l S _ _ _ h1 hA
      obtain ⟨l2, h4, h5, hd2⟩ := iter_at (ce0 := ce0) hfg n ce1 l1 S1 x ce' S' h h3
      exact ⟨l2, by rw [h2]; exact h4, h5, hd2.trans hd1⟩
    · rename_i hnn
      obtain ⟨l1, h2, h3, hd1⟩ := hfg ce l S _ _ _ h hA
      refine ⟨l1, ?_, h3, hd1⟩
      rw [h2]
      cases x with
      | normal => exact absurd h (hnn _ _)
      | _ => rfl

theorem exS_ok (hV : Vars vm nt) {N : Nat} : ∀ (c : SC) (ce : Env) (l : Loc) (S : St) (x : Ex) (ce' : Env) (S' : St), exS call N c ce S = some (x, ce', S') → At vm nt ce l.e → okC vm nt c = true →
    ∃ l', exC call N (flC vm c) l S = some (x, l', S') ∧ At vm nt ce' l'.e ∧ l'.ds = l.ds := by
  intro c
  induction c with
  | skip => intro ce l S x ce' S' h hA _; simp only [exS] at h; cases h; exact ⟨l, rfl, hA, rfl⟩
  | ret => intro ce l S x ce' S' h hA _; simp only [exS] at h; cases h; exact ⟨l, rfl, hA, rfl⟩
  | exit id => intro ce l S x ce' S' h hA _; simp only [exS] at h; cases h; exact ⟨l, rfl, hA, rfl⟩
  | reg ss =>
    intro ce l S x ce' S' h hA hok
    simp only [exS, Option.map_eq_some_iff] at h
    obtain ⟨⟨ce1, S1⟩, h1, h2⟩ := h
    cases h2
    obtain ⟨e', h3, h4⟩ := exSS_ok hV ss ce l.e S _ _ h1 hA hok
    exact ⟨{ l with e := e' }, by simp only [flC, exC, h3, Option.map_some], h4, rfl⟩
  | dreg lv ops its =>
    intro ce l S x ce' S' h hA hok
    simp only [exS, Option.map_eq_some_iff] at h
    obtain ⟨⟨ce1, S1⟩, h1, h2⟩ := h
    cases h2
    obtain ⟨e', h3, h4⟩ := dreg_ok hV hok hA h1
    exact ⟨{ l with e := e' }, by simp only [flC, exC, h3, Option.map_some], h4, rfl⟩
  | seq a b iha ihb =>
    intro ce l S x ce' S' h hA hok
    simp only [okC, Bool.and_eq_true] at hok
    simp only [exS] at h
    simp only [flC, exC]
    split at h
    · rename_i ce1 S1 h1
      obtain ⟨l1, h2, h3, hd1⟩ := iha ce l S _ _ _ h1 hA hok.1
      obtain ⟨l2, h4, h5, hd2⟩ := ihb ce1 l1 S1 _ _ _ h h3 hok.2
      exact ⟨l2, by rw [h2]; exact h4, h5, hd2.trans hd1⟩
    · rename_i hnn
      obtain ⟨l1, h2, h3, hd1⟩ := iha ce l S _ _ _ h hA hok.1
      refine ⟨l1, ?_, h3, hd1⟩
      rw [h2]
      cases x with
      | normal => exact absurd h (hnn _ _)
      | _ => rfl
  | cond c a b iha ihb =>
    intro ce l S x ce' S' h hA hok
    simp only [okC, Bool.and_eq_true] at hok
    simp only [exS] at h
    simp only [flC, exC, opd_rn hA hok.1]
    split at h
    · rename_i hc; rw [hc]; exact iha ce l S _ _ _ h hA hok.2.1
    · rename_i hc; rw [hc]; exact ihb ce l S _ _ _ h hA hok.2.2
    · cases h
  | ifr ss e a b iha ihb =>
    intro ce l S x ce' S' h hA hok
    simp only [okC, Bool.and_eq_true] at hok
    obtain ⟨⟨⟨h1, h2⟩, hT⟩, h3, h4⟩ := hok
    simp only [exS, Option.bind_eq_some_iff] at h
    obtain ⟨⟨ce1, S1⟩, h5, ⟨v, S2⟩, h6, h7⟩ := h
    obtain ⟨e1, h8, h9⟩ := exSS_ok hV ss ce l.e S _ _ h5 hA h1
    obtain ⟨e2, h10, h11, h12⟩ := ef_ok h6 h9 h2
    have hreg : exC call N (.reg (flSS vm ss ++ (flE vm none e).1)) l S = some (.normal, { l with e := e2 }, S2) := by
      simp only [exC, exOps_append, h8, Option.bind_some, h10, Option.map_some]
    simp only [flC, exC] at hreg ⊢
    rw [hreg]
    simp only
    rw [h12 hT]
    simp only at h7
    split at h7
    · exact iha ce1 { l with e := e2 } S2 _ _ _ h7 h11 h3
    · exact ihb ce1 { l with e := e2 } S2 _ _ _ h7 h11 h4
    · cases h7
  | block id c ih =>
    intro ce l S x ce' S' h hA hok
    simp only [okC] at hok
    simp only [exS] at h
    simp only [flC, exC]
    split at h
    · rename_i id' ce1 S1 h1
      obtain ⟨l1, h2, h3, hd1⟩ := ih ce l S _ _ _ h1 hA hok
      rw [h2]
      simp only
      split at h
      · rename_i hi; cases h; exact ⟨l1, by rw [if_pos hi], h3, hd1⟩
      · rename_i hi; cases h; exact ⟨l1, by rw [if_neg hi], h3, hd1⟩
    · rename_i hnn
      obtain ⟨l1, h2, h3, hd1⟩ := ih ce l S _ _ _ h hA hok
      refine ⟨l1, ?_, h3, hd1⟩
      rw [h2]
      cases x with
      | exit id => exact absurd h (hnn _ _ _)
      | _ => rfl
  | loop live c ih =>
    intro ce l S x ce' S' h hA hok
    simp only [okC, Bool.and_eq_true] at hok
    simp only [exS] at h
    simp only [flC, exC]
    refine iter_at (ce0 := ce) (fun ce l S x ce' S' h hA => ?_) N ce l S x ce' S' h hA
    exact ih (keepLive live ce) { l with e := keepLive (live.map (tm vm)) l.e } S x ce' S' h (keepLive_at hV hA hok.1) hok.2
end

/-! ### Functions -/

def rnR (vm : List Nat) : IRes → IRes
  | .tmp x => .tmp (tm vm x)
  | .cell1 x => .cell1 (tm vm x)
  | .cellN x n => .cellN (tm vm x) n

def okR (nv : Nat) : IRes → Bool
  | .tmp x => decide (x < nv)
  | .cell1 x => decide (x < nv)
  | .cellN x _ => decide (x < nv)

/-- A function with expressions; or one that is known by what it does. -/
inductive SFn where
  | src (nt : Nat) (vm : List Nat) (res : List IRes) (body : SC)
  | intr (g : List AV → St → Option (AV × St))

def SFn.fl : SFn → IFn
  | .src nt vm res body => .code nt (res.map (rnR vm)) (flC vm body)
  | .intr g => .intr g

def SFn.ok : SFn → Bool
  | .src nt vm res body => nodupB vm && (vm.all fun t => decide (t < nt)) && res.all (okR vm.length) && okC vm nt body
  | .intr _ => true

def runS (T : Nat → Option SFn) : Nat → AV → List AV → St → Option (AV × St)
  | 0, _, _, _ => none
  | n + 1, f, args, S => match f with
    | .fn k caps => match T k with
      | some (.src _ vm res body) =>
        match exS (runS T n) n body (vm.map fun t => (args ++ caps).getD t (.tup [])) S with
        | some (.exit _, _, _) => none
        | some (_, ce, S') => (exRes ce S' res).map fun vs => (one vs, S')
        | none => none
      | some (.intr g) => g (args ++ caps) S
      | none => none
    | _ => none

/-- The one does what the other one does. -/
def Leq (c1 c2 : Call) : Prop := ∀ f vs S r, c1 f vs S = some r → c2 f vs S = some r

theorem ap_mono {c1 c2 : Call} (h : Leq c1 c2) {k : OpK} {vs : List AV} {S : St} {r : AV × St} (ha : ap c1 k vs S = some r) : ap c2 k vs S = some r := by
  unfold ap at ha
  split at ha <;> first
    | exact h _ _ _ _ ha
    | (cases ha; done)
    | (unfold ap; exact ha)

theorem exOp_mono {c1 c2 : Call} (h : Leq c1 c2) {o : IOp} {e : Env} {S : St} {r : AV × St} (ha : exOp c1 o e S = some r) : exOp c2 o e S = some r := by
  unfold exOp at ha ⊢
  split at ha
  · exact ap_mono h ha
  · exact ha
  · exact ha

theorem exItems_mono {c1 c2 : Call} (h : Leq c1 c2) {ops : List IOp} : ∀ (its : List DItem) (e : Env) (S : St) (r : Env × St), exItems c1 ops its e S = some r → exItems c2 ops its e S = some r
  | [], e, S, r, ha => ha
  | .op i :: its, e, S, r, ha => by
    simp only [exItems] at ha ⊢
    split at ha
    · rename_i o ho
      simp only [Option.bind_eq_some_iff] at ha ⊢
      obtain ⟨q, h1, h2⟩ := ha
      exact ⟨q, exOp_mono h h1, exItems_mono h its _ _ _ h2⟩
    · cases ha
  | .chk i :: its, e, S, r, ha => by
    simp only [exItems] at ha ⊢
    split at ha
    · split at ha
      · simp only [Option.bind_eq_some_iff] at ha ⊢
        obtain ⟨q, h1, h2⟩ := ha
        refine ⟨q, h1, ?_⟩
        split at h2
        · rename_i hb; simp only [hb, if_true]; exact exItems_mono h its _ _ _ h2
        · cases h2
      · cases ha
    · cases ha

mutual
theorem evE_mono {c1 c2 : Call} (h : Leq c1 c2) {ce : Env} : ∀ (x : SE) (S : St) (r : AV × St), evE c1 ce x S = some r → evE c2 ce x S = some r
  | .v _ _, S, r, ha => ha
  | .k _, S, r, ha => ha
  | .op d f args, S, r, ha => by
    simp only [evE, Option.bind_eq_some_iff] at ha ⊢
    obtain ⟨q, h1, h2⟩ := ha
    exact ⟨q, evEs_mono h args _ _ h1, ap_mono h h2⟩
  | .opr d f a b, S, r, ha => by
    simp only [evE, Option.bind_eq_some_iff] at ha ⊢
    obtain ⟨q, h1, p, h2, h3⟩ := ha
    exact ⟨q, evE_mono h b _ _ h1, p, evE_mono h a _ _ h2, ap_mono h h3⟩
  | .and m p a b, S, r, ha => by
    simp only [evE, Option.bind_eq_some_iff] at ha ⊢
    obtain ⟨q, h1, h2⟩ := ha
    refine ⟨q, evE_mono h a _ _ h1, ?_⟩
    split at h2
    · exact evE_mono h b _ _ h2
    · exact h2
    · cases h2
  | .or m p a b, S, r, ha => by
    simp only [evE, Option.bind_eq_some_iff] at ha ⊢
    obtain ⟨q, h1, h2⟩ := ha
    refine ⟨q, evE_mono h a _ _ h1, ?_⟩
    split at h2
    · exact h2
    · exact evE_mono h b _ _ h2
    · cases h2
theorem evEs_mono {c1 c2 : Call} (h : Leq c1 c2) {ce : Env} : ∀ (xs : List SE) (S : St) (r : List AV × St), evEs c1 ce xs S = some r → evEs c2 ce xs S = some r
  | [], S, r, ha => ha
  | x :: xs, S, r, ha => by
    simp only [evEs, Option.bind_eq_some_iff, Option.map_eq_some_iff] at ha ⊢
    obtain ⟨q, h1, p, h2, h3⟩ := ha
    exact ⟨q, evE_mono h x _ _ h1, p, evEs_mono h xs _ _ h2, h3⟩
end

theorem exSS_mono {c1 c2 : Call} (h : Leq c1 c2) : ∀ (ss : List SS) (ce : Env) (S : St) (r : Env × St), exSS c1 ss ce S = some r → exSS c2 ss ce S = some r
  | [], ce, S, r, ha => ha
  | .set x e :: ss, ce, S, r, ha => by
    simp only [exSS, Option.bind_eq_some_iff] at ha ⊢
    obtain ⟨q, h1, h2⟩ := ha
    exact ⟨q, evE_mono h e _ _ h1, exSS_mono h ss _ _ _ h2⟩
  | .ef e :: ss, ce, S, r, ha => by
    simp only [exSS, Option.bind_eq_some_iff] at ha ⊢
    obtain ⟨q, h1, h2⟩ := ha
    exact ⟨q, evE_mono h e _ _ h1, exSS_mono h ss _ _ _ h2⟩

theorem iter_mono {α : Type} {f g : α → St → Option (Ex × α × St)} (h : ∀ a S r, f a S = some r → g a S = some r) : ∀ (n m : Nat) (_ : n ≤ m) (a : α) (S : St) (r : Ex × α × St), iter f n a S = some r → iter g m a S = some r
  | 0, m, _, a, S, r, ha => by simp [iter] at ha
  | n + 1, 0, hnm, a, S, r, ha => by omega
  | n + 1, m + 1, hnm, a, S, r, ha => by
    simp only [iter] at ha ⊢
    split at ha
    · rename_i l S1 h1
      rw [h _ _ _ h1]
      exact iter_mono h n m (by omega) l S1 r ha
    · rename_i hnn
      rw [h _ _ _ ha]
      obtain ⟨x, l, S1⟩ := r
      cases x with
      | normal => exact absurd ha (hnn _ _)
      | _ => rfl

theorem exS_mono {c1 c2 : Call} (h : Leq c1 c2) {N M : Nat} (hNM : N ≤ M) : ∀ (c : SC) (ce : Env) (S : St) (r : Ex × Env × St), exS c1 N c ce S = some r → exS c2 M c ce S = some r := by
  intro c
  induction c with
  | skip => intro ce S r ha; exact ha
  | ret => intro ce S r ha; exact ha
  | exit id => intro ce S r ha; exact ha
  | reg ss =>
    intro ce S r ha
    simp only [exS, Option.map_eq_some_iff] at ha ⊢
    obtain ⟨q, h1, h2⟩ := ha
    exact ⟨q, exSS_mono h ss _ _ _ h1, h2⟩
  | dreg lv ops its =>
    intro ce S r ha
    simp only [exS, Option.map_eq_some_iff] at ha ⊢
    obtain ⟨q, h1, h2⟩ := ha
    exact ⟨q, exItems_mono h its _ _ _ h1, h2⟩
  | seq a b iha ihb =>
    intro ce S r ha
    simp only [exS] at ha ⊢
    split at ha
    · rename_i ce1 S1 h1
      rw [iha _ _ _ h1]; exact ihb _ _ _ ha
    · rename_i hnn
      rw [iha _ _ _ ha]
      obtain ⟨x, l, S1⟩ := r
      cases x with
      | normal => exact absurd ha (hnn _ _)
      | _ => rfl
  | cond c a b iha ihb =>
    intro ce S r ha
    simp only [exS] at ha ⊢
    split at ha
    · exact iha _ _ _ ha
    · exact ihb _ _ _ ha
    · cases ha
  | ifr ss e a b iha ihb =>
    intro ce S r ha
    simp only [exS, Option.bind_eq_some_iff] at ha ⊢
    obtain ⟨q, h1, p, h2, h3⟩ := ha
    refine ⟨q, exSS_mono h ss _ _ _ h1, p, evE_mono h e _ _ h2, ?_⟩
    split at h3
    · exact iha _ _ _ h3
    · exact ihb _ _ _ h3
    · cases h3
  | block id c ih =>
    intro ce S r ha
    simp only [exS] at ha ⊢
    split at ha
    · rename_i id' ce1 S1 h1
      rw [ih _ _ _ h1]; exact ha
    · rename_i hnn
      rw [ih _ _ _ ha]
      obtain ⟨x, l, S1⟩ := r
      cases x with
      | exit id => exact absurd ha (hnn _ _ _)
      | _ => rfl
  | loop live c ih =>
    intro ce S r ha
    simp only [exS] at ha ⊢
    exact iter_mono (fun ce S r ha => ih _ _ _ ha) N M hNM _ _ _ ha

theorem runS_mono {T : Nat → Option SFn} : ∀ {n m : Nat}, n ≤ m → Leq (runS T n) (runS T m)
  | 0, m, _ => fun f vs S r h => by simp [runS] at h
  | n + 1, 0, h => by omega
  | n + 1, m + 1, hnm => fun f vs S r h => by
    unfold runS at h ⊢
    split at h
    · rename_i k caps
      split at h
      · rename_i nt vm res body hT
        split at h
        · cases h
        · rename_i x ce S' hne hx
          rw [exS_mono (runS_mono (Nat.le_of_succ_le_succ hnm)) (Nat.le_of_succ_le_succ hnm) _ _ _ _ hx]
          cases x with
          | exit id => exact absurd rfl (hne id)
          | _ => exact h
        · cases h
      · rename_i g hT
        exact h
      · cases h
    · cases h

theorem exRes_rn {vm : List Nat} {nt : Nat} {ce e : Env} (hA : At vm nt ce e) (S : St) : ∀ (rs : List IRes), rs.all (okR vm.length) = true → exRes e S (rs.map (rnR vm)) = exRes ce S rs
  | [], _ => rfl
  | r :: rs, h => by
    simp only [List.all_cons, Bool.and_eq_true] at h
    simp only [List.map_cons, exRes, exRes_rn hA S rs h.2]
    cases r <;> (have h1 := h.1; simp only [okR, decide_eq_true_eq] at h1; simp only [rnR, hA.at_ _ h1])

theorem pads_getD (nt : Nat) (args : List AV) (t : Nat) : (pads nt args).getD t (.tup []) = args.getD t (.tup []) := by
  simp only [pads, List.getD_eq_getElem?_getD, List.getElem?_append]
  split
  · rfl
  · rename_i h
    rw [List.getElem?_eq_none (l := args) (by omega)]
    simp only [List.getElem?_replicate]
    split <;> rfl

/-- A run of functions with expressions is a run of the abstract machine. -/
theorem runS_run {T : Nat → Option SFn} (hok : ∀ k f, T k = some f → f.ok = true) : ∀ (n : Nat), Leq (runS T n) (run (fun k => (T k).map SFn.fl) n)
  | 0 => fun f vs S r h => by simp [runS] at h
  | n + 1 => fun f vs S r h => by
    have ih := runS_run hok n
    unfold runS at h
    split at h
    · rename_i k caps
      unfold run
      split at h
      · rename_i nt vm res body hT
        have ho := hok k _ hT
        simp only [SFn.ok, Bool.and_eq_true] at ho
        obtain ⟨⟨⟨h1, h2⟩, h3⟩, h4⟩ := ho
        have hV : Vars vm nt := ⟨nodupB_iff.1 h1, all_lt h2⟩
        simp only [hT, Option.map_some, SFn.fl]
        split at h
        · cases h
        · rename_i x ce S' hne hx
          have hA : At vm nt (vm.map fun t => (vs ++ caps).getD t (.tup [])) (pads nt (vs ++ caps)) := by
            refine ⟨by simp, by simp only [pads, List.length_append, List.length_replicate]; omega, fun y hy => ?_⟩
            rw [pads_getD]
            simp only [tm, List.getD_eq_getElem?_getD, List.getElem?_map, List.getElem?_eq_getElem hy, Option.map_some, Option.getD_some]
          have hx' := exS_mono ih (Nat.le_refl n) _ _ _ _ hx
          obtain ⟨l', h5, h6, h7⟩ := exS_ok hV body _ { e := pads nt (vs ++ caps) } S _ _ _ hx' hA h4
          rw [h5]
          simp only [Option.map_eq_some_iff] at h
          obtain ⟨rvs, h8, h9⟩ := h
          cases x with
          | exit id => exact absurd rfl (hne id)
          | _ => simp only [h7, letGo, exRes_rn h6 S' res h3, h8, Option.map_some, h9]
        · cases h
      · rename_i g hT
        simp only [hT, Option.map_some, SFn.fl]
        exact h
      · cases h
    · cases h
end Am
