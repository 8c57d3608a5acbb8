/- append and copy: the abstract ones are the model's. -/
import Derived.Test.YtpalaplnolcimaaDoorAmApp
namespace Am
open Go Go.RowKit

section
variable {kf kt : Nat → Nat} {w0 : Base} {fm : FM} {S : St} {w : World} {P : Program}

theorem putV_lt : ∀ (vs cs : List Value) (o i : Nat), i < o → (putV cs o vs)[i]? = cs[i]?
  | [], _, _, _, _ => rfl
  | v :: vs, cs, o, i, h => by
    simp only [putV]
    rw [putV_lt vs _ _ i (by omega), List.getElem?_set, if_neg (by omega)]

theorem putV_at : ∀ (vs cs : List Value) (o j : Nat) (v : Value), o + vs.length ≤ cs.length → vs[j]? = some v → (putV cs o vs)[o + j]? = some v
  | [], _, _, _, _, _, h => by simp at h
  | x :: vs, cs, o, j, v, hl, h => by
    simp only [putV]
    simp only [List.length_cons] at hl
    cases j with
    | zero =>
      simp at h
      subst h
      rw [putV_lt vs _ _ _ (by omega), List.getElem?_set]
      simp; omega
    | succ j =>
      rw [show o + (j + 1) = (o + 1) + j by omega]
      exact putV_at vs _ _ j v (by simp; omega) (by simpa using h)

theorem ok_grow {e : TypeId} {i : TypeInfo} {zv : Value} {op : Option Addr → Nat → Nat → Sem Value} {n : Nat} {new : List AV} {vn : List Value} {s v : AV} {S' : St} {bytes : Nat} (h : R kf kt w0 fm S w)
    (_ : 0 < i.size) (hzs : zv.cells.size = i.size)
    (hin : ∀ base sLen sCap w', sLen + n ≤ sCap → (∀ a, base = some a → (storeCells (a.add (sLen * i.size)) vn).run P w = .ok () w') → (base = none → w' = w) →
      (op base sLen sCap).run P w = .ok (.slice base (sLen + n) sCap) w')
    (hout : ∀ (base : Option Addr) (sLen sCap : Nat) (vo : List Value), (Builtin.firstCells i.size sLen (.slice base sLen sCap)).run P { w with drawn := w.drawn + 1 } = .ok vo.toArray { w with drawn := w.drawn + 1 } → sCap < sLen + n → sLen + n < room →
      bytes ≤ 1024 → ∃ (cap : Nat) (vn : List Value), VRs kf fm new vn ∧ sLen + n ≤ cap ∧ ∀ (w' : World) (a : Addr), (newRow e (vo.toArray ++ vn.toArray ++ Builtin.zeroCells zv.cells (cap - (sLen + n)))).run P { w with drawn := w.drawn + 1 } = .ok a w' →
        (op base sLen sCap).run P w = .ok (.slice (some a) (sLen + n) cap) w')
    (hv : VRs kf fm new vn) (hsc : ∀ u ∈ new, u.sc = true) (hlen : new.length = n * i.size) (hg : grow (kt e) i.size bytes s n new S = some (v, S')) :
    ∀ {base : Option Addr} {sLen sCap : Nat}, VR kf fm s (.slice base sLen sCap) → Ok1 kf kt w0 fm w P (op base sLen sCap) v S' := by
  intro base sLen sCap hs
  let w1 : World := { w with drawn := w.drawn + 1 }
  have hR1 : R kf kt w0 fm S w1 := h.drawn _
  cases s <;> simp only [grow] at hg <;> (try (cases hg; done))
  case nils =>
    simp only [VR] at hs
    cases hs
    split at hg
    · cases hg
      rename_i hn
      subst hn
      exact Ok1.mk h (u := .slice none 0 0) (hin none 0 0 w (by omega) (fun a ha => by cases ha) fun _ => rfl) (by simp [VR])
    · rename_i hn
      split at hg
      · rename_i hroom
        cases hg
        obtain ⟨cap, vn', hv', hcap, hrun⟩ := hout none 0 0 [] (by simp [Builtin.firstCells]) (by omega) (by omega) hroom.2
        obtain ⟨w', hr, h', hvr⟩ := ok_fresh (P := P) (e := e) (i := i) (zv := zv) (old := []) (new := new) (vo := []) (vn := vn') (need := 0 + n) (cap := cap) hR1 hzs (by simp [VRs]) hv' (by simp) hsc (by simpa using hlen) hcap
        have hx := hrun w' _ hr
        rw [List.nil_append] at h'
        rw [Nat.zero_add] at hx hvr
        exact ⟨_, _, w', hx, h', hvr⟩
      · cases hg
  case sl b o len cap g =>
    have hs0 := hs
    simp only [VR] at hs
    obtain ⟨p, rc, ra, hp, heq, g1, g2, g3, g4, g5, g6⟩ := hs
    cases heq
    split at hg
    · rename_i hle
      split at hg
      · rename_i hn
        subst hn
        cases hg
        have hnew : new = [] := List.eq_nil_of_length_eq_zero (by simpa using hlen)
        subst hnew
        simp [VRs] at hv
        subst hv
        refine Ok1.mk h ?_ hs0
        exact hin (some ra) sLen sCap w (by omega) (fun a ha => by simp [storeCells]) fun hh => by cases hh
      · rename_i hn
        cases hst : S.storeN b (o + sLen * i.size) new with
        | none => simp [hst] at hg
        | some S1 =>
          simp [hst] at hg
          obtain ⟨rfl, rfl⟩ := hg
          have hra : ra = p.1.add o := g4.resolve_right (by omega)
          subst hra
          obtain ⟨w', hr, h'⟩ := h.store (P := P) hst hp hv hsc
          refine ⟨[], .slice (some (p.1.add o)) (sLen + n) sCap, w', ?_, by simpa using h', ?_⟩
          · refine hin _ _ _ w' (by omega) (fun a ha => ?_) fun hh => by cases hh
            cases ha
            rw [add_add]; exact hr
          · rw [List.append_nil]
            simp only [VR]
            exact ⟨p, sCap, _, hp, rfl, by omega, g2, hle, .inl rfl, g5, g6⟩
    · rename_i hgt
      split at hg
      · rename_i hroom
        cases hold : S.loadN b o (sLen * i.size) with
        | none => simp [hold] at hg
        | some old =>
          simp only [hold, Option.bind_some] at hg
          obtain ⟨ra', rc', heq, vo, hlo, hvo, hso⟩ := h.slice (P := P) hs0 hold (fun h0 => Nat.pos_of_mul_pos_right h0)
          cases heq
          obtain ⟨_, _, heq1, vo1, hlo1, hvo1, _⟩ := hR1.slice (P := P) hs0 hold (fun h0 => Nat.pos_of_mul_pos_right h0)
          cases heq1
          have holdlen := (loadN_spec hold).1
          have hfirst : (Builtin.firstCells i.size sLen (.slice (some ra) sLen sCap)).run P w1 = .ok vo1.toArray w1 := by simpa [Builtin.firstCells] using hlo1
          have hlen2 : old.length + new.length = (sLen + n) * i.size := by rw [holdlen, hlen, Nat.add_mul]
          cases g with
          | none =>
            cases hg
            have hrc := g5 rfl
            obtain ⟨cap', vn', hv', hcap, hrun⟩ := hout (some ra) sLen sCap vo1 hfirst (by omega) hroom.1 hroom.2
            obtain ⟨w', hr, h', hvr⟩ := ok_fresh (P := P) (e := e) (i := i) (zv := zv) (need := sLen + n) (cap := cap') hR1 hzs hvo1 hv' hso hsc hlen2 hcap
            exact ⟨_, _, w', hrun w' _ hr, h', hvr⟩
          | some es' =>
            simp only at hg
            split at hg
            · rename_i tag cs hb
              split at hg
              · rename_i htip
                cases hg
                obtain ⟨rfl, htip, rfl⟩ := htip
                by_cases hfit : sLen + n ≤ sCap
                · -- in place, in the spare room
                  have hra : ra = p.1.add o := g4.resolve_right (by omega)
                  subst hra
                  obtain ⟨p', hp', hk⟩ := h.get hb
                  rw [hp] at hp'; cases hp'
                  have hk : RowAt kf kt fm w _ cs p := hk
                  obtain ⟨c, elem, fr, hw, ht, hsz, hf, hc⟩ := hk.row
                  have hfits := hk.fits
                  have hbound := g6 _ rfl
                  have hrcmul : (sLen + n) * i.size ≤ sCap * i.size := Nat.mul_le_mul_right _ hfit
                  have hone : ∀ u ∈ vn, u.oneCell' = true := fun u hum => by
                    obtain ⟨j, hj⟩ := List.getElem?_of_mem hum
                    have hj' : j < new.length := by rw [← hv.length]; exact (List.getElem?_eq_some_iff.1 hj).1
                    obtain ⟨u', hu', hr'⟩ := hv.get (List.getElem?_eq_getElem hj')
                    rw [hj] at hu'; cases hu'
                    exact hr'.oneCell (hsc _ (List.getElem_mem hj'))
                  have hsp : (p.1.add (o + sLen * i.size)).spot = none := by rw [add_plain hk.spot]
                  have hoff : (p.1.add (o + sLen * i.size)).off = p.1.off + (o + sLen * i.size) := by rw [add_plain hk.spot]
                  have hvl := hv.length
                  obtain ⟨w', hr, k1, k2, k3, k4, k5, k6⟩ := run_storeCells P (p.1.add (o + sLen * i.size)) hsp elem fr vn 0 w c (by rw [add_block]; exact hw)
                    (fun _ => by rw [hoff, hvl, hlen]; rw [Nat.add_mul] at hrcmul; omega) hf hone
                  rw [add_block] at k5 k6
                  have hlow := h.low b _ p hb hp rfl
                  have hdead := h.kill b
                  have hfree : ∀ (b' : Nat) (k' : Blk) (q : Addr × Nat), (S.set b .dead)[b']? = some k' → fm[b']? = some q → k'.excl = true → q.1.block ≠ p.1.block := by
                    intro b' k' q hb' hq he
                    rw [List.getElem?_set] at hb'
                    split at hb'
                    · split at hb'
                      · cases hb'; cases he
                      · cases hb'
                    · rename_i hne
                      exact h.sep b' b k' _ q p hb' hb hq hp he rfl (Ne.symm hne)
                  have h2 := hdead.loose hlow.1 hfree k5 k1 k2 k3 k4
                  have hq : ((p.1.add o).block) = p.1.block := add_block _ _
                  have hvold := hvo.length
                  have hlim : (sLen + n) * i.size ≤ p.2 - o := by omega
                  refine ⟨[(p.1.add o, p.2 - o)], .slice (some (p.1.add o)) (sLen + n) sCap, w', ?_, ?_, ?_⟩
                  · refine hin _ _ _ w' hfit (fun a ha => ?_) fun hh => by cases hh
                    cases ha
                    rw [add_add]; exact hr
                  · have hoff2 : (p.1.add o).off = p.1.off + o := by rw [add_plain hk.spot]
                    refine h2.adopt (q := (p.1.add o, p.2 - o)) (by rw [hq]; exact hlow.1) (by rw [hq, k1]; exact hlow.2) (fun b' k' q hb' hq' he => by rw [hq]; exact hfree b' k' q hb' hq' he) ?_
                    refine ⟨by show (p.1.add o).spot = none; rw [add_plain hk.spot], ⟨_, elem, fr, by show w'.heap[(p.1.add o).block]? = _; rw [hq]; exact k6, ht, ?_, ?_, fun j u hu => ?_⟩, ?_⟩
                    · simp [putV_length, hoff2]; omega
                    · simpa [putV_length] using hf
                    · rw [hoff2, hoff]
                      rw [List.getElem?_append] at hu
                      split at hu
                      · rename_i hj
                        obtain ⟨hs1, v1, hv1, hr1⟩ := hc (o + j) u (by
                          have := (loadN_spec hold).2 j u hu
                          simpa [St.load1, hb, Blk.cells] using this)
                        refine ⟨hs1, v1, ?_, hr1.mono⟩
                        rw [List.getElem?_toArray, Nat.add_zero, putV_lt _ _ _ _ (by omega)]
                        rw [show p.1.off + o + j = p.1.off + (o + j) by omega]
                        simpa using hv1
                      · rename_i hj
                        obtain ⟨v1, hv1, hr1⟩ := hv.get hu
                        refine ⟨hsc _ (List.mem_of_getElem? hu), v1, ?_, hr1.mono⟩
                        rw [List.getElem?_toArray, Nat.add_zero]
                        have := putV_at vn c.toList (p.1.off + (o + sLen * i.size)) (j - old.length) v1 (by rw [hvl, hlen, Array.length_toList]; rw [Nat.add_mul] at hrcmul; omega) hv1
                        rw [← this]
                        congr 1
                        omega
                    · simp [hlen2]; omega
                  · simp only [VR]
                    refine ⟨(p.1.add o, p.2 - o), sCap, _, ?_, rfl, hfit, hfit, Nat.le_refl _, .inl (by rw [add_zero]), (fun hh => by cases hh), fun es he => by cases he; simp; omega⟩
                    have := fm_new hdead (p.1.add o, p.2 - o)
                    rwa [List.length_set] at this
                · obtain ⟨cap', vn', hv', hcap, hrun⟩ := hout (some ra) sLen sCap vo1 hfirst (by omega) hroom.1 hroom.2
                  obtain ⟨w', hr, h', hvr⟩ := ok_fresh (P := P) (e := e) (i := i) (zv := zv) (need := sLen + n) (cap := cap') (hR1.kill b) hzs hvo1 hv' hso hsc hlen2 hcap
                  rw [List.length_set] at hvr
                  exact ⟨_, _, w', hrun w' _ hr, h', hvr⟩
              · cases hg
            · cases hg
      · cases hg

theorem cells_flat {z : List AV} {zv : Value} {t : TypeId} {i : TypeInfo} (hz : zeroT P kf t = some z) (hi : P.info? t = some i) (hzv : i.zero = some zv) : zv.cells.size = i.size ∧ VRs kf fm z zv.cells.toList ∧ (∀ u ∈ z, u.sc = true) ∧ z.length = i.size := by
  obtain ⟨i', zv', hi', hz1, hm, hlen⟩ := zeroT_spec hz
  rw [hi] at hi'; cases hi'
  rw [hzv] at hz1; cases hz1
  obtain ⟨h1, h2⟩ := mapO_rel (fm := fm) hm
  have := h1.length
  exact ⟨by rw [← hlen]; simpa using this, h1, h2, hlen⟩

theorem ok_app {ts : Array TypeId} {t t1 e ty : TypeId} {d : TypeDesc} {i : TypeInfo} {z : List AV} {s x v : AV} {vs vx : Value} {n : Nat} {new : List AV} {S' : St} (h : R kf kt w0 fm S w)
    (h0 : ts[0]? = some t) (h1 : ts[1]? = some t1) (ht : P.underlying t = some (.slice e)) (ht1 : P.underlying t1 = some d) (hd : ∀ k, d ≠ .int k) (hi : P.info? e = some i) (hz : zeroT P kf e = some z)
    (hsz : i.size ≠ 0) (hb : i.bytes ≠ 0) (hs : VR kf fm s vs) (hx : VR kf fm x vx) (hn : srcLen x = some n) (hsrc : srcCells S i.size n x = some new) (hg : grow (kt e) i.size i.bytes s n new S = some (v, S')) :
    Ok1 kf kt w0 fm w P (Builtin.append_ ts ty #[vs, vx]) v S' := by
  obtain ⟨i', zv, hi', hz1, hm, _⟩ := zeroT_spec hz
  rw [hi] at hi'; cases hi'
  obtain ⟨hzs, _⟩ := cells_flat (fm := fm) hz hi hz1
  obtain ⟨l1, l2, l3, vn, l4, l5⟩ := src_run (P := P) h hx hn (Nat.le_refl _) hsrc
  obtain ⟨_, _, _, vn', l4', l5'⟩ := src_run (P := P) (h.drawn (w.drawn + 1)) hx hn (Nat.le_refl _) hsrc
  obtain ⟨base, sLen, sCap, rfl⟩ : ∃ base sLen sCap, vs = .slice base sLen sCap := by
    cases s <;> simp only [grow] at hg <;> (try (cases hg; done)) <;> simp only [VR] at hs
    · obtain ⟨p, rc, ra, _, rfl, _⟩ := hs; exact ⟨_, _, _, rfl⟩
    · exact ⟨_, _, _, hs⟩
  refine ok_grow (P := P) (e := e) (i := i) (zv := zv) (op := fun base sLen sCap => Builtin.append_ ts ty #[.slice base sLen sCap, vx]) (bytes := i.bytes) h (Nat.pos_of_ne_zero hsz) hzs ?_ ?_ l4 l3 l2 hg hs
  · intro base sLen sCap w' hle hst hnil
    exact app_in h0 h1 ht ht1 hd hi l1 l5 hle hst hnil
  · intro base sLen sCap vo ho hgt hroom hbytes
    obtain ⟨cap, hcap, hrun⟩ := app_out h0 h1 ht ht1 hd hi hz1 l1 l5' ho hgt hb (room_ok hgt hroom hbytes)
    exact ⟨cap, vn', l4', hcap, hrun⟩

theorem rep_zeroCells {z : List AV} {zv : Array Value} (n : Nat) (h : VRs kf fm z zv.toList) : VRs kf fm (rep n z) (Builtin.zeroCells zv n).toList := by
  have := rep_rel (n := n) h
  simpa [Builtin.zeroCells] using this

theorem ok_appz {ts : Array TypeId} {t t1 e ty : TypeId} {k : IntKind} {i : TypeInfo} {z : List AV} {s x v : AV} {vs vx : Value} {n : Nat} {S' : St} (h : R kf kt w0 fm S w)
    (h0 : ts[0]? = some t) (h1 : ts[1]? = some t1) (ht : P.underlying t = some (.slice e)) (ht1 : P.underlying t1 = some (.int k)) (hi : P.info? e = some i) (hz : zeroT P kf e = some z)
    (hsz : i.size ≠ 0) (hs : VR kf fm s vs) (hx : VR kf fm x vx) (hn : natOf x = some n) (hroomn : n < room) (hbytes' : i.bytes ≤ 1024) (hg : grow (kt e) i.size i.bytes s n (rep n z) S = some (v, S')) :
    Ok1 kf kt w0 fm w P (Builtin.append_ ts ty #[vs, vx]) v S' := by
  obtain ⟨i', zv, hi', hz1, hm, _⟩ := zeroT_spec hz
  rw [hi] at hi'; cases hi'
  obtain ⟨hzs, hzr, hzsc, hzl⟩ := cells_flat (fm := fm) hz hi hz1
  obtain ⟨base, sLen, sCap, rfl⟩ : ∃ base sLen sCap, vs = .slice base sLen sCap := by
    cases s <;> simp only [grow] at hg <;> (try (cases hg; done)) <;> simp only [VR] at hs
    · obtain ⟨p, rc, ra, _, rfl, _⟩ := hs; exact ⟨_, _, _, rfl⟩
    · exact ⟨_, _, _, hs⟩
  obtain ⟨kk, rfl⟩ := natOf_rel hn hx
  have hrz := rep_zeroCells (kf := kf) (fm := fm) n hzr
  refine ok_grow (P := P) (e := e) (i := i) (zv := zv) (op := fun base sLen sCap => Builtin.append_ ts ty #[.slice base sLen sCap, .int kk n]) (bytes := i.bytes) h (Nat.pos_of_ne_zero hsz) hzs ?_ ?_ hrz (rep_sc hzsc) (by rw [rep_length, hzl]) hg hs
  · intro base sLen sCap w' hle hst hnil
    exact appz_in h0 h1 ht ht1 hi hz1 hzs hroomn hbytes' hle hst hnil
  · intro base sLen sCap vo ho hgt hroom hbytes
    obtain ⟨cap, hcap, hrun⟩ := appz_out (kk := kk) h0 h1 ht ht1 hi hz1 hzs hroom hbytes ho hgt (room_ok hgt hroom hbytes)
    exact ⟨cap, _, hrz, hcap, by simpa using hrun⟩

theorem ok_cpy {ts : Array TypeId} {t e ty : TypeId} {es : Nat} {d x v : AV} {vd vx : Value} {dl xl : Nat} {cs : List AV} {S' : St} (h : R kf kt w0 fm S w)
    (h0 : ts[0]? = some t) (ht : P.underlying t = some (.slice e)) (hs : sizeT P e = some es) (hd : VR kf fm d vd) (hx : VR kf fm x vx) (hdl : srcLen d = some dl) (hxl : srcLen x = some xl)
    (hsrc : srcCells S es (min xl dl) x = some cs)
    (hg : cpyTo S cs (min xl dl) d = some (v, S')) :
    Ok1 kf kt w0 fm w P (Builtin.copy_ ts ty #[vd, vx]) v S' := by
  obtain ⟨l1, l2, l3, vs, l4, l5⟩ := src_run (P := P) h hx hxl (Nat.min_le_left _ _) hsrc
  have hvl := l4.length
  cases d <;> simp only [cpyTo] at hg <;> (try (cases hg; done))
  case nils =>
    cases hg
    simp only [VR] at hd
    subst hd
    simp only [srcLen, Option.some.injEq] at hdl
    subst hdl
    refine Ok1.int h ?_
    simp only [Nat.min_zero] at l5
    simp [Builtin.copy_, h0, run_underlying ht, l1, run_sizeT hs, l5, goInt]
  case sl b o len cap g =>
    simp only [srcLen, Option.some.injEq] at hdl
    subst hdl
    have hd0 := hd
    simp only [VR] at hd
    obtain ⟨p, rc, ra, hp, rfl, g1, g2, g3, g4, g5, g6⟩ := hd
    split at hg
    · rename_i hz
      cases hg
      rw [hz, Nat.zero_mul] at l2
      have hvs : vs = [] := List.eq_nil_of_length_eq_zero (by omega)
      subst hvs
      rw [hz] at l5
      refine Ok1.int h ?_
      have hz' : Nat.min xl len = 0 := hz
      simp [Builtin.copy_, h0, run_underlying ht, l1, run_sizeT hs, hz', l5, goInt, storeCells]
    · rename_i hz
      cases hst : S.storeN b o cs with
      | none => simp [hst] at hg
      | some S1 =>
        simp [hst] at hg
        obtain ⟨rfl, rfl⟩ := hg
        have hra : ra = p.1.add o := g4.resolve_right (by have := Nat.min_le_right xl len; omega)
        subst hra
        obtain ⟨w', hr, h'⟩ := h.store (P := P) hst hp l4 l3
        refine ⟨[], .int .i64 (min xl len : Nat), w', ?_, by simpa using h', by simp [VR]⟩
        have l5' : (Builtin.firstCells es (Nat.min xl len) vx).run P w = .ok vs.toArray w := l5
        simp [Builtin.copy_, h0, run_underlying ht, l1, run_sizeT hs, l5', goInt, hr]

theorem eqCells_run : ∀ (fs : List Field) (ks : List FK) (xs ys : List AV) (off : Nat) (wx wy : Array Value) (r : Bool), eqCells ks xs ys = some r → mapO (fieldKind P) fs = some ks →
    (∀ (j : Nat) (f : Field), fs[j]? = some f → f.offset = off + j) → VRs kf fm xs (wx.toList.drop off) → VRs kf fm ys (wy.toList.drop off) → (Op.eqFields 9999 wx wy fs).run P w = .ok r w
  | [], ks, xs, ys, off, wx, wy, r, he, hk, _, _, _ => by
    simp [mapO] at hk; subst hk
    cases xs <;> cases ys <;> simp [eqCells] at he
    subst he; rfl
  | f :: fs, ks0, xs, ys, off, wx, wy, r, he, hk0, ho, hx, hy => by
    simp only [mapO] at hk0
    cases hfk : fieldKind P f with
    | none => simp [hfk] at hk0
    | some k =>
      cases hk : mapO (fieldKind P) fs with
      | none => simp [hfk, hk] at hk0
      | some ks =>
        simp [hfk, hk] at hk0
        subst hk0
        have hoff := ho 0 f rfl
        rw [Nat.add_zero] at hoff
        have hname : ¬ f.name = "_" := fun h => by simp [fieldKind, h] at hfk
        simp only [fieldKind, if_neg hname] at hfk
        have hagg : aggT P f.type = some false := by
          unfold aggT
          cases hu : P.underlying f.type with
          | none => simp [hu] at hfk
          | some d => cases d <;> simp [hu] at hfk ⊢
        cases xs with
        | nil => cases k <;> simp [eqCells] at he
        | cons x xs =>
          cases ys with
          | nil => cases k <;> cases x <;> simp [eqCells] at he
          | cons y ys =>
            obtain ⟨ux, hux, hrx⟩ := hx.get (i := 0) (c := x) rfl
            obtain ⟨uy, huy, hry⟩ := hy.get (i := 0) (c := y) rfl
            rw [List.getElem?_drop, Nat.add_zero] at hux huy
            have hux' : wx[off]? = some ux := by simpa using hux
            have huy' : wy[off]? = some uy := by simpa using huy
            have px : (part f.type wx f.offset).run P w = .ok ux w := by simp [part, aggT_false hagg, hoff, hux']
            have py : (part f.type wy f.offset).run P w = .ok uy w := by simp [part, aggT_false hagg, hoff, huy']
            have tailx : VRs kf fm xs (wx.toList.drop (off + 1)) := by
              have := hx.drop 1; rw [List.drop_drop] at this; simpa using this
            have taily : VRs kf fm ys (wy.toList.drop (off + 1)) := by
              have := hy.drop 1; rw [List.drop_drop] at this; simpa using this
            have rest : ∀ r, eqCells ks xs ys = some r → (Op.eqFields 9999 wx wy fs).run P w = .ok r w := fun r hr =>
              eqCells_run fs ks xs ys (off + 1) wx wy r hr hk (fun j g hg => by have := ho (j + 1) g (by simpa using hg); omega) tailx taily
            simp only [Op.eqFields, hname, ne_eq, not_false_eq_true, if_true, Sem.run_bind, px, py, Result.andThen_ok]
            have hq : ∀ b : Bool, (Op.equalIn 9999 f.type ux uy).run P w = .ok b w → (if b = true then eqCells ks xs ys else some false) = some r →
                ((Op.equalIn 9999 f.type ux uy).run P w).andThen (fun r' w' => (if (!r') = true then pure false else Op.eqFields 9999 wx wy fs : Sem Bool).run P w') = .ok r w := by
              intro b hb hr
              rw [hb]
              cases b
              · simp at hr; subst hr; simp
              · simp only [if_true] at hr; simpa using rest r hr
            cases hu : P.underlying f.type with
            | none => simp [hu] at hfk
            | some d =>
              cases k
              · cases d <;> simp [hu] at hfk
                cases x <;> cases y <;> simp only [eqCells] at he <;> (try (cases he; done))
                simp only [VR] at hrx hry
                subst hrx; subst hry
                split at he
                · rename_i hkk; subst hkk
                  exact hq _ (run_equalIn_int w 9998 f.type _ _ _ _ hu) he
                · cases he
              · cases d <;> simp [hu] at hfk
                cases x <;> cases y <;> simp only [eqCells] at he <;> (try (cases he; done))
                simp only [VR] at hrx hry
                subst hrx; subst hry
                exact hq _ (run_equalIn_bool' w 9998 f.type _ _ hu) he
              · cases d <;> simp [hu] at hfk
                cases x <;> cases y <;> simp only [eqCells] at he <;> (try (cases he; done))
                simp only [VR] at hrx hry
                obtain ⟨bx, rfl, rfl⟩ := hrx
                obtain ⟨bt, rfl, rfl⟩ := hry
                refine hq _ (run_equalIn_string w 9998 f.type _ _ hu) ?_
                rw [ByteArray.toList_eq, ByteArray.toList_eq]; exact he

theorem ok_eqA {neg : Bool} {op : BinOp} {t : TypeId} {fs : Array Field} {ks : List FK} {ox oy : Operand} {xs ys : List AV} {a b : Value} {r : Bool} (h : R kf kt w0 fm S w) (ht : P.underlying t = some (.struct fs))
    (hk : plainStruct P t fs = some ks) (hop : op = if neg then .neq else .eql) (ha : VR kf fm (.agg xs) a) (hb : VR kf fm (.agg ys) b) (hr : eqCells ks xs ys = some r) :
    Ok1 kf kt w0 fm w P (do eqGuard op t ox oy a b; Go.binOp op t a b) (.bool (r != neg)) S := by
  unfold plainStruct at hk
  split at hk
  · rename_i hc
    obtain ⟨h1, h2, h3⟩ := hc
    simp only [VR] at ha hb
    obtain ⟨wx, rfl, _, hx⟩ := ha
    obtain ⟨wy, rfl, _, hy⟩ := hb
    have hf : P.fieldsOf t = fs := by simp [Program.fieldsOf, ht]
    have he : (Op.equalIn 10000 t (.agg wx) (.agg wy)).run P w = .ok r w := by
      have := run_equalIn_struct (P := P) w 9999 t wx wy (by rw [hf]; exact ht) h1
      rw [hf] at this
      refine this.trans (eqCells_run fs.toList ks xs ys 0 wx wy r hr hk (fun j f hj => ?_) (by simpa using hx) (by simpa using hy))
      have hm : (fs.toList.map (·.offset))[j]? = some f.offset := by rw [List.getElem?_map, hj]; rfl
      rw [h3] at hm
      have hlt : j < fs.size := by have := (List.getElem?_eq_some_iff.1 hj).1; simpa using this
      rw [List.getElem?_range hlt] at hm
      cases hm; omega
    have hgu := run_eqGuard_agg (P := P) w op t ox oy wx wy h2
    subst hop
    refine Ok1.bool h ?_
    simp only [Sem.run_bind, hgu, Result.andThen_ok]
    cases neg
    · have := run_eql_struct (P := P) w t wx wy
      rw [he] at this
      simpa using this
    · have := run_neq_struct (P := P) w t wx wy
      rw [he] at this
      simpa using this
  · cases hk
end
end Am
