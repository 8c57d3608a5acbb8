/- Each operation of the model does what the abstract one does: reads, stores, new blocks, aggregates. -/
import Derived.Test.YtpalaplnolcimaaDoorAmStore
import Derived.Laws.Entries
import GoSem.Dispatch
namespace Am
open Go Go.RowKit

/-- An operation of the model comes to a value and a world that stand as told. -/
def Ok1 (kf kt : Nat → Nat) (w0 : Base) (fm : FM) (w : World) (P : Program) (s : Sem Value) (v : AV) (S' : St) : Prop :=
  ∃ ext u w', s.run P w = .ok u w' ∧ R kf kt w0 (fm ++ ext) S' w' ∧ VR kf (fm ++ ext) v u

section
variable {kf kt : Nat → Nat} {w0 : Base} {fm : FM} {S : St} {w : World} {P : Program}

theorem Ok1.mk {s : Sem Value} {v : AV} {u : Value} (h : R kf kt w0 fm S w) (hr : s.run P w = .ok u w) (hv : VR kf fm v u) : Ok1 kf kt w0 fm w P s v S :=
  ⟨[], u, w, hr, by simpa using h, by simpa using hv⟩

/-! ### Constants -/

theorem toAV1_rel {v : Value} {u : AV} (h : toAV1 kf v = some u) : VR kf fm u v ∧ u.sc = true := by
  unfold toAV1 at h
  split at h
  case h_9 f first caps =>
    split at h
    · rename_i hh
      cases h
      refine ⟨?_, by simp [AV.sc]⟩
      simp only [VR, VRs]
      have h1 : first = #[] := Array.eq_empty_of_size_eq_zero hh.1
      have h2 : caps = #[] := Array.eq_empty_of_size_eq_zero hh.2
      exact ⟨_, caps, by rw [h1], rfl, by rw [h2]⟩
    · cases h
  all_goals (cases h; try (constructor <;> simp [VR, AV.sc]; done))

theorem mapO_rel : ∀ {vs : List Value} {us : List AV}, mapO (toAV1 kf) vs = some us → VRs kf fm us vs ∧ ∀ u ∈ us, u.sc = true
  | [], us, h => by simp [mapO] at h; subst h; simp [VRs]
  | v :: vs, us, h => by
    simp only [mapO] at h
    cases h1 : toAV1 kf v with
    | none => simp [h1] at h
    | some u =>
      cases h2 : mapO (toAV1 kf) vs with
      | none => simp [h1, h2] at h
      | some us' =>
        simp [h1, h2] at h
        subst h
        obtain ⟨h3, h4⟩ := toAV1_rel (fm := fm) h1
        obtain ⟨h5, h6⟩ := mapO_rel (vs := vs) (us := us') h2
        refine ⟨by simp only [VRs]; exact ⟨v, vs, rfl, h3, h5⟩, fun x hx => ?_⟩
        rcases List.mem_cons.1 hx with rfl | hx
        · exact h4
        · exact h6 x hx

theorem toAV_rel {v : Value} {u : AV} (h : toAV kf v = some u) : VR kf fm u v := by
  unfold toAV at h
  split at h
  · rename_i cs
    cases h1 : mapO (toAV1 kf) cs.toList with
    | none => simp [h1] at h
    | some us => simp [h1] at h; subst h; obtain ⟨h2, h3⟩ := mapO_rel (fm := fm) h1; simp only [VR]; exact ⟨cs, rfl, h3, h2⟩
  · rename_i cs
    cases h1 : mapO (toAV1 kf) cs.toList with
    | none => simp [h1] at h
    | some us => simp [h1] at h; subst h; obtain ⟨h2, h3⟩ := mapO_rel (fm := fm) h1; simp only [VR]; exact ⟨cs, rfl, h2⟩
  · exact (toAV1_rel h).1

theorem flat_rel {u : AV} {v : Value} {us : List AV} (h : VR kf fm u v) (hf : u.flat = some us) : VRs kf fm us v.cells.toList ∧ ∀ x ∈ us, x.sc = true := by
  cases u <;> simp [AV.flat] at hf <;> (try subst hf)
  case agg cs =>
    simp only [VR] at h
    obtain ⟨ws, rfl, hs, hw⟩ := h
    exact ⟨hw, hs⟩
  all_goals
    refine ⟨?_, by simp [AV.sc]⟩
    have h1 := VR.oneCell h rfl
    have : v.cells = #[v] := by cases v <;> simp_all [Value.cells, Value.oneCell']
    rw [this]
    simp only [VRs]
    exact ⟨v, [], rfl, h, rfl⟩

/-! ### Types -/

theorem run_info {t : TypeId} {i : TypeInfo} (h : P.info? t = some i) (w : World) : (typeInfo t).run P w = .ok i w := by simp [typeInfo, h]
theorem run_size {t : TypeId} {i : TypeInfo} (h : P.info? t = some i) (w : World) : (Go.sizeOf t).run P w = .ok i.size w := by simp [Go.sizeOf, run_info h]

theorem sizeT_spec {t : TypeId} {n : Nat} (h : sizeT P t = some n) : ∃ i, P.info? t = some i ∧ i.size = n := by
  unfold sizeT at h
  cases hi : P.info? t with
  | none => simp [hi] at h
  | some i => simp [hi] at h; exact ⟨i, rfl, h⟩

theorem run_sizeT {t : TypeId} {n : Nat} (h : sizeT P t = some n) (w : World) : (Go.sizeOf t).run P w = .ok n w := by
  obtain ⟨i, hi, rfl⟩ := sizeT_spec h; exact run_size hi w

theorem zeroT_spec {t : TypeId} {z : List AV} (h : zeroT P kf t = some z) :
    ∃ i zv, P.info? t = some i ∧ i.zero = some zv ∧ mapO (toAV1 kf) zv.cells.toList = some z ∧ z.length = i.size := by
  unfold zeroT at h
  cases hi : P.info? t with
  | none => simp [hi] at h
  | some i =>
    cases hz : i.zero with
    | none => simp [hi, hz] at h
    | some zv =>
      cases hm : mapO (toAV1 kf) zv.cells.toList with
      | none => simp [hi, hz, hm] at h
      | some cs =>
        simp [hi, hz, hm] at h
        obtain ⟨h1, rfl⟩ := h
        exact ⟨i, zv, rfl, hz, hm, h1⟩

theorem run_zero {t : TypeId} {i : TypeInfo} {zv : Value} (hi : P.info? t = some i) (hz : i.zero = some zv) (w : World) : (zeroValue t).run P w = .ok zv w := by
  simp [zeroValue, run_info hi, hz]

theorem aggT_true {t : TypeId} (h : aggT P t = some true) (w : World) : (isAgg t).run P w = .ok true w := by
  unfold aggT at h
  cases hu : P.underlying t with
  | none => simp [hu] at h
  | some d => cases d <;> simp [hu] at h <;> simp [isAgg, run_underlying hu]

theorem aggT_false {t : TypeId} (h : aggT P t = some false) (w : World) : (isAgg t).run P w = .ok false w := by
  unfold aggT at h
  cases hu : P.underlying t with
  | none => simp [hu] at h
  | some d => cases d <;> simp [hu] at h <;> simp [isAgg, run_underlying hu]

/-! ### Reads and stores -/

theorem ok_load1 {t : TypeId} {b o : Nat} {u : AV} {a : Value} (h : R kf kt w0 fm S w) (ht : aggT P t = some false) (ha : VR kf fm (.ptr b o) a) (hl : S.load1 b o = some u) :
    Ok1 kf kt w0 fm w P (Instr.loadAt t a) u S := by
  simp only [VR] at ha
  obtain ⟨p, hp, rfl⟩ := ha
  obtain ⟨_, v, hv, hr⟩ := h.load1 hl hp
  refine Ok1.mk h ?_ hr
  simp [Instr.loadAt, Instr.sureAddr, loadVar, aggT_false ht, hv]

theorem ok_loadN {t : TypeId} {b o n : Nat} {us : List AV} {a : Value} (h : R kf kt w0 fm S w) (ht : aggT P t = some true) (hn : sizeT P t = some n) (ha : VR kf fm (.ptr b o) a) (hl : S.loadN b o n = some us) :
    Ok1 kf kt w0 fm w P (Instr.loadAt t a) (.agg us) S := by
  simp only [VR] at ha
  obtain ⟨p, hp, rfl⟩ := ha
  obtain ⟨vs, hv, hr, hs⟩ := h.loadN (P := P) hl hp
  refine Ok1.mk h (u := .agg vs.toArray) ?_ (by simp only [VR]; exact ⟨_, rfl, hs, by simpa using hr⟩)
  simp [Instr.loadAt, Instr.sureAddr, loadVar, aggT_true ht, run_sizeT hn, hv]

theorem ok_store {t : TypeId} {b o n : Nat} {v : AV} {us : List AV} {a u : Value} {S' : St} (h : R kf kt w0 fm S w) (hn : sizeT P t = some n) (ha : VR kf fm (.ptr b o) a) (hv : VR kf fm v u)
    (hf : v.flat = some us) (hl : us.length = n) (hst : S.storeN b o us = some S') :
    ∃ w', (Instr.storeAt t a u).run P w = .ok () w' ∧ R kf kt w0 fm S' w' := by
  simp only [VR] at ha
  obtain ⟨p, hp, rfl⟩ := ha
  obtain ⟨h1, h2⟩ := flat_rel hv hf
  obtain ⟨w', hr, h'⟩ := h.store (P := P) hst hp h1 h2
  refine ⟨w', ?_, h'⟩
  have hlen := h1.length
  have : u.cells.size = n := by rw [← hl]; simpa using hlen
  simp [Instr.storeAt, Instr.sureAddr, storeVar, run_sizeT hn, this, hr]

/-! ### New blocks -/

theorem ok_newRow {elem : TypeId} {tag : Nat} {c : Array Value} {cs : List AV} {lim : Nat} (h : R kf kt w0 fm S w) (ht : kt elem = tag) (hl : lim ≤ c.size) (hc : cs.length ≤ lim)
    (hv : ∀ (i : Nat) (u : AV), cs[i]? = some u → u.sc = true ∧ ∃ v, c[i]? = some v ∧ VR kf fm u v) :
    ∃ w', (newRow elem c).run P w = .ok ⟨w.heap.size, 0, none⟩ w' ∧ R kf kt w0 (fm ++ [(⟨w.heap.size, 0, none⟩, lim)]) (S ++ [.own tag cs]) w' := by
  refine ⟨{ w with heap := w.heap.push (.cells c elem) }, by simp [newRow], ?_⟩
  exact h.push ht (fun i _ => by simp) hl hc hv

theorem VRs.cellsOf {us : List AV} {c : Array Value} (h : VRs kf fm us c.toList) (hs : ∀ u ∈ us, u.sc = true) :
    ∀ (i : Nat) (u : AV), us[i]? = some u → u.sc = true ∧ ∃ v, c[i]? = some v ∧ VR kf fm u v := fun i u hu => by
  obtain ⟨v, hv, hr⟩ := h.get hu
  exact ⟨hs u (List.mem_of_getElem? hu), v, by simpa using hv, hr⟩

theorem fm_new (h : R kf kt w0 fm S w) (q : Addr × Nat) : (fm ++ [q])[S.length]? = some q := by rw [← h.len]; simp

theorem ok_newVar {elem : TypeId} {v : Value} {us : List AV} (h : R kf kt w0 fm S w) (hv : VRs kf fm us v.cells.toList) (hs : ∀ u ∈ us, u.sc = true) :
    ∃ w', (newVar elem v).run P w = .ok ⟨w.heap.size, 0, none⟩ w' ∧ R kf kt w0 (fm ++ [(⟨w.heap.size, 0, none⟩, us.length)]) (S ++ [.own (kt elem) us]) w' := by
  have hl := hv.length
  exact ok_newRow (P := P) h rfl (by simp at hl; omega) (Nat.le_refl _) (VRs.cellsOf hv hs)

theorem ok_alloc {elem : TypeId} {z : List AV} (h : R kf kt w0 fm S w) (hz : zeroT P kf elem = some z) :
    Ok1 kf kt w0 fm w P (Instr.alloc elem true (.tuple #[])) (.ptr S.length 0) (S ++ [.own (kt elem) z]) := by
  obtain ⟨i, zv, hi, hz1, hm, _⟩ := zeroT_spec hz
  obtain ⟨h1, h2⟩ := mapO_rel (fm := fm) hm
  obtain ⟨w', hr, h'⟩ := ok_newVar (P := P) (elem := elem) h h1 h2
  refine ⟨_, .pointer (some ⟨w.heap.size, 0, none⟩), w', ?_, h', ?_⟩
  · simp [Instr.alloc, run_zero hi hz1, hr]
  · simp only [VR]; exact ⟨_, fm_new h _, by rw [add_zero]⟩

theorem ok_box {elem : TypeId} {v : AV} {u : Value} {us : List AV} (h : R kf kt w0 fm S w) (hv : VR kf fm v u) (hf : v.flat = some us) :
    Ok1 kf kt w0 fm w P (Instr.box elem u) (.ptr S.length 0) (S ++ [.own (kt elem) us]) := by
  obtain ⟨h1, h2⟩ := flat_rel hv hf
  obtain ⟨w', hr, h'⟩ := ok_newVar (P := P) (elem := elem) h h1 h2
  refine ⟨_, .pointer (some ⟨w.heap.size, 0, none⟩), w', ?_, h', ?_⟩
  · simp [Instr.box, hr]
  · simp only [VR]; exact ⟨_, fm_new h _, by rw [add_zero]⟩

/-! ### Aggregates -/

theorem foldl_put (vs : Array Value) (off : Nat) (cs : Array Value) :
    (vs.zipIdx.foldl (fun cs (x : Value × Nat) => cs.setIfInBounds (off + x.2) x.1) cs).toList = putV cs.toList off vs.toList := by
  have key : ∀ (l : List Value) (k : Nat) (cs : Array Value), ((l.zipIdx k).foldl (fun cs (x : Value × Nat) => cs.setIfInBounds (off + x.2) x.1) cs).toList = putV cs.toList (off + k) l := by
    intro l
    induction l with
    | nil => intro k cs; rfl
    | cons v l ih => intro k cs; simp only [List.zipIdx_cons, List.foldl_cons, putV]; rw [ih]; simp [Nat.add_assoc]
  have := key vs.toList 0 cs
  rw [← Array.foldl_toList]
  simpa using this

theorem fill_rel (place : Nat → Option (Nat × Nat)) : ∀ (ps : List (Nat × Nat)) (vs : List AV) (parts : List (Nat × Value)) (z cs : List AV) (zw : Array Value),
    fill ps vs z = some cs → VRs kf fm z zw.toList → (∀ u ∈ z, u.sc = true) → VRs kf fm vs (parts.map (·.2)) → parts.map (fun p => place p.1) = ps.map some →
    ∃ cw, Instr.fill place zw parts = some cw ∧ VRs kf fm cs cw.toList ∧ (∀ u ∈ cs, u.sc = true) ∧ cs.length = z.length
  | [], vs, parts, z, cs, zw, hf, hz, hs, hv, hp => by
    cases parts with
    | nil => cases vs <;> simp [fill] at hf; subst hf; exact ⟨zw, rfl, hz, hs, rfl⟩
    | cons p parts => simp at hp
  | (off, size) :: ps, [], parts, z, cs, zw, hf, _, _, _, _ => by simp [fill] at hf
  | (off, size) :: ps, v :: vs, parts, z, cs, zw, hf, hz, hs, hv, hp => by
    cases parts with
    | nil => simp at hp
    | cons p parts =>
      obtain ⟨j, x⟩ := p
      simp only [List.map_cons, List.cons.injEq] at hp
      obtain ⟨hp1, hp2⟩ := hp
      simp only [List.map_cons, VRs] at hv
      obtain ⟨u, us, he, hv1, hv2⟩ := hv
      cases he
      simp only [fill] at hf
      cases hfl : v.flat with
      | none => simp [hfl] at hf
      | some fs =>
        simp only [hfl, Option.bind_some] at hf
        split at hf
        · rename_i hc
          obtain ⟨h1, h2⟩ := flat_rel hv1 hfl
          have hl1 := h1.length
          have hlz := hz.length
          have hsz : x.cells.size = size := by rw [← hc.1]; simpa using hl1
          have hzz : zw.size = z.length := by simpa using hlz
          have hput := put_rel fs x.cells.toList z zw.toList 0 off h1 h2 (by simp; omega) (fun i u hu => by
            obtain ⟨v', hv', hr'⟩ := hz.get hu
            exact ⟨hs u (List.mem_of_getElem? hu), v', by simpa using hv', hr'⟩)
          simp only [Nat.zero_add] at hput
          obtain ⟨cw, h3, h4, h5, h6⟩ := fill_rel place ps vs parts (putAt z off fs) cs
            (x.cells.zipIdx.foldl (fun cs (y : Value × Nat) => cs.setIfInBounds (off + y.2) y.1) zw) hf
            (by
              rw [foldl_put]
              refine VRs.of_get (by rw [putV_length, putAt_length]; simpa using hlz) fun i c hcc => ?_
              obtain ⟨_, v', hv', hr'⟩ := hput i c hcc
              exact ⟨v', by simpa using hv', hr'⟩)
            (fun u hu => by
              obtain ⟨i, hi⟩ := List.getElem?_of_mem hu
              exact (hput i u hi).1) hv2 hp2
          refine ⟨cw, ?_, h4, h5, by rw [h6, putAt_length]⟩
          simp only [Instr.fill, hp1]
          rw [if_neg (by simp; omega)]
          exact h3
        · cases hf

theorem partsT_run {fs : Array Field} {pl : List (Nat × Nat)} (h : partsT P fs = some pl) (w : World) :
    (fs.mapM (fun f => Prod.mk f.offset <$> Go.sizeOf f.type)).run P w = .ok pl.toArray w := by
  have key : ∀ (l : List Field) (pl : List (Nat × Nat)), mapO (fun f => (sizeT P f.type).map fun n => (f.offset, n)) l = some pl →
      (l.mapM (fun f => Prod.mk f.offset <$> Go.sizeOf f.type)).run P w = .ok pl w := by
    intro l
    induction l with
    | nil => intro pl h; simp [mapO] at h; subst h; rfl
    | cons f l ih =>
      intro pl h
      simp only [mapO] at h
      cases hs : sizeT P f.type with
      | none => simp [hs] at h
      | some n =>
        cases hr : mapO (fun f => (sizeT P f.type).map fun n => (f.offset, n)) l with
        | none => simp [hr] at h
        | some pl' =>
          simp [hs, hr] at h
          subst h
          have := ih pl' hr
          simp only [List.mapM_cons, Sem.run_bind, Sem.run_map, run_sizeT hs, Result.andThen_ok, Sem.run_pure, this]
  have h1 := key fs.toList pl h
  rw [Array.mapM_eq_mapM_toList]
  simp only [Sem.run_map, h1, Result.andThen_ok]

theorem mapO_spec {α β : Type} {f : α → Option β} : ∀ {l : List α} {r : List β}, mapO f l = some r → l.map f = r.map some
  | [], r, h => by simp [mapO] at h; subst h; rfl
  | x :: l, r, h => by
    simp only [mapO] at h
    cases hx : f x with
    | none => simp [hx] at h
    | some y =>
      cases hl : mapO f l with
      | none => simp [hx, hl] at h
      | some r' => simp [hx, hl] at h; subst h; simp [hx, mapO_spec hl]

theorem ok_buildS {t : TypeId} {fs : Array Field} {z : List AV} {pl ps : List (Nat × Nat)} {parts : Array (Nat × Value)} {vs cs : List AV} (h : R kf kt w0 fm S w)
    (hu : P.underlying t = some (.struct fs)) (hz : zeroT P kf t = some z) (hpl : partsT P fs = some pl) (hps : parts.toList.map (fun p => pl[p.1]?) = ps.map some)
    (hv : VRs kf fm vs (parts.toList.map (·.2))) (hf : fill ps vs z = some cs) : Ok1 kf kt w0 fm w P (Instr.build t parts) (.agg cs) S := by
  obtain ⟨i, zv, hi, hz1, hm, _⟩ := zeroT_spec hz
  obtain ⟨h1, h2⟩ := mapO_rel (fm := fm) hm
  obtain ⟨cw, h3, h4, h5, _⟩ := fill_rel (kf := kf) (fm := fm) (fun i => pl[i]?) ps vs parts.toList z cs zv.cells hf h1 h2 hv hps
  refine Ok1.mk h (u := .agg cw) ?_ (by simp only [VR]; exact ⟨_, rfl, h5, h4⟩)
  simp [Instr.build, run_zero hi hz1, run_underlying hu, partsT_run hpl, h3]

theorem ok_buildA {t e : TypeId} {m n : Nat} {z : List AV} {ps : List (Nat × Nat)} {parts : Array (Nat × Value)} {vs cs : List AV} (h : R kf kt w0 fm S w)
    (hu : P.underlying t = some (.array m e)) (hz : zeroT P kf t = some z) (hn : sizeT P e = some n) (hps : ps = parts.toList.map fun p => (p.1 * n, n))
    (hv : VRs kf fm vs (parts.toList.map (·.2))) (hf : fill ps vs z = some cs) : Ok1 kf kt w0 fm w P (Instr.build t parts) (.agg cs) S := by
  obtain ⟨i, zv, hi, hz1, hm, _⟩ := zeroT_spec hz
  obtain ⟨h1, h2⟩ := mapO_rel (fm := fm) hm
  obtain ⟨cw, h3, h4, h5, _⟩ := fill_rel (kf := kf) (fm := fm) (fun i => some (i * n, n)) ps vs parts.toList z cs zv.cells hf h1 h2 hv (by rw [hps]; simp)
  refine Ok1.mk h (u := .agg cw) ?_ (by simp only [VR]; exact ⟨_, rfl, h5, h4⟩)
  simp [Instr.build, run_zero hi hz1, run_underlying hu, run_sizeT hn, h3]

/-! ### Rows of zero values -/

theorem rep_length (n : Nat) (z : List AV) : (rep n z).length = n * z.length := by
  induction n with
  | zero => simp [rep]
  | succ n ih => simp [rep, ih, Nat.succ_mul]; omega

theorem rep_get : ∀ (n : Nat) (z : List AV) (i : Nat), i < n * z.length → (rep n z)[i]? = z[i % z.length]?
  | 0, z, i, h => by simp at h
  | n + 1, z, i, h => by
    simp only [rep]
    by_cases hlt : i < z.length
    · rw [List.getElem?_append_left hlt, Nat.mod_eq_of_lt hlt]
    · rw [List.getElem?_append_right (by omega), rep_get n z (i - z.length) (by rw [Nat.succ_mul] at h; omega)]
      congr 1
      exact (Nat.mod_eq_sub_mod (by omega)).symm

theorem rep_sc {n : Nat} {z : List AV} (h : ∀ u ∈ z, u.sc = true) : ∀ u ∈ rep n z, u.sc = true := by
  induction n with
  | zero => simp [rep]
  | succ n ih => intro u hu; simp [rep] at hu; rcases hu with hu | hu; exact h u hu; exact ih u hu

theorem rep_rel {n : Nat} {z : List AV} {zv : Array Value} (h : VRs kf fm z zv.toList) : VRs kf fm (rep n z) ((Array.range (n * zv.size)).map (fun i => zv[i % zv.size]!)).toList := by
  have hl := h.length
  have hsz : zv.size = z.length := by simpa using hl
  refine VRs.of_get (by simp [rep_length, hsz]) fun i c hc => ?_
  have hi : i < n * z.length := by rw [← rep_length]; exact (List.getElem?_eq_some_iff.1 hc).1
  rw [rep_get n z i hi] at hc
  obtain ⟨v, hv, hr⟩ := h.get hc
  refine ⟨v, ?_, hr⟩
  have hv' : zv[i % z.length]? = some v := by simpa using hv
  simp only [Array.toList_map, Array.toList_range, List.getElem?_map, List.getElem?_range (hsz ▸ hi), Option.map_some]
  rw [hsz, getElem!_def, hv']

theorem ok_bslice {t e : TypeId} {n : Nat} {z : List AV} {ps : List (Nat × Nat)} {parts : Array (Nat × Value)} {vs cs : List AV} (h : R kf kt w0 fm S w)
    (hu : P.underlying t = some (.slice e)) (hz : zeroT P kf e = some z) (hbig : ¬ n * z.length > 2 ^ 24) (hps : ps = parts.toList.map fun p => (p.1 * z.length, z.length))
    (hv : VRs kf fm vs (parts.toList.map (·.2))) (hf : fill ps vs (rep n z) = some cs) :
    Ok1 kf kt w0 fm w P (Instr.buildSlice t n parts) (.sl S.length 0 n n none) (S ++ [.own (kt e) cs]) := by
  obtain ⟨i, zv, hi, hz1, hm, hlen⟩ := zeroT_spec hz
  obtain ⟨h1, h2⟩ := mapO_rel (fm := fm) hm
  have hl1 := h1.length
  have hzs : zv.cells.size = z.length := by simpa using hl1
  obtain ⟨cw, h3, h4, h5, h6⟩ := fill_rel (kf := kf) (fm := fm) (fun i => some (i * z.length, z.length)) ps vs parts.toList (rep n z) cs _ hf (rep_rel (n := n) h1) (rep_sc h2) hv (by rw [hps]; simp)
  have hcl := h4.length
  obtain ⟨w', hr, h'⟩ := ok_newRow (P := P) (elem := e) (c := cw) (cs := cs) (lim := cs.length) h rfl (by simp at hcl; omega) (Nat.le_refl _) (VRs.cellsOf h4 h5)
  refine ⟨_, .slice (some ⟨w.heap.size, 0, none⟩) n n, w', ?_, h', ?_⟩
  · have hsz : (Go.sizeOf e).run P w = .ok z.length w := by rw [run_size hi]; rw [hlen]
    simp only [Instr.buildSlice, Sem.run_bind, run_underlying hu, Result.andThen_ok, hsz]
    rw [if_neg hbig]
    rw [hzs] at h3
    by_cases h0 : n * z.length = 0
    · rw [if_pos h0]
      have h3' : Instr.fill (fun i => some (i * z.length, z.length)) (Array.map (fun x => (#[] : Array Value)[x % (#[] : Array Value).size]!) (Array.range (n * z.length))) parts.toList = some cw := by
        have e0 : ∀ f : Nat → Value, Array.map f (Array.range 0) = #[] := fun f => by rw [show Array.range 0 = #[] from by simp [Array.range]]; simp
        rw [← h3, h0, e0, e0]
      simp only [Sem.run_bind, Sem.run_pure, Result.andThen_ok, h3', hr]
    · rw [if_neg h0]
      simp only [Sem.run_bind, Sem.run_pure, Result.andThen_ok, run_zero hi hz1, hzs, h3, hr]
  · simp only [VR]
    exact ⟨_, n, _, fm_new h _, rfl, Nat.le_refl _, Nat.le_refl _, Nat.le_refl _, .inl (by rw [add_zero]), fun _ => rfl, fun es he => by cases he⟩
end
end Am
