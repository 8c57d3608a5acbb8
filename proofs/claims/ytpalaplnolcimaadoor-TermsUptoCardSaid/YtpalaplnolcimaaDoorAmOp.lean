/- Every operation that the compiler takes, but for calls: one step of the model is one step here. -/
import Derived.Test.YtpalaplnolcimaaDoorAmOpB
namespace Am
open Go Go.RowKit

section
variable {kf kt : Nat → Nat} {w0 : Base} {fm : FM} {S : St} {w : World} {P : Program}
variable {call : AV → List AV → St → Option (AV × St)}

set_option maxHeartbeats 1000000 in
/-- One operation that is no call. -/
theorem sim_op {o : Oper} {k : OpK} {xs : List Operand} {vs : List AV} {v : AV} {S' : St} {ρ : Operand → Value} (hR : R kf kt w0 fm S w) (hk : compK P kf kt o.op = some (k, xs)) (hc : NoCall k)
    (hv : VRs kf fm vs (xs.map ρ)) (hconst : ∀ c, ρ (.const c) = c) (ha : ap call k vs S = some (v, S')) : Done kf kt w0 fm w P (execOp ρ o) v S' := by
  obtain ⟨dst, op, type, pos, after, guard⟩ := o
  cases op <;> simp only [compK] at hk
  case move x =>
    cases hk
    obtain ⟨x', rfl, h1⟩ := inv1 hv
    simp only [ap] at ha; cases ha
    exact ⟨[], ρ x, w, .inl rfl, by simpa using hR, by simpa using h1⟩
  case assign x =>
    cases hk
    obtain ⟨x', rfl, h1⟩ := inv1 hv
    simp only [ap] at ha; cases ha
    exact ⟨[], ρ x, w, .inl rfl, by simpa using hR, by simpa using h1⟩
  case pick c a b =>
    cases hk
    obtain ⟨x, y, z, rfl, h1, h2, h3⟩ := inv3 hv
    cases x <;> (try (simp [ap] at ha; done))
    simp only [ap] at ha; cases ha
    obtain ⟨ext, u, w', hr, h4, h5⟩ := ok_pick (P := P) hR h1 h2 h3
    refine ⟨ext, u, w', .inl ?_, h4, h5⟩
    simp only [execOp]
    simp only [Sem.run_bind, Sem.run_pure] at hr ⊢
    revert hr
    cases h : (asBool (ρ c)).run P w <;> simp
  case alloc e =>
    cases hz : zeroT P kf e with
    | none => simp [hz] at hk
    | some z =>
      simp [hz] at hk; obtain ⟨rfl, rfl⟩ := hk
      obtain rfl := inv0 hv
      simp only [ap] at ha; cases ha
      exact (ok_alloc hR hz).done
  case box e x =>
    cases hk
    obtain ⟨x', rfl, h1⟩ := inv1 hv
    simp only [ap] at ha
    cases hf : x'.flat with
    | none => simp [hf] at ha
    | some cs => simp [hf] at ha; obtain ⟨rfl, rfl⟩ := ha; exact (ok_box hR h1 hf).done
  case build t parts =>
    split at hk
    · rename_i fs hu
      cases hz : zeroT P kf t with
      | none => simp [hz] at hk
      | some z =>
        cases hp : partsT P fs with
        | none => simp [hz, hp] at hk
        | some pl =>
          cases hm : mapO (fun (p : Nat × Operand) => pl[p.1]?) parts.toList with
          | none => simp [hz, hp, hm] at hk
          | some l =>
            simp [hz, hp, hm] at hk; obtain ⟨rfl, rfl⟩ := hk
            simp only [ap] at ha
            cases hf : fill l vs z with
            | none => simp [hf] at ha
            | some cs =>
              simp [hf] at ha; obtain ⟨rfl, rfl⟩ := ha
              have hmm := mapO_spec hm
              exact (ok_buildS (parts := parts.map fun (i, x) => (i, ρ x)) hR hu hz hp (by rw [← hmm]; simp [Function.comp_def]) (by simpa [Function.comp_def] using hv) hf).done
    · rename_i m e hu
      cases hz : zeroT P kf t with
      | none => simp [hz] at hk
      | some z =>
        cases hn : sizeT P e with
        | none => simp [hz, hn] at hk
        | some n =>
          simp [hz, hn] at hk; obtain ⟨rfl, rfl⟩ := hk
          simp only [ap] at ha
          cases hf : fill (parts.toList.map fun p => (p.1 * n, n)) vs z with
          | none => simp [hf] at ha
          | some cs =>
            simp [hf] at ha; obtain ⟨rfl, rfl⟩ := ha
            exact (ok_buildA (parts := parts.map fun (i, x) => (i, ρ x)) hR hu hz hn (by simp [Function.comp_def]) (by simpa [Function.comp_def] using hv) hf).done
    · cases hk
  case buildSlice t len parts =>
    split at hk
    · rename_i e hu
      cases hz : zeroT P kf e with
      | none => simp [hz] at hk
      | some z =>
        simp only [hz, Option.bind_some] at hk
        split at hk
        · cases hk
        · rename_i hbig
          cases hk
          simp only [ap] at ha
          cases hf : fill (parts.toList.map fun p => (p.1 * z.length, z.length)) vs (rep len z) with
          | none => simp [hf] at ha
          | some cs =>
            simp [hf] at ha; obtain ⟨rfl, rfl⟩ := ha
            exact (ok_bslice (parts := parts.map fun (i, x) => (i, ρ x)) hR hu hz hbig (by simp [Function.comp_def]) (by simpa [Function.comp_def] using hv) hf).done
    · cases hk
  case load t a =>
    split at hk
    · rename_i ht
      cases hn : sizeT P t with
      | none => simp [hn] at hk
      | some n =>
        simp [hn] at hk; obtain ⟨rfl, rfl⟩ := hk
        obtain ⟨x, rfl, h1⟩ := inv1 hv
        cases x <;> (try (simp [ap] at ha; done))
        simp only [ap] at ha
        rename_i b o
        cases hl : S.loadN b o n with
        | none => simp [hl] at ha
        | some us => simp [hl] at ha; obtain ⟨rfl, rfl⟩ := ha; exact (ok_loadN hR ht hn h1 hl).done
    · rename_i ht
      cases hk
      obtain ⟨x, rfl, h1⟩ := inv1 hv
      cases x <;> (try (simp [ap] at ha; done))
      simp only [ap] at ha
      rename_i b o
      cases hl : S.load1 b o with
      | none => simp [hl] at ha
      | some us => simp [hl] at ha; obtain ⟨rfl, rfl⟩ := ha; exact (ok_load1 hR ht h1 hl).done
    · cases hk
  case store t a x =>
    cases hn : sizeT P t with
    | none => simp [hn] at hk
    | some n =>
      simp [hn] at hk; obtain ⟨rfl, rfl⟩ := hk
      obtain ⟨y, z, rfl, h1, h2⟩ := inv2 hv
      cases y <;> (try (simp [ap] at ha; done))
      simp only [ap] at ha
      rename_i b o
      cases hf : z.flat with
      | none => simp [hf] at ha
      | some us =>
        simp only [hf, Option.bind_some] at ha
        split at ha
        · rename_i hl
          cases hs : S.storeN b o us with
          | none => simp [hs] at ha
          | some S1 =>
            simp [hs] at ha; obtain ⟨rfl, rfl⟩ := ha
            obtain ⟨w', hr, h'⟩ := ok_store (P := P) hR hn h1 h2 hf hl hs
            exact ⟨[], undef, w', .inr ⟨by simp [execOp, hr], rfl⟩, by simpa using h', by simpa using undef_rel⟩
        · cases ha
  case nilCheck x =>
    cases hk
    obtain ⟨y, rfl, h1⟩ := inv1 hv
    cases y <;> (try (simp [ap] at ha; done)) <;> simp only [ap] at ha <;> cases ha
    · exact ⟨[], ρ x, w, .inl (ok_nilCheck h1 (.inl ⟨_, _, rfl⟩) ρ x rfl _ _ _ _ _), by simpa using hR, by simpa using h1⟩
    · exact ⟨[], ρ x, w, .inl (ok_nilCheck h1 (.inr (.inl ⟨_, _, rfl⟩)) ρ x rfl _ _ _ _ _), by simpa using hR, by simpa using h1⟩
    · exact ⟨[], ρ x, w, .inl (ok_nilCheck h1 (.inr (.inr ⟨_, rfl⟩)) ρ x rfl _ _ _ _ _), by simpa using hR, by simpa using h1⟩
  case binOp op t x y yt =>
    unfold compBin at hk
    split at hk
    · cases hk
      obtain ⟨y1, z1, rfl, h1, h2⟩ := inv2 hv
      cases y1 <;> (try (simp [ap] at ha; done))
      cases z1 <;> (try (simp [ap] at ha; done))
      simp only [ap] at ha
      rename_i k1 n1 k2 n2
      split at ha
      · rename_i hkk
        cases hb : binI op k1 n1 n2 with
        | none => simp [hb] at ha
        | some r => simp [hb] at ha; obtain ⟨rfl, rfl⟩ := ha; exact (ok_binI (ox := x) (oy := y) (t := t) hR h1 h2 hkk hb).done
      · cases ha
    · cases hk
      obtain ⟨y1, z1, rfl, h1, h2⟩ := inv2 hv
      cases y1 <;> (try (simp [ap] at ha; done))
      cases z1 <;> (try (simp [ap] at ha; done))
      simp only [ap] at ha
      rename_i s1 s2
      cases hb : binS op s1 s2 with
      | none => simp [hb] at ha
      | some r => simp [hb] at ha; obtain ⟨rfl, rfl⟩ := ha; exact (ok_binS (ox := x) (oy := y) (t := t) hR h1 h2 hb).done
    · rename_i hu
      split at hk <;> (try (cases hk; done)) <;> cases hk <;> obtain ⟨y1, z1, rfl, h1, h2⟩ := inv2 hv <;> cases y1 <;> (try (simp [ap] at ha; done)) <;> cases z1 <;> (try (simp [ap] at ha; done)) <;> simp only [ap] at ha <;> cases ha
      · exact (ok_eqB (neg := false) (ox := x) (oy := y) hR hu rfl h1 h2).done
      · exact (ok_eqB (neg := true) (ox := x) (oy := y) hR hu rfl h1 h2).done
    · rename_i fs hu
      cases hp : plainStruct P t fs with
      | none => simp [hp] at hk
      | some ks =>
        simp only [hp, Option.bind_some] at hk
        split at hk <;> (try (cases hk; done)) <;> cases hk <;> obtain ⟨y1, z1, rfl, h1, h2⟩ := inv2 hv <;> cases y1 <;> (try (simp [ap] at ha; done)) <;> cases z1 <;> (try (simp [ap] at ha; done)) <;> simp only [ap] at ha <;>
          rename_i as bs <;> cases hr : eqCells ks as bs <;> simp [hr] at ha <;> obtain ⟨rfl, rfl⟩ := ha
        · have h9 := (ok_eqA (neg := false) (ox := x) (oy := y) hR hu hp rfl h1 h2 hr).done
          rw [Bool.bne_false] at h9; exact h9
        · have h9 := (ok_eqA (neg := true) (ox := x) (oy := y) hR hu hp rfl h1 h2 hr).done
          rw [Bool.bne_true] at h9; exact h9
    · rename_i d _ _ _ _ hu
      have hcy : ∀ c, nilKind d y = some c → ∃ cv, y = .const cv := by
        intro c hn; unfold nilKind at hn; split at hn <;> first | exact ⟨_, rfl⟩ | cases hn
      split at hk <;> (try (cases hk; done)) <;> rename_i hn <;> cases hk <;> obtain ⟨y1, rfl, h1⟩ := inv1 hv <;> simp only [ap] at ha <;> obtain ⟨cv, rfl⟩ := hcy _ hn <;> rename_i c <;> cases hr : nilIs c y1 <;> simp [hr] at ha <;> obtain ⟨rfl, rfl⟩ := ha
      · have h9 := (ok_isNil (neg := false) (ox := x) (b := ρ (.const cv)) hR hu hn (by rw [hconst]) rfl h1 hr).done
        rw [Bool.bne_false] at h9; exact h9
      · have h9 := (ok_isNil (neg := true) (ox := x) (b := ρ (.const cv)) hR hu hn (by rw [hconst]) rfl h1 hr).done
        rw [Bool.bne_true] at h9; exact h9
    · cases hk
  case unOp op t x =>
    split at hk <;> (try (cases hk; done)) <;> cases hk <;> obtain ⟨y1, rfl, h1⟩ := inv1 hv <;> cases y1 <;> (try (simp [ap] at ha; done)) <;> simp only [ap] at ha <;> cases ha
    · exact (ok_notB hR h1).done
    · exact (ok_negI hR h1).done
    · exact (ok_xorI hR h1).done
  case convert src dst' x =>
    unfold compConv at hk
    split at hk
    · rename_i hs hd
      cases hk
      obtain ⟨y1, rfl, h1⟩ := inv1 hv
      cases y1 <;> (try (simp [ap] at ha; done)) <;> simp only [ap] at ha <;> cases ha
      exact (ok_conv hR hs hd h1).done
    · rename_i hs hd
      cases hk
      obtain ⟨y1, rfl, h1⟩ := inv1 hv
      cases y1 <;> (try (simp [ap] at ha; done)) <;> simp only [ap] at ha <;> cases ha
      exact (ok_idS hR hs hd h1).done
    · rename_i e hs hd
      split at hk <;> (try (cases hk; done))
      rename_i he
      cases hk
      obtain ⟨y1, rfl, h1⟩ := inv1 hv
      cases y1 <;> (try (simp [ap] at ha; done)) <;> simp only [ap] at ha
      · rename_i b o len cap g
        cases hl : S.loadN b o len with
        | none => simp [hl] at ha
        | some cs =>
          simp only [hl, Option.bind_some] at ha
          cases hb : bytesOf cs with
          | none => simp [hb] at ha
          | some s => simp [hb] at ha; obtain ⟨rfl, rfl⟩ := ha; exact (ok_b2s hR hs he hd h1 hl hb).done
      · cases ha; exact (ok_b2sNil hR hs he hd h1).done
    · rename_i e hs hd
      split at hk <;> (try (cases hk; done))
      rename_i he
      cases hk
      obtain ⟨y1, rfl, h1⟩ := inv1 hv
      cases y1 <;> (try (simp [ap] at ha; done)) <;> simp only [ap] at ha <;> cases ha
      exact (ok_s2b hR hs hd he h1).done
    · cases hk
  case makeInterface t x =>
    split at hk
    · cases hk
    · rename_i d _ hu
      cases hk
      obtain ⟨y1, rfl, h1⟩ := inv1 hv
      simp only [ap] at ha; cases ha
      exact (ok_mkifc hR hu (by intro ms h; subst h; simp_all) h1).done
    · cases hk
  case makeFunc fn first caps =>
    cases fn <;> simp only at hk <;> (try (cases hk; done))
    split at hk
    · rename_i hz
      cases hk
      simp only [ap] at ha; cases ha
      have he : first = #[] := Array.eq_empty_of_size_eq_zero hz
      subst he
      have := (ok_mkfn (P := P) (f := ‹FuncId›) (caps := caps.map ρ) hR (by simpa using hv)).done
      simpa [execOp] using this
    · cases hk
  case makeSlice t l c =>
    split at hk
    · rename_i e hu
      cases hi : P.info? e with
      | none => simp [hi] at hk
      | some i =>
        cases hz : zeroT P kf e with
        | none => simp [hz] at hk
        | some z =>
          simp [hi, hz] at hk; obtain ⟨rfl, rfl⟩ := hk
          obtain ⟨y1, z1, rfl, h1, h2⟩ := inv2 hv
          simp only [ap] at ha
          cases hl : natOf y1 with
          | none => simp [hl] at ha
          | some nl =>
            cases hc' : natOf z1 with
            | none => simp [hl, hc'] at ha
            | some nc =>
              simp only [hl, hc', Option.bind_some] at ha
              split at ha
              · rename_i hh
                cases ha
                exact (ok_mkslice hR hu hi hz h1 h2 hl hc' hh.1 hh.2.1 hh.2.2).done
              · cases ha
    · cases hk
  case slice t x lo hi mx =>
    split at hk
    · rename_i hu
      split at hk
      · cases hk
      · rename_i hmx
        have hmx' : mx = none := by cases mx <;> simp_all
        subst hmx'
        cases hk
        rw [List.map_cons, opt_split] at hv
        obtain ⟨y1, as, rfl, h1, h2⟩ := invc hv
        cases y1 <;> (try (simp [ap] at ha; done))
        simp only [ap] at ha
        rename_i s
        cases hb : bounds lo.isSome hi.isSome false as s.length s.length with
        | none => simp [hb] at ha
        | some r =>
          obtain ⟨l, h, m⟩ := r
          simp [hb] at ha; obtain ⟨rfl, rfl⟩ := ha
          have := (ok_slS (vlo := lo.map ρ) (vhi := hi.map ρ) hR hu h1 hb (by simpa using h2) (by simp) (by simp)).done
          simpa [execOp] using this
    · rename_i e hu
      cases hs : sizeT P e with
      | none => simp [hs] at hk
      | some es =>
        simp [hs] at hk; obtain ⟨rfl, rfl⟩ := hk
        rw [List.map_cons, opt_split] at hv
        obtain ⟨y1, as, rfl, h1, h2⟩ := invc hv
        cases y1 <;> (try (simp [ap] at ha; done))
        · rename_i b o len cap g
          simp only [ap] at ha
          split at ha
          · rename_i hg
            cases hb : bounds lo.isSome hi.isSome mx.isSome as len cap with
            | none => simp [hb] at ha
            | some r =>
              obtain ⟨l, h, m⟩ := r
              simp only [hb, Option.map_some, Option.some.injEq, Prod.mk.injEq] at ha; obtain ⟨rfl, rfl⟩ := ha
              exact (ok_slL hR hu hs h1 hb h2 (by simp) (by simp) (by simp) hg).done
          · cases ha
        · simp only [ap] at ha
          cases hb : bounds lo.isSome hi.isSome mx.isSome as 0 0 with
          | none => simp [hb] at ha
          | some r =>
            obtain ⟨l, h, m⟩ := r
            simp [hb] at ha; obtain ⟨rfl, rfl⟩ := ha
            exact (ok_slNil hR hu hs h1 hb h2 (by simp) (by simp) (by simp)).done
    · rename_i n e hu
      cases hs : sizeT P e with
      | none => simp [hs] at hk
      | some es =>
        simp [hs] at hk; obtain ⟨rfl, rfl⟩ := hk
        rw [List.map_cons, opt_split] at hv
        obtain ⟨y1, as, rfl, h1, h2⟩ := invc hv
        cases y1 <;> (try (simp [ap] at ha; done))
        simp only [ap] at ha
        cases hb : bounds lo.isSome hi.isSome mx.isSome as n n with
        | none => simp [hb] at ha
        | some r =>
          obtain ⟨l, h, m⟩ := r
          simp only [hb, Option.map_some, Option.some.injEq, Prod.mk.injEq] at ha; obtain ⟨rfl, rfl⟩ := ha
          exact (ok_slA hR hu hs h1 hb h2 (by simp) (by simp) (by simp)).done
    · rename_i a hu
      split at hk <;> (try (cases hk; done))
      rename_i n e hu2
      cases hs : sizeT P e with
      | none => simp [hs] at hk
      | some es =>
        simp [hs] at hk; obtain ⟨rfl, rfl⟩ := hk
        rw [List.map_cons, opt_split] at hv
        obtain ⟨y1, as, rfl, h1, h2⟩ := invc hv
        cases y1 <;> (try (simp [ap] at ha; done))
        simp only [ap] at ha
        cases hb : bounds lo.isSome hi.isSome mx.isSome as n n with
        | none => simp [hb] at ha
        | some r =>
          obtain ⟨l, h, m⟩ := r
          simp only [hb, Option.map_some, Option.some.injEq, Prod.mk.injEq] at ha; obtain ⟨rfl, rfl⟩ := ha
          exact (ok_slP hR hu hu2 hs h1 hb h2 (by simp) (by simp) (by simp)).done
    · cases hk
  case fieldAddr s x f =>
    split at hk <;> (try (cases hk; done))
    rename_i fs hu
    split at hk <;> (try (cases hk; done))
    rename_i fd hf
    split at hk <;> (try (cases hk; done))
    rename_i n hn
    cases hk
    obtain ⟨y1, rfl, h1⟩ := inv1 hv
    cases y1 <;> (try (simp [ap] at ha; done))
    simp only [ap] at ha; cases ha
    exact (ok_fadr hR hu hf hn h1).done
  case field t x f =>
    split at hk <;> (try (cases hk; done))
    rename_i fs hu
    split at hk <;> (try (cases hk; done))
    rename_i fd hf
    split at hk <;> (try (cases hk; done))
    · rename_i hg
      cases hn : sizeT P fd.type with
      | none => simp [hn] at hk
      | some n =>
        simp [hn] at hk; obtain ⟨rfl, rfl⟩ := hk
        obtain ⟨y1, rfl, h1⟩ := inv1 hv
        cases y1 <;> (try (simp [ap] at ha; done))
        simp only [ap] at ha
        split at ha <;> cases ha
        exact (ok_fldN hR hu hf hg hn h1).done
    · rename_i hg
      cases hk
      obtain ⟨y1, rfl, h1⟩ := inv1 hv
      cases y1 <;> (try (simp [ap] at ha; done))
      simp only [ap] at ha
      rename_i cs
      cases hc' : cs[fd.offset]? with
      | none => simp [hc'] at ha
      | some c => simp [hc'] at ha; obtain ⟨rfl, rfl⟩ := ha; exact (ok_fld1 hR hu hf hg h1 hc').done
  case indexAddr t x i =>
    split at hk <;> (try (cases hk; done))
    · rename_i e hu
      cases hs : sizeT P e with
      | none => simp [hs] at hk
      | some es =>
        simp [hs] at hk; obtain ⟨rfl, rfl⟩ := hk
        obtain ⟨y1, z1, rfl, h1, h2⟩ := inv2 hv
        cases y1 <;> (try (simp [ap] at ha; done))
        simp only [ap] at ha
        cases hn : natOf z1 with
        | none => simp [hn] at ha
        | some n =>
          simp only [hn, Option.bind_some] at ha
          split at ha <;> cases ha
          rename_i hlt
          exact (ok_iadr hR hu hs h1 h2 hn hlt).done
    · rename_i m e hu
      cases hs : sizeT P e with
      | none => simp [hs] at hk
      | some es =>
        simp [hs] at hk; obtain ⟨rfl, rfl⟩ := hk
        obtain ⟨y1, z1, rfl, h1, h2⟩ := inv2 hv
        cases y1 <;> (try (simp [ap] at ha; done))
        simp only [ap] at ha
        cases hn : natOf z1 with
        | none => simp [hn] at ha
        | some n =>
          simp only [hn, Option.bind_some] at ha
          split at ha <;> cases ha
          rename_i hlt
          exact (ok_iadrA hR hu hs h1 h2 hn hlt).done
  case index t x i =>
    split at hk <;> (try (cases hk; done))
    · rename_i hu
      cases hk
      obtain ⟨y1, z1, rfl, h1, h2⟩ := inv2 hv
      cases y1 <;> (try (simp [ap] at ha; done))
      simp only [ap] at ha
      rename_i s
      cases hn : natOf z1 with
      | none => simp [hn] at ha
      | some n =>
        cases hc' : s[n]? with
        | none => simp [hn, hc'] at ha
        | some c => simp [hn, hc'] at ha; obtain ⟨rfl, rfl⟩ := ha; exact (ok_idxS hR hu h1 h2 hn hc').done
    · rename_i m e hu
      split at hk <;> (try (cases hk; done))
      · rename_i hg
        cases hs : sizeT P e with
        | none => simp [hs] at hk
        | some es =>
          simp [hs] at hk; obtain ⟨rfl, rfl⟩ := hk
          obtain ⟨y1, z1, rfl, h1, h2⟩ := inv2 hv
          cases y1 <;> (try (simp [ap] at ha; done))
          simp only [ap] at ha
          cases hn : natOf z1 with
          | none => simp [hn] at ha
          | some n =>
            simp only [hn, Option.bind_some] at ha
            split at ha <;> cases ha
            rename_i hlt
            exact (ok_idxAN hR hu hg hs h1 h2 hn hlt.1).done
      · rename_i hg
        cases hs : sizeT P e with
        | none => simp [hs] at hk
        | some es =>
          simp [hs] at hk; obtain ⟨rfl, rfl⟩ := hk
          obtain ⟨y1, z1, rfl, h1, h2⟩ := inv2 hv
          cases y1 <;> (try (simp [ap] at ha; done))
          simp only [ap] at ha
          rename_i cs
          cases hn : natOf z1 with
          | none => simp [hn] at ha
          | some n =>
            simp only [hn, Option.bind_some] at ha
            split at ha
            · rename_i hlt
              cases hc' : cs[n * es]? with
              | none => simp [hc'] at ha
              | some c => simp [hc'] at ha; obtain ⟨rfl, rfl⟩ := ha; exact (ok_idxA1 hR hu hg hs h1 h2 hn hlt hc').done
            · cases ha
  case extract t i =>
    cases hk
    obtain ⟨y1, rfl, h1⟩ := inv1 hv
    cases y1 <;> (try (simp [ap] at ha; done))
    simp only [ap] at ha
    rename_i cs
    cases hc' : cs[i]? with
    | none => simp [hc'] at ha
    | some c => simp [hc'] at ha; obtain ⟨rfl, rfl⟩ := ha; exact (ok_ext hR h1 hc').done
  case call c =>
    obtain ⟨callee, args, argTypes⟩ := c
    cases callee with
    | invoke r m => simp at hk
    | value f => cases f <;> simp at hk <;> obtain ⟨rfl, rfl⟩ := hk <;> exact hc.elim
    | builtin b => exact sim_builtin hR hk hv ha
  all_goals (cases hk)
end
end Am
