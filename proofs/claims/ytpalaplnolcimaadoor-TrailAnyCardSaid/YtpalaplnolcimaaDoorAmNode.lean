/- A node that a row's argument reads as. -/
import Derived.Test.YtpalaplnolcimaaDoorAmOpen
import Derived.Test.YtpalaplnolcimaaDoorAmQB
set_option linter.unusedVariables false
namespace Am
open Go Go.RowKit F
def tyNode : Ty := .st [.int .i64, .int .i64, .sl .str, .str]
theorem take_one {us : List AV} {a : AV} (h : us.take 1 = [a]) : us = a :: us.drop 1 := by
  cases us with
  | nil => cases h
  | cons b r => simp only [List.take_succ_cons, List.take_zero, List.cons.injEq, and_true] at h; rw [h]; rfl
theorem Rep.node {S : St} {h : F.H} {us : List AV} {x : Dat} (ha : F.Abs h S) (hr : Rep S tyNode us x) : ∃ (y : Nd) (no : Bool) (sp : List Dat), NdAt h (.agg us) y ∧ x = .st [.int y.fn, .int y.parent, .sl no (y.args.map Dat.str) sp, .str y.res] ∧
    (no = true → y.args = []) ∧ (∀ z ∈ y.args, z.length ≤ maxLen) ∧ y.res.length ≤ maxLen ∧ y.args.length ≤ maxLen := by
  unfold tyNode at hr
  simp only [Rep, Reps, Ty.size] at hr
  obtain ⟨ds, rfl, d0, r0, rfl, ⟨f, e0, rfl, _⟩, d1, r1, rfl, ⟨p, e1, rfl, _⟩, d2, r2, rfl, h2, d3, r3, rfl, ⟨s, e3, rfl, hs⟩, e4, rfl⟩ := hr
  have u0 := take_one e0
  have u1 := take_one e1
  have u3 := take_one e3
  have hsl : Rep S (.sl .str) ((us.drop 1).drop 1 |>.take 1) d2 := by simp only [Rep, Ty.size]; exact h2
  have hone : ∃ a, ((us.drop 1).drop 1).take 1 = [a] := by
    rcases h2 with ⟨h, _⟩ | ⟨_, _, _, _, h, _⟩
    · exact ⟨_, h⟩
    · exact ⟨_, h⟩
  obtain ⟨a, e2⟩ := hone
  have u2 := take_one e2
  rw [e2] at hsl
  obtain ⟨no, kids, sp, k1, rfl, k2, k3, k4⟩ := Rep.texts ha hsl
  refine ⟨⟨f, p, kids, s⟩, no, sp, ⟨a, ?_, k1⟩, rfl, k2, k3, hs, k4⟩
  rw [u0, u1, u2, u3, e4]
end Am
