/- What follows of a spec that may be. Plain, of no program. -/
import Derived.Test.YtofgajlpdnokdaaGreatDoorSpec4
namespace Go.Proofs.YtofgajlpdnokdaaGreatDoor
set_option linter.unusedVariables false

theorem may_parts {s : Spc} (h : s.mayE = 0) : s.named = true ∧ s.curvesB = true ∧ s.shapedB s.leaf = true ∧ s.sharedB = true ∧ s.under = true := by
  unfold Spc.mayE at h
  cases h1 : s.named with
  | false => rw [h1] at h; simp at h
  | true =>
    cases h2 : s.curvesB with
    | false => rw [h1, h2] at h; simp at h
    | true =>
      cases h3 : s.shapedB s.leaf with
      | false => rw [h1, h2, h3] at h; simp at h
      | true =>
        cases h4 : s.sharedB with
        | false => rw [h1, h2, h3, h4] at h; simp at h
        | true =>
          cases h5 : s.under with
          | false => rw [h1, h2, h3, h4, h5] at h; simp at h
          | true => exact ⟨rfl, rfl, rfl, rfl, rfl⟩
theorem may_of_parts {s : Spc} (h1 : s.named = true) (h2 : s.curvesB = true) (h3 : s.shapedB s.leaf = true) (h4 : s.sharedB = true) (h5 : s.under = true) : s.mayE = 0 := by
  unfold Spc.mayE
  rw [h1, h2, h3, h4, h5]
  rfl
theorem zero_none : Crv.none ⟨0, 0, 0⟩ = true := by decide
theorem zero_may : decide (Crv.May ⟨0, 0, 0⟩) = true := by decide
theorem free_may {s : Spc} (h : s.mayE = 0) : Spc.mayE ⟨s.id, s.par, s.leaf, s.real, s.share, ⟨0, 0, 0⟩, s.pk, s.bt⟩ = 0 := by
  obtain ⟨h1, h2, h3, h4, h5⟩ := may_parts h
  refine may_of_parts h1 ?_ h3 ?_ ?_
  · simp only [Spc.curvesB, Bool.and_eq_true] at h2 ⊢
    exact ⟨h2.1, h2.2.1, zero_may⟩
  · simp only [Spc.sharedB, Bool.and_eq_true] at h4 ⊢
    refine ⟨h4.1, ?_, ?_⟩
    · simp [Crv.goes, zero_none]
    · simp [zero_none]
  · simp [Spc.under, zero_none]
theorem leaf_parts {s : Spc} (h : s.mayE = 0) (hl : s.leaf = true) : (s.real.none = false ∨ s.share.none = false) ∧ 1 ≤ s.pk ∧ s.pk ≤ 4096 ∧ 1 ≤ s.bt ∧ s.bt ≤ 16777216 := by
  obtain ⟨h1, h2, h3, h4, h5⟩ := may_parts h
  rw [hl] at h3
  simp only [Spc.shapedB, if_true, kindB_zero, inB, Bool.and_eq_true, decide_eq_true_eq] at h3
  obtain ⟨hk, ⟨a, b⟩, c, d⟩ := h3
  refine ⟨?_, a, b, c, d⟩
  simpa using hk
theorem inner_parts {s : Spc} (h : s.mayE = 0) (hl : s.leaf = false) : s.real.none = true ∧ s.share.none = false ∧ s.pk = 0 ∧ s.bt = 0 := by
  obtain ⟨h1, h2, h3, h4, h5⟩ := may_parts h
  rw [hl] at h3
  simpa [Spc.shapedB] using h3
theorem curves_parts {s : Spc} (h : s.mayE = 0) : s.real.May ∧ s.share.May ∧ s.upper.May := by
  obtain ⟨h1, h2, h3, h4, h5⟩ := may_parts h
  simpa [Spc.curvesB] using h2
theorem under_le {s : Spc} (h : s.mayE = 0) (hx : s.real.none = false) (hz : s.upper.none = false) (n : Nat) : s.real.at n ≤ s.upper.at n := by
  obtain ⟨h1, h2, h3, h4, h5⟩ := may_parts h
  simp only [Spc.under, hx, hz, Bool.false_or, Bool.and_eq_true, decide_eq_true_eq, Crv.leAt] at h5
  exact Crv.le_all _ _ h5.1 h5.2.1 h5.2.2 n
end Go.Proofs.YtofgajlpdnokdaaGreatDoor
