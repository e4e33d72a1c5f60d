/- The document's ticks, and the corners, say the same of two curves. Plain: no program. -/
import Derived.Test.YtofgajlpdnokdaaBelow
namespace Go.Proofs.Ytofgajlpdnokdaa
set_option linter.unusedVariables false

theorem lin_mid (x d : Int) (n k : Nat) (hk : k ≤ n) (h0 : 0 ≤ x) (h1 : 0 ≤ x + (n : Int) * d) : 0 ≤ x + (k : Int) * d := by
  rcases Int.le_total 0 d with h | h
  · have := Int.mul_nonneg (Int.natCast_nonneg k) h
    omega
  · have h2 : (n : Int) * d ≤ (k : Int) * d := Int.mul_le_mul_of_nonpos_right (by omega) h
    omega

theorem Crv.at_lo (c : Crv) {t : Nat} (h : t ≤ c.l) : c.at t = c.f * t := by
  unfold Crv.at
  rw [Nat.min_eq_left h]
  simp
theorem Crv.at_hi (c : Crv) {t : Nat} (h : c.l ≤ t) : c.at t = c.f * c.l + c.r * (t - c.l) := by
  unfold Crv.at
  rw [Nat.min_eq_right h]

theorem Crv.at_hi_add (c : Crv) {t u : Nat} (h : c.l ≤ t) (hu : t ≤ u) : c.at u = c.at t + c.r * (u - t) := by
  rw [c.at_hi h, c.at_hi (Nat.le_trans h hu), Nat.add_assoc, ← Nat.mul_add]
  congr 2
  omega
theorem Crv.at_lo_add (c : Crv) {t u : Nat} (h : u ≤ c.l) (hu : t ≤ u) : c.at u = c.at t + c.f * (u - t) := by
  rw [c.at_lo h, c.at_lo (Nat.le_trans hu h), ← Nat.mul_add]
  congr 1
  omega

/-- On a piece on which both are straight: between two ticks where one is below the other it is below. -/
theorem le_mid {A B : Nat → Nat} {p q : Nat} {t u v : Nat} (h1 : t ≤ v) (h2 : v ≤ u) (hA : ∀ x, t ≤ x → x ≤ u → A x = A t + p * (x - t)) (hB : ∀ x, t ≤ x → x ≤ u → B x = B t + q * (x - t))
    (ht : A t ≤ B t) (hu : A u ≤ B u) : A v ≤ B v := by
  have a1 := hA v h1 h2
  have b1 := hB v h1 h2
  have a2 := hA u (by omega) (by omega)
  have b2 := hB u (by omega) (by omega)
  have e1 : ((p * (v - t) : Nat) : Int) = ((v - t : Nat) : Int) * (p : Int) := by rw [Int.natCast_mul]; exact Int.mul_comm _ _
  have e2 : ((q * (v - t) : Nat) : Int) = ((v - t : Nat) : Int) * (q : Int) := by rw [Int.natCast_mul]; exact Int.mul_comm _ _
  have e3 : ((p * (u - t) : Nat) : Int) = ((u - t : Nat) : Int) * (p : Int) := by rw [Int.natCast_mul]; exact Int.mul_comm _ _
  have e4 : ((q * (u - t) : Nat) : Int) = ((u - t : Nat) : Int) * (q : Int) := by rw [Int.natCast_mul]; exact Int.mul_comm _ _
  have := lin_mid ((B t : Int) - A t) ((q : Int) - p) (u - t) (v - t) (by omega) (by omega) (by rw [Int.mul_sub]; omega)
  rw [Int.mul_sub] at this
  omega

theorem Crv.le_all (a b : Crv) (hr : a.r ≤ b.r) (h1 : a.at a.l ≤ b.at a.l) (h2 : a.at b.l ≤ b.at b.l) (t : Nat) : a.at t ≤ b.at t := by
  have z : ∀ c : Crv, c.at 0 = 0 := fun c => by rw [c.at_lo (Nat.zero_le _)]; rfl
  have hz : a.at 0 ≤ b.at 0 := by rw [z, z]; exact Nat.le_refl _
  have hi : ∀ L, a.l ≤ L → b.l ≤ L → a.at L ≤ b.at L → L ≤ t → a.at t ≤ b.at t := fun L h3 h4 h5 h6 => by
    rw [a.at_hi_add h3 h6, b.at_hi_add h4 h6]
    exact Nat.add_le_add h5 (Nat.mul_le_mul_right _ hr)
  rcases Nat.le_total a.l b.l with h | h
  · rcases Nat.le_total t a.l with g | g
    · exact le_mid (A := a.at) (B := b.at) (p := a.f) (q := b.f) (t := 0) (u := a.l) (v := t) (Nat.zero_le _) g (fun x _ hx => a.at_lo_add hx (Nat.zero_le _)) (fun x _ hx => b.at_lo_add (by omega) (Nat.zero_le _)) hz h1
    · rcases Nat.le_total t b.l with g2 | g2
      · exact le_mid (A := a.at) (B := b.at) (p := a.r) (q := b.f) g g2 (fun x h3 hx => a.at_hi_add (Nat.le_refl _) h3) (fun x h3 hx => b.at_lo_add hx h3) h1 h2
      · exact hi b.l h (Nat.le_refl _) h2 g2
  · rcases Nat.le_total t b.l with g | g
    · exact le_mid (A := a.at) (B := b.at) (p := a.f) (q := b.f) (t := 0) (u := b.l) (v := t) (Nat.zero_le _) g (fun x _ hx => a.at_lo_add (by omega) (Nat.zero_le _)) (fun x _ hx => b.at_lo_add hx (Nat.zero_le _)) hz h2
    · rcases Nat.le_total t a.l with g2 | g2
      · exact le_mid (A := a.at) (B := b.at) (p := a.f) (q := b.r) g g2 (fun x h3 hx => a.at_lo_add hx h3) (fun x h3 hx => b.at_hi_add (Nat.le_refl _) h3) h2 h1
      · exact hi a.l (Nat.le_refl _) h h1 g2

/-- The document's four ticks, and the corners with the last slopes, say the same. -/
theorem below_same (a b : Crv) (ha : a.May) (hb : b.May) : (decide (a.r ≤ b.r) && (a.leAt b a.l && a.leAt b b.l)) = (ticksR a b).all (a.leAt b) := by
  rw [Bool.eq_iff_iff]
  simp only [Bool.and_eq_true, decide_eq_true_eq, List.all_eq_true, Crv.leAt, ticksR, List.mem_cons, List.not_mem_nil, or_false]
  constructor
  · rintro ⟨h1, h2, h3⟩ x _
    exact Crv.le_all a b h1 h2 h3 x
  · intro h
    have hA := h a.l (by simp)
    have hB := h b.l (by simp)
    have hT := h 9223372036854775807 (by simp)
    refine ⟨?_, hA, hB⟩
    have la := ha.hl
    have lb := hb.hl
    -- at the greater corner, and from there on
    obtain ⟨L, hL1, hL2, hL3, hLm⟩ : ∃ L, a.l ≤ L ∧ b.l ≤ L ∧ L ≤ 1099511627776 ∧ a.at L ≤ b.at L := by
      rcases Nat.le_total a.l b.l with g | g
      · exact ⟨b.l, g, Nat.le_refl _, lb, hB⟩
      · exact ⟨a.l, Nat.le_refl _, g, la, hA⟩
    rw [a.at_hi_add hL1 (by omega), b.at_hi_add hL2 (by omega)] at hT
    have hbL : b.at L ≤ 1048576 * 1099511627776 := by
      rw [b.at_hi hL2]
      have e1 : b.f * b.l ≤ 1048576 * b.l := Nat.mul_le_mul_right _ hb.hf
      have e2 : b.r * (L - b.l) ≤ 1048576 * (L - b.l) := Nat.mul_le_mul_right _ hb.hr
      omega
    refine Nat.le_of_not_lt fun hlt => ?_
    have e3 : (b.r + 1) * (9223372036854775807 - L) ≤ a.r * (9223372036854775807 - L) := Nat.mul_le_mul_right _ hlt
    rw [Nat.add_mul] at e3
    omega
end Go.Proofs.Ytofgajlpdnokdaa
