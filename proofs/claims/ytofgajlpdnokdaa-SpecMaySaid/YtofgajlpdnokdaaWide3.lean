/- The document's numbers of 128 bits. -/
import Derived.Test.YtofgajlpdnokdaaWide2
namespace Go.Proofs.Ytofgajlpdnokdaa
set_option linter.unusedVariables false
open Go.RowKit

theorem eqGuard_wide : Try.prog.eqGuardType Try.prog.depth 43 = false := by kernel_rfl
theorem stood_wide : Try.prog.stoodInHeld 43 = false := by kernel_rfl

set_option maxRecDepth 100000 in
set_option maxHeartbeats 1000000 in
theorem r01Mul_facts (a b a0 b0 a1 b1 p00 p10 p01 p11 r0 q1 m1 q2 m r1 g1 r2 g2 r3 hi q3 u q0 lo : Int) (w : World) (f0 : a.tmod 4294967296 = a0) (f1 : b.tmod 4294967296 = b0) (f2 : IntKind.u64.wrap (a.tdiv 4294967296) = a1) (f3 : IntKind.u64.wrap (b.tdiv 4294967296) = b1) (f4 : IntKind.u64.wrap (a0 * b0) = p00) (f5 : IntKind.u64.wrap (a1 * b0) = p10) (f6 : IntKind.u64.wrap (a0 * b1) = p01) (f7 : IntKind.u64.wrap (a1 * b1) = p11) (f8 : IntKind.u64.wrap (p00.tdiv 4294967296) = r0) (f9 : p10.tmod 4294967296 = q1) (f10 : IntKind.u64.wrap (r0 + q1) = m1) (f11 : p01.tmod 4294967296 = q2) (f12 : IntKind.u64.wrap (m1 + q2) = m) (f13 : IntKind.u64.wrap (p10.tdiv 4294967296) = r1) (f14 : IntKind.u64.wrap (p11 + r1) = g1) (f15 : IntKind.u64.wrap (p01.tdiv 4294967296) = r2) (f16 : IntKind.u64.wrap (g1 + r2) = g2) (f17 : IntKind.u64.wrap (m.tdiv 4294967296) = r3) (f18 : IntKind.u64.wrap (g2 + r3) = hi) (f19 : m.tmod 4294967296 = q3) (f20 : IntKind.u64.wrap (q3 * 4294967296) = u) (f21 : p00.tmod 4294967296 = q0) (f22 : IntKind.u64.wrap (u + q0) = lo) :
    Calls Try.prog 28 #[.int .u64 a, .int .u64 b] w fun e w' => e = .returned (.agg #[.int .u64 hi, .int .u64 lo]) ∧ Chg NoChg w w' := by
  go_enter Try.func28, Try.ntmps28
  go_wp2
  refine bodyPost_ret (v := .agg #[.int .u64 hi, .int .u64 lo]) (by simp [results, Try.results28, go_sem]) rfl ⟨rfl, ?_⟩
  (repeat' (first | (with_reducible exact Chg.refl _ _) | (with_reducible assumption) | (with_reducible refine Chg.alloc ?_ _) | (with_reducible refine Chg.drewN ?_ _) | (with_reducible refine Chg.drew ?_) | (with_reducible refine Chg.setCell ?_ _ ?_) | (apply Or.inl; with_reducible rfl) | (apply Or.inl; simp; done) | (apply Or.inr; simp; done) | (apply Or.inr; simp; omega)))

theorem wrap64 (n : Int) (h0 : 0 ≤ n) (h1 : n < 18446744073709551616) : IntKind.u64.wrap n = n := by
  have : IntKind.u64.wrap n = n % 18446744073709551616 := by simp [IntKind.wrap, IntKind.bits, IntKind.signed]
  rw [this]; omega

theorem r01Mul_any (a b : Nat) (w : World) (ha : a < 18446744073709551616) (hb : b < 18446744073709551616) :
    Calls Try.prog 28 #[.int .u64 (a : Int), .int .u64 (b : Int)] w fun e w' => e = .returned (.agg #[.int .u64 ((a * b / 18446744073709551616 : Nat) : Int), .int .u64 ((a * b % 18446744073709551616 : Nat) : Int)]) ∧ Chg NoChg w w' := by
  obtain ⟨a0, ha0⟩ : ∃ x : Nat, x = a % 4294967296 := ⟨_, rfl⟩
  obtain ⟨a1, ha1⟩ : ∃ x : Nat, x = a / 4294967296 := ⟨_, rfl⟩
  obtain ⟨b0, hb0⟩ : ∃ x : Nat, x = b % 4294967296 := ⟨_, rfl⟩
  obtain ⟨b1, hb1⟩ : ∃ x : Nat, x = b / 4294967296 := ⟨_, rfl⟩
  have pr : ∀ x y : Nat, x ≤ 4294967295 → y ≤ 4294967295 → x * y ≤ 18446744065119617025 := fun x y h2 h4 => Nat.mul_le_mul h2 h4
  obtain ⟨p00, e00⟩ : ∃ x, a0 * b0 = x := ⟨_, rfl⟩
  obtain ⟨p01, e01⟩ : ∃ x, a0 * b1 = x := ⟨_, rfl⟩
  obtain ⟨p10, e10⟩ : ∃ x, a1 * b0 = x := ⟨_, rfl⟩
  obtain ⟨p11, e11⟩ : ∃ x, a1 * b1 = x := ⟨_, rfl⟩
  have h00 := pr a0 b0 (by omega) (by omega)
  have h01 := pr a0 b1 (by omega) (by omega)
  have h10 := pr a1 b0 (by omega) (by omega)
  have h11 := pr a1 b1 (by omega) (by omega)
  have hab : a * b = p11 * 18446744073709551616 + (p10 + p01) * 4294967296 + p00 := by
    have e1 : a = a1 * 4294967296 + a0 := by omega
    have e2 : b = b1 * 4294967296 + b0 := by omega
    rw [e1, e2, ← e00, ← e01, ← e10, ← e11]
    simp only [Nat.add_mul, Nat.mul_add]
    have r1 : a1 * 4294967296 * (b1 * 4294967296) = a1 * b1 * 18446744073709551616 := by
      rw [Nat.mul_assoc, Nat.mul_left_comm 4294967296, ← Nat.mul_assoc a1 b1]
    have r2 : a1 * 4294967296 * b0 = a1 * b0 * 4294967296 := by rw [Nat.mul_assoc, Nat.mul_comm 4294967296, ← Nat.mul_assoc]
    have r3 : a0 * (b1 * 4294967296) = a0 * b1 * 4294967296 := by rw [Nat.mul_assoc]
    rw [r1, r2, r3]
    omega
  have c00 : (a0 : Int) * b0 = p00 := by rw [← e00]; simp
  have c01 : (a0 : Int) * b1 = p01 := by rw [← e01]; simp
  have c10 : (a1 : Int) * b0 = p10 := by rw [← e10]; simp
  have c11 : (a1 : Int) * b1 = p11 := by rw [← e11]; simp
  rw [e00] at h00
  rw [e01] at h01
  rw [e10] at h10
  rw [e11] at h11
  clear pr e00 e01 e10 e11
  have tm : ∀ x y : Nat, y = x % 4294967296 → ((x : Int).tmod 4294967296) = (y : Int) := by
    intro x y h
    rw [Int.tmod_eq_emod_of_nonneg (by omega)]
    omega
  have td : ∀ x y : Nat, y = x / 4294967296 → y < 18446744073709551616 → IntKind.u64.wrap ((x : Int).tdiv 4294967296) = (y : Int) := by
    intro x y h h2
    rw [Int.tdiv_eq_ediv_of_nonneg (by omega), wrap64 _ (by omega) (by omega)]
    omega
  have w2 : ∀ (x : Int) (y : Nat), x = (y : Int) → y < 18446744073709551616 → IntKind.u64.wrap x = (y : Int) := by
    intro x y h h2
    rw [wrap64 _ (by omega) (by omega), h]
  obtain ⟨r0, hr0⟩ : ∃ x : Nat, x = p00 / 4294967296 := ⟨_, rfl⟩
  obtain ⟨q0, hq0⟩ : ∃ x : Nat, x = p00 % 4294967296 := ⟨_, rfl⟩
  obtain ⟨q1, hq1⟩ : ∃ x : Nat, x = p10 % 4294967296 := ⟨_, rfl⟩
  obtain ⟨r1, hr1⟩ : ∃ x : Nat, x = p10 / 4294967296 := ⟨_, rfl⟩
  obtain ⟨q2, hq2⟩ : ∃ x : Nat, x = p01 % 4294967296 := ⟨_, rfl⟩
  obtain ⟨r2, hr2⟩ : ∃ x : Nat, x = p01 / 4294967296 := ⟨_, rfl⟩
  obtain ⟨m, hm⟩ : ∃ x : Nat, x = r0 + q1 + q2 := ⟨_, rfl⟩
  obtain ⟨q3, hq3⟩ : ∃ x : Nat, x = m % 4294967296 := ⟨_, rfl⟩
  obtain ⟨r3, hr3⟩ : ∃ x : Nat, x = m / 4294967296 := ⟨_, rfl⟩
  have hhi : a * b / 18446744073709551616 = p11 + r1 + r2 + r3 := by omega
  have hlo : a * b % 18446744073709551616 = q3 * 4294967296 + q0 := by omega
  have hb2 : a * b / 18446744073709551616 < 18446744073709551616 := by
    rw [Nat.div_lt_iff_lt_mul (by decide)]
    exact Nat.lt_of_le_of_lt (Nat.mul_le_mul (Nat.le_of_lt_succ (show a < 18446744073709551615 + 1 from ha)) (Nat.le_of_lt_succ (show b < 18446744073709551615 + 1 from hb))) (by decide)
  rw [hhi] at hb2 ⊢
  rw [hlo]
  clear hhi hlo hab
  exact r01Mul_facts a b a0 b0 a1 b1 p00 p10 p01 p11 r0 q1 ((r0 + q1 : Nat) : Int) q2 m r1 ((p11 + r1 : Nat) : Int) r2 ((p11 + r1 + r2 : Nat) : Int) r3 _ q3 ((q3 * 4294967296 : Nat) : Int) q0 _ w
    (tm _ _ ha0) (tm _ _ hb0) (td _ _ ha1 (by omega)) (td _ _ hb1 (by omega))
    (w2 _ _ c00 (by omega)) (w2 _ _ c10 (by omega)) (w2 _ _ c01 (by omega)) (w2 _ _ c11 (by omega))
    (td _ _ hr0 (by omega)) (tm _ _ hq1) (w2 _ _ (by omega) (by omega)) (tm _ _ hq2) (w2 _ _ (by omega) (by omega))
    (td _ _ hr1 (by omega)) (w2 _ _ (by omega) (by omega)) (td _ _ hr2 (by omega)) (w2 _ _ (by omega) (by omega)) (td _ _ hr3 (by omega)) (w2 _ _ (by omega) (by omega))
    (tm _ _ hq3) (w2 _ _ (by omega) (by omega)) (tm _ _ hq0) (w2 _ _ (by omega) (by omega))

theorem r01Plus_parts (h1 l1 h2 l2 lo g hi : Int) (w : World) (f0 : IntKind.u64.wrap (l1 + l2) = lo) (f1 : IntKind.u64.wrap (h1 + h2) = g) (f2 : decide (g < h1) = false) (hc : (decide (lo < l1) = false ∧ hi = g) ∨ (decide (lo < l1) = true ∧ IntKind.u64.wrap (g + 1) = hi ∧ (hi == 0) = false)) :
    Calls Try.prog 29 #[.agg #[.int .u64 h1, .int .u64 l1], .agg #[.int .u64 h2, .int .u64 l2]] w fun e w' => e = .returned (.tuple #[.agg #[.int .u64 hi, .int .u64 lo], .int .i64 0]) ∧ Chg NoChg w w' := by
  rcases hc with ⟨k1, rfl⟩ | ⟨k1, k2, k3⟩
  · go_enter Try.func29, Try.ntmps29
    go_wp2
    refine bodyPost_ret (v := .tuple #[.agg #[.int .u64 hi, .int .u64 lo], .int .i64 0]) (by simp [results, Try.results29, go_sem]) rfl ⟨rfl, ?_⟩
    (repeat' (first | (with_reducible exact Chg.refl _ _) | (with_reducible assumption) | (with_reducible refine Chg.alloc ?_ _) | (with_reducible refine Chg.drewN ?_ _) | (with_reducible refine Chg.drew ?_) | (with_reducible refine Chg.setCell ?_ _ ?_) | (apply Or.inl; with_reducible rfl) | (apply Or.inl; simp; done) | (apply Or.inr; simp; done) | (apply Or.inr; simp; omega)))
  · go_enter Try.func29, Try.ntmps29
    go_wp2
    refine bodyPost_ret (v := .tuple #[.agg #[.int .u64 hi, .int .u64 lo], .int .i64 0]) (by simp [results, Try.results29, go_sem]) rfl ⟨rfl, ?_⟩
    (repeat' (first | (with_reducible exact Chg.refl _ _) | (with_reducible assumption) | (with_reducible refine Chg.alloc ?_ _) | (with_reducible refine Chg.drewN ?_ _) | (with_reducible refine Chg.drew ?_) | (with_reducible refine Chg.setCell ?_ _ ?_) | (apply Or.inl; with_reducible rfl) | (apply Or.inl; simp; done) | (apply Or.inr; simp; done) | (apply Or.inr; simp; omega)))

theorem r01Plus_any (m n : Nat) (w : World) (h : m + n < 340282366920938463463374607431768211456) :
    Calls Try.prog 29 #[.agg #[.int .u64 ((m / 18446744073709551616 : Nat) : Int), .int .u64 ((m % 18446744073709551616 : Nat) : Int)], .agg #[.int .u64 ((n / 18446744073709551616 : Nat) : Int), .int .u64 ((n % 18446744073709551616 : Nat) : Int)]] w
      fun e w' => e = .returned (.tuple #[.agg #[.int .u64 (((m + n) / 18446744073709551616 : Nat) : Int), .int .u64 (((m + n) % 18446744073709551616 : Nat) : Int)], .int .i64 0]) ∧ Chg NoChg w w' := by
  have wr : ∀ n : Int, IntKind.u64.wrap n = n % 18446744073709551616 := fun n => by simp [IntKind.wrap, IntKind.bits, IntKind.signed]
  by_cases hc : m % 18446744073709551616 + n % 18446744073709551616 < 18446744073709551616
  · refine r01Plus_parts _ _ _ _ _ ((m / 18446744073709551616 + n / 18446744073709551616 : Nat) : Int) _ w (by rw [wr]; omega) (by rw [wr]; omega) (by simp; omega) (.inl ⟨by simp; omega, by omega⟩)
  · refine r01Plus_parts _ _ _ _ _ ((m / 18446744073709551616 + n / 18446744073709551616 : Nat) : Int) _ w (by rw [wr]; omega) (by rw [wr]; omega) (by simp; omega) (.inr ⟨by simp; omega, by rw [wr]; omega, by simp; omega⟩)

attribute [local go_sem] eqGuard_wide stood_wide

theorem r01Cmp_parts (h1 l1 h2 l2 : Nat) (r : Int) (w : World) (hr : (if h1 < h2 then (-1 : Int) else if h2 < h1 then 1 else if l1 < l2 then -1 else if l2 < l1 then 1 else 0) = r) :
    Calls Try.prog 23 #[.agg #[.int .u64 (h1 : Int), .int .u64 (l1 : Int)], .agg #[.int .u64 (h2 : Int), .int .u64 (l2 : Int)]] w fun e w' => e = .returned (.int .i64 r) ∧ Chg NoChg w w' := by
  by_cases g1 : h1 < h2
  · rw [if_pos g1] at hr
    subst hr
    have d1 : decide ((h1 : Int) < (h2 : Int)) = true := by simp; omega
    go_enter Try.func23, Try.ntmps23
    go_wp2
    go_ret
    refine ⟨rfl, ?_⟩
    (repeat' (first | (with_reducible exact Chg.refl _ _) | (with_reducible assumption) | (with_reducible refine Chg.alloc ?_ _) | (with_reducible refine Chg.drewN ?_ _) | (with_reducible refine Chg.drew ?_) | (with_reducible refine Chg.setCell ?_ _ ?_) | (apply Or.inl; with_reducible rfl) | (apply Or.inl; simp; done) | (apply Or.inr; simp; done) | (apply Or.inr; simp; omega)))
  · rw [if_neg g1] at hr
    have d1 : decide ((h1 : Int) < (h2 : Int)) = false := by simp; omega
    by_cases g2 : h2 < h1
    · rw [if_pos g2] at hr
      subst hr
      have d2 : ((h1 : Int) == (h2 : Int)) = false := by simp; omega
      go_enter Try.func23, Try.ntmps23
      go_wp2
      go_ret
      refine ⟨rfl, ?_⟩
      (repeat' (first | (with_reducible exact Chg.refl _ _) | (with_reducible assumption) | (with_reducible refine Chg.alloc ?_ _) | (with_reducible refine Chg.drewN ?_ _) | (with_reducible refine Chg.drew ?_) | (with_reducible refine Chg.setCell ?_ _ ?_) | (apply Or.inl; with_reducible rfl) | (apply Or.inl; simp; done) | (apply Or.inr; simp; done) | (apply Or.inr; simp; omega)))
    · rw [if_neg g2] at hr
      obtain rfl : h1 = h2 := by omega
      have d2 : ((h1 : Int) == (h1 : Int)) = true := by simp
      by_cases g3 : l1 < l2
      · rw [if_pos g3] at hr
        subst hr
        have d3 : decide ((l1 : Int) < (l2 : Int)) = true := by simp; omega
        go_enter Try.func23, Try.ntmps23
        go_wp2
        go_ret
        refine ⟨rfl, ?_⟩
        (repeat' (first | (with_reducible exact Chg.refl _ _) | (with_reducible assumption) | (with_reducible refine Chg.alloc ?_ _) | (with_reducible refine Chg.drewN ?_ _) | (with_reducible refine Chg.drew ?_) | (with_reducible refine Chg.setCell ?_ _ ?_) | (apply Or.inl; with_reducible rfl) | (apply Or.inl; simp; done) | (apply Or.inr; simp; done) | (apply Or.inr; simp; omega)))
      · rw [if_neg g3] at hr
        have d3 : decide ((l1 : Int) < (l2 : Int)) = false := by simp; omega
        by_cases g4 : l2 < l1
        · rw [if_pos g4] at hr
          subst hr
          have d4 : ((l1 : Int) == (l2 : Int)) = false := by simp; omega
          go_enter Try.func23, Try.ntmps23
          go_wp2
          go_ret
          refine ⟨rfl, ?_⟩
          (repeat' (first | (with_reducible exact Chg.refl _ _) | (with_reducible assumption) | (with_reducible refine Chg.alloc ?_ _) | (with_reducible refine Chg.drewN ?_ _) | (with_reducible refine Chg.drew ?_) | (with_reducible refine Chg.setCell ?_ _ ?_) | (apply Or.inl; with_reducible rfl) | (apply Or.inl; simp; done) | (apply Or.inr; simp; done) | (apply Or.inr; simp; omega)))
        · rw [if_neg g4] at hr
          subst hr
          obtain rfl : l1 = l2 := by omega
          have d4 : ((l1 : Int) == (l1 : Int)) = true := by simp
          go_enter Try.func23, Try.ntmps23
          go_wp2
          go_ret
          refine ⟨rfl, ?_⟩
          (repeat' (first | (with_reducible exact Chg.refl _ _) | (with_reducible assumption) | (with_reducible refine Chg.alloc ?_ _) | (with_reducible refine Chg.drewN ?_ _) | (with_reducible refine Chg.drew ?_) | (with_reducible refine Chg.setCell ?_ _ ?_) | (apply Or.inl; with_reducible rfl) | (apply Or.inl; simp; done) | (apply Or.inr; simp; done) | (apply Or.inr; simp; omega)))

theorem r01Cmp_any (m n : Nat) (w : World) :
    Calls Try.prog 23 #[.agg #[.int .u64 ((m / 18446744073709551616 : Nat) : Int), .int .u64 ((m % 18446744073709551616 : Nat) : Int)], .agg #[.int .u64 ((n / 18446744073709551616 : Nat) : Int), .int .u64 ((n % 18446744073709551616 : Nat) : Int)]] w fun e w' => e = .returned (.int .i64 (cmpN m n)) ∧ Chg NoChg w w' :=
  r01Cmp_parts _ _ _ _ _ w (cmpN_parts m n)
end Go.Proofs.Ytofgajlpdnokdaa
