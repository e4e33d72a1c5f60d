/- What a curve has at a tick, by the document. -/
import Derived.Test.YtofgajlpdnokdaaCurve
namespace Go.Proofs.Ytofgajlpdnokdaa
set_option linter.unusedVariables false
open Go.RowKit

/-- What it has at a tick. -/
def Crv.at (c : Crv) (t : Nat) : Nat := c.f * min t c.l + c.r * (t - min t c.l)

theorem Crv.at_le (c : Crv) (h : c.May) (t : Nat) (ht : t < 18446744073709551616) : c.f * min t c.l ≤ 1152921504606846976 ∧ c.r * (t - min t c.l) < 19342813113834066795298816 := by
  have h1 := h.hf
  have h2 := h.hr
  have h3 := h.hl
  refine ⟨Nat.le_trans (Nat.mul_le_mul h1 (Nat.le_trans (Nat.min_le_right _ _) h3)) (by decide), ?_⟩
  exact Nat.lt_of_le_of_lt (Nat.mul_le_mul h2 (show t - min t c.l ≤ 18446744073709551615 by omega)) (by decide)

set_option maxHeartbeats 1000000 in
theorem r03Wide_may (c : Crv) (t : Nat) (h : c.May) (ht : t < 18446744073709551616) (w : World) :
    Calls Try.prog 24 #[.agg #[.int .u64 (c.f : Int), .int .u64 (c.l : Int), .int .u64 (c.r : Int)], .int .u64 (t : Int)] w
      fun e w' => e = .returned (.agg #[.int .u64 ((c.at t / 18446744073709551616 : Nat) : Int), .int .u64 ((c.at t % 18446744073709551616 : Nat) : Int)]) ∧ Chg NoChg w w' := by
  have b := c.at_le h t ht
  have h1 := h.hf
  have h2 := h.hr
  have h3 := h.hl
  have ef : c.at t = c.f * min t c.l + c.r * (t - min t c.l) := rfl
  obtain ⟨f, l, r⟩ := c
  dsimp only at *
  obtain ⟨p, hp⟩ : ∃ p, p = f * min t l := ⟨_, rfl⟩
  have M1 := hide (fun w => r01Mul_any f (min t l) w (by omega) (by omega))
  by_cases hc : l < t
  · have em : min t l = l := by omega
    rw [em] at b ef hp M1
    have M2 := hide (fun w => r01Mul_any r (t - l) w (by omega) (by omega))
    obtain ⟨q, hq⟩ : ∃ q, q = r * (t - l) := ⟨_, rfl⟩
    rw [← hp, ← hq] at ef
    rw [← hp] at M1 b
    rw [← hq] at M2 b
    have P := hide (fun w => r01Plus_any p q w (by omega))
    rw [← ef] at P
    have d1 : decide ((l : Int) < (t : Int)) = true := by simp; omega
    have d2 : ((t - l : Nat) : Int) = (t : Int) - (l : Int) := by omega
    rw [d2] at M2
    have d3 : IntKind.u64.wrap ((t : Int) - (l : Int)) = (t : Int) - (l : Int) := wrap64 _ (by omega) (by omega)
    have d4 : min (t : Int) (l : Int) = (l : Int) := by omega
    have HB := hide b
    clear b ef hp hq h
    go_enter Try.func24, Try.ntmps24
    go_wp2_with fail
    refine (M1.out _).mono ?_
    rintro e w1 ⟨rfl, c1⟩
    have q1 := c1.blk ((Blk.new w #[.int .u64 (f : Int), .int .u64 (l : Int), .int .u64 (r : Int)] 24).alloc (.cells #[.int .u64 0, .int .u64 0] 43)) (fun h => h)
    have q2 := c1.blk (Blk.new' (w := w.alloc (.cells #[.int .u64 (f : Int), .int .u64 (l : Int), .int .u64 (r : Int)] 24)) #[.int .u64 0, .int .u64 0] 43 (n := w.heap.size + 1) (by simp)) (fun h => h)
    have C1 := hide (((((Chg.refl NoChg w).alloc (.cells #[.int .u64 (f : Int), .int .u64 (l : Int), .int .u64 (r : Int)] 24)).alloc (.cells #[.int .u64 0, .int .u64 0] 43))).trans' c1)
    have k1 := q1.cell 1
    have k2 := q1.cell 2
    have s1 := q2.lt
    have s1a : w.heap.size < w1.heap.size := by omega
    have s1b : w.heap.size < w1.heap.size + 1 := by omega
    simp at k1 k2
    have Q := hide (And.intro q1 q2)
    clear q1 q2 c1
    go_wp2_with fail
    refine (M2.out _).mono ?_
    rintro e w2 ⟨rfl, c2⟩
    have q3 := c2.blk ((Blk.new w1 #[.int .u64 ((p / 18446744073709551616 : Nat) : Int), .int .u64 ((p % 18446744073709551616 : Nat) : Int)] 43).alloc (.cells #[.int .u64 0, .int .u64 0] 43)) (fun h => h)
    have q4 := c2.blk (Blk.new' (w := w1.alloc (.cells #[.int .u64 ((p / 18446744073709551616 : Nat) : Int), .int .u64 ((p % 18446744073709551616 : Nat) : Int)] 43)) #[.int .u64 0, .int .u64 0] 43 (n := w1.heap.size + 1) (by simp)) (fun h => h)
    have C2 := hide ((C1.out.alloc (.cells #[.int .u64 ((p / 18446744073709551616 : Nat) : Int), .int .u64 ((p % 18446744073709551616 : Nat) : Int)] 43)).alloc (.cells #[.int .u64 0, .int .u64 0] 43) |>.trans' c2)
    have k3 := q3.cell 0
    have k4 := q3.cell 1
    have k5 := q4.cell 0
    have k6 := q4.cell 1
    have f4 := q4.frozen
    have s2 := q4.lt
    have s2a : w1.heap.size < w2.heap.size := by omega
    simp at k3 k4 k5 k6
    have q2 := (c2.blk ((Q.out.2.alloc (.cells #[.int .u64 ((p / 18446744073709551616 : Nat) : Int), .int .u64 ((p % 18446744073709551616 : Nat) : Int)] 43)).alloc (.cells #[.int .u64 0, .int .u64 0] 43)) (fun h => h))
    have Q2 := hide (And.intro q2 (And.intro q3 q4))
    clear c2 q3 q4 q2
    go_wp2_with fail
    go_wp2_with fail
    refine (P.out _).mono ?_
    rintro e w3 ⟨rfl, c3⟩
    have S2 := hide (((Chg.refl (fun k => k = w1.heap.size + 1) w2).setCell (a := ⟨w1.heap.size + 1, 0, none⟩) (.int .u64 ((q / 18446744073709551616 : Nat) : Int)) (.inl rfl)).setCell (a := ⟨w1.heap.size + 1, 1, none⟩) (.int .u64 ((q % 18446744073709551616 : Nat) : Int)) (.inl rfl))
    have q5 := (S2.out.blk Q2.out.1 (by omega))
    have q6 := c3.blk q5 (fun h => h)
    have k7 := q6.cell 0
    have k8 := q6.cell 1
    have f6 := q6.frozen
    have s3 := q6.lt
    have s3a : w.heap.size + 1 < w3.heap.size + 1 := by omega
    simp at k7 k8
    have C3 := hide ((C2.out.trans S2.out (fun k hk => .inr (by omega))).trans' c3)
    clear c3 q5 q6
    go_wp2
    refine bodyPost_ret (v := .agg #[.int .u64 ((Crv.at ⟨f, l, r⟩ t / 18446744073709551616 : Nat) : Int), .int .u64 ((Crv.at ⟨f, l, r⟩ t % 18446744073709551616 : Nat) : Int)]) (by simp [results, Try.results24, go_sem, k7, k8, s3]) rfl ⟨rfl, ?_⟩
    have C3 := C3.out
    (repeat' (first | (with_reducible exact Chg.refl _ _) | (with_reducible assumption) | (with_reducible refine Chg.alloc ?_ _) | (with_reducible refine Chg.drewN ?_ _) | (with_reducible refine Chg.drew ?_) | (with_reducible refine Chg.setCell ?_ _ ?_) | (apply Or.inl; with_reducible rfl) | (apply Or.inl; simp; done) | (apply Or.inr; simp; done) | (apply Or.inr; simp; omega)))
  · have em : min t l = t := by omega
    rw [em] at b ef hp M1
    rw [Nat.sub_self, Nat.mul_zero, Nat.add_zero, ← hp] at ef
    rw [← hp] at M1 b
    have P := hide (fun w => r01Plus_any p 0 w (by omega))
    simp only [Nat.add_zero] at P
    rw [← ef] at P M1
    have d1 : decide ((l : Int) < (t : Int)) = false := by simp; omega
    have d4 : min (t : Int) (l : Int) = (t : Int) := by omega
    obtain ⟨n, hn⟩ : ∃ n, n = Crv.at ⟨f, l, r⟩ t := ⟨_, rfl⟩
    rw [← hn] at P M1 ⊢
    have HB := hide b
    clear b ef hp h hn
    go_enter Try.func24, Try.ntmps24
    go_wp2_with fail
    refine (M1.out _).mono ?_
    rintro e w1 ⟨rfl, c1⟩
    have q1 := c1.blk ((Blk.new w #[.int .u64 (f : Int), .int .u64 (l : Int), .int .u64 (r : Int)] 24).alloc (.cells #[.int .u64 0, .int .u64 0] 43)) (fun h => h)
    have q2 := c1.blk (Blk.new' (w := w.alloc (.cells #[.int .u64 (f : Int), .int .u64 (l : Int), .int .u64 (r : Int)] 24)) #[.int .u64 0, .int .u64 0] 43 (n := w.heap.size + 1) (by simp)) (fun h => h)
    have C1 := hide (((((Chg.refl NoChg w).alloc (.cells #[.int .u64 (f : Int), .int .u64 (l : Int), .int .u64 (r : Int)] 24)).alloc (.cells #[.int .u64 0, .int .u64 0] 43))).trans' c1)
    have k1 := q1.cell 1
    have k2 := q1.cell 2
    have s1 := q2.lt
    have s1a : w.heap.size < w1.heap.size := by omega
    have s1b : w.heap.size < w1.heap.size + 1 := by omega
    simp at k1 k2
    have Q := hide (And.intro q1 q2)
    clear q1 q2 c1
    go_wp2_with fail
    refine (P.out _).mono ?_
    rintro e w3 ⟨rfl, c3⟩
    have q6 := c3.blk ((Q.out.2.alloc (.cells #[.int .u64 ((n / 18446744073709551616 : Nat) : Int), .int .u64 ((n % 18446744073709551616 : Nat) : Int)] 43)).alloc (.cells #[.int .u64 0, .int .u64 0] 43)) (fun h => h)
    have k7 := q6.cell 0
    have k8 := q6.cell 1
    have f6 := q6.frozen
    have s3 := q6.lt
    have s3a : w.heap.size + 1 < w3.heap.size + 1 := by omega
    simp at k7 k8
    have C3 := hide (((C1.out.alloc (.cells #[.int .u64 ((n / 18446744073709551616 : Nat) : Int), .int .u64 ((n % 18446744073709551616 : Nat) : Int)] 43)).alloc (.cells #[.int .u64 0, .int .u64 0] 43)).trans' c3)
    clear c3 q6
    go_wp2
    refine bodyPost_ret (v := .agg #[.int .u64 ((n / 18446744073709551616 : Nat) : Int), .int .u64 ((n % 18446744073709551616 : Nat) : Int)]) (by simp [results, Try.results24, go_sem, k7, k8, s3]) rfl ⟨rfl, ?_⟩
    have C3 := C3.out
    (repeat' (first | (with_reducible exact Chg.refl _ _) | (with_reducible assumption) | (with_reducible refine Chg.alloc ?_ _) | (with_reducible refine Chg.drewN ?_ _) | (with_reducible refine Chg.drew ?_) | (with_reducible refine Chg.setCell ?_ _ ?_) | (apply Or.inl; with_reducible rfl) | (apply Or.inl; simp; done) | (apply Or.inr; simp; done) | (apply Or.inr; simp; omega)))
end Go.Proofs.Ytofgajlpdnokdaa
