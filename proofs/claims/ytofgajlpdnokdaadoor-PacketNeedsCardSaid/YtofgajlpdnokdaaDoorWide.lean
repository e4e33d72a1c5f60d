/- wide: products of two words. -/
import Derived.Test.YtofgajlpdnokdaaDoorHeap
import Derived.Laws.BitsLemmas
import Derived.IntWalk
namespace Go.Proofs.YtofgajlpdnokdaaDoor
set_option linter.unusedVariables false
open Go.RowKit

theorem wraps_u64 (n : Int) (h₀ : 0 ≤ n) (h₁ : n < 2 ^ 64) : IntKind.u64.wrap n = n := by
  have : IntKind.u64.wrap n = n % 18446744073709551616 := by simp [IntKind.wrap, IntKind.bits, IntKind.signed]
  rw [this]; omega
theorem and_u64 (x : Int) (h₀ : 0 ≤ x) (h₁ : x < 18446744073709551616) : bits .and .u64 x 4294967295 = x % 4294967296 :=
  bits_mask .u64 64 (by decide) wraps_u64 32 (by decide) x h₀ h₁
theorem or_u64 (x y : Int) (hx : 0 ≤ x) (hx1 : x < 4294967296) (h₀ : 0 ≤ y) (h₁ : y < 4294967296) : bits .or .u64 (x * 4294967296) y = x * 4294967296 + y :=
  bits_join .u64 64 (by decide) wraps_u64 32 _ y (by omega) (by omega) (by omega) h₀ h₁ (by omega)

theorem mul_rel {w wr W : World} {s : Nat} {k0 k1 k2 k3 : Array Value} {t0 t1 t2 t3 : TypeId} {X : Prop} (hs : s = w.heap.size) (H : Chg NoChg w wr ∧ Blk wr s k0 t0 ∧ Blk wr (s + 1) k1 t1 ∧ Blk wr (s + 1 + 1) k2 t2 ∧ Blk wr (s + 1 + 1 + 1) k3 t3)
    (c : Chg (fun k => k = s + 1 + 1 + 1) wr W) (hX : X) : Chg NoChg w W ∧ Blk W s k0 t0 ∧ Blk W (s + 1) k1 t1 ∧ Blk W (s + 1 + 1) k2 t2 ∧ X :=
  ⟨H.1.trans c (fun k hk => .inr (by omega)), c.blk H.2.1 (by omega), c.blk H.2.2.1 (by omega), c.blk H.2.2.2.1 (by omega), hX⟩

set_option maxRecDepth 100000 in
set_option maxHeartbeats 1000000 in
theorem wMul_halves (a b a0 a1 b0 b1 p00 p01 p10 p11 q0 r0 n1 q1 r1 n2 q2 r2 n3 q3 r3 : Int) (w : World)
    (S0 : Hid (bits .and .u64 a 4294967295 = a0 ∧ a / 4294967296 = a1 ∧ bits .and .u64 b 4294967295 = b0 ∧ b / 4294967296 = b1))
    (S1 : Hid (a0 * b0 = p00 ∧ 0 ≤ p00 ∧ p00 ≤ 18446744065119617025 ∧ bits .and .u64 p00 4294967295 = q0 ∧ p00 / 4294967296 = r0))
    (S2 : Hid (a0 * b1 = p01 ∧ 0 ≤ p01 ∧ p01 ≤ 18446744065119617025 ∧ 0 ≤ r0 ∧ r0 ≤ 4294967295 ∧ p01 + r0 = n1 ∧ bits .and .u64 n1 4294967295 = q1 ∧ n1 / 4294967296 = r1))
    (S3 : Hid (a1 * b0 = p10 ∧ 0 ≤ p10 ∧ p10 ≤ 18446744065119617025 ∧ 0 ≤ q1 ∧ q1 ≤ 4294967295 ∧ p10 + q1 = n2 ∧ bits .and .u64 n2 4294967295 = q2 ∧ n2 / 4294967296 = r2))
    (S4 : Hid (a1 * b1 = p11 ∧ 0 ≤ p11 ∧ p11 ≤ 18446744065119617025 ∧ 0 ≤ r1 ∧ r1 ≤ 4294967295 ∧ 0 ≤ r2 ∧ r2 ≤ 4294967295 ∧ p11 + r1 + r2 = n3 ∧ bits .and .u64 n3 4294967295 = q3 ∧ n3 / 4294967296 = r3))
    (S5 : Hid (0 ≤ r3 ∧ r3 ≤ 4294967295 ∧ 0 ≤ q3 ∧ q3 ≤ 4294967295 ∧ 0 ≤ q2 ∧ q2 ≤ 4294967295 ∧ 0 ≤ q0 ∧ q0 ≤ 4294967295)) :
    Calls Tryd.prog 26 #[.int .u64 a, .int .u64 b] w fun e w' => e = .returned (.agg #[.int .u64 (r3 * 4294967296 + q3), .int .u64 (q2 * 4294967296 + q0)]) ∧ Chg NoChg w w' := by
  go_enter Tryd.func26, Tryd.ntmps26
  have s0 := S0.out
  obtain ⟨x1, x2, x3, x4⟩ := s0
  go_wp2
  clear x1 x2 x3 x4
  go_loopw [22] (fun i wr => Chg NoChg w wr ∧ Blk wr w.heap.size #[.int .u64 0, .int .u64 0] 61 ∧ Blk wr (w.heap.size + 1) #[.int .u64 a0, .int .u64 a1] 99 ∧ Blk wr (w.heap.size + 1 + 1) #[.int .u64 b0, .int .u64 b1] 99 ∧
      ((i = .int .i64 0 ∧ Blk wr (w.heap.size + 1 + 1 + 1) #[.int .u64 0, .int .u64 0, .int .u64 0, .int .u64 0] 77) ∨ (i = .int .i64 1 ∧ Blk wr (w.heap.size + 1 + 1 + 1) #[.int .u64 q0, .int .u64 q1, .int .u64 r1, .int .u64 0] 77) ∨
       (i = .int .i64 2 ∧ Blk wr (w.heap.size + 1 + 1 + 1) #[.int .u64 q0, .int .u64 q2, .int .u64 q3, .int .u64 r3] 77))) (fun i _ => 2 - (intOf i).toNat)
  case atStart =>
    refine ⟨?_, ?_, ?_, ?_, .inl ⟨rfl, Blk.new' _ _ (by simp)⟩⟩
    · (repeat' (first | (with_reducible exact Chg.refl _ _) | (with_reducible assumption) | (with_reducible refine Chg.alloc ?_ _) | (with_reducible refine Chg.drewN ?_ _) | (with_reducible refine Chg.drew ?_) | (with_reducible refine Chg.setCell ?_ _ ?_) | (apply Or.inl; with_reducible rfl) | (apply Or.inl; simp; done) | (apply Or.inr; simp; done) | (apply Or.inr; simp; omega)))
    · exact (((Blk.new _ _ _).alloc _).alloc _).alloc _
    · exact ((Blk.new' _ _ (by simp)).alloc _).alloc _
    · exact (Blk.new' _ _ (by simp)).alloc _
  case round =>
    obtain ⟨hc, B0, B1, B2, ⟨rfl, B3⟩ | ⟨rfl, B3⟩ | ⟨rfl, B3⟩⟩ := hrel
    · have c10 := B1.cell 0
      have c11 := B1.cell 1
      have c20 := B2.cell 0
      have c21 := B2.cell 1
      have c30 := B3.cell 0
      have c31 := B3.cell 1
      have c32 := B3.cell 2
      have c33 := B3.cell 3
      have f3 := B3.frozen
      have hs := B3.lt
      simp at c10 c11 c20 c21 c30 c31 c32 c33
      have HB := hide (And.intro hc (And.intro B0 (And.intro B1 (And.intro B2 B3))))
      clear hc B0 B1 B2 B3
      go_wp2
      refine wp_loop_rounds 3 ?_
      rw [rounds_succ]
      have s1 := S1.out
      obtain ⟨x1, x2, x3, x4, x5⟩ := s1
      go_wp2
      go_quiet (fail)
      go_wp2
      clear x1 x2 x3 x4 x5
      rw [rounds_succ]
      have s2 := S2.out
      obtain ⟨x1, x2, x3, x4, x5, x6, x7, x8⟩ := s2
      go_wp2
      go_quiet (fail)
      go_wp2
      clear x1 x2 x3 x4 x5 x6 x7 x8
      rw [rounds_succ]
      go_wp2
      go_roundw
      case rel =>
        refine mul_rel rfl HB.out ?_ (.inr (.inl ⟨rfl, ?_⟩))
        · (repeat' (first | (with_reducible exact Chg.refl _ _) | (with_reducible assumption) | (with_reducible refine Chg.alloc ?_ _) | (with_reducible refine Chg.drewN ?_ _) | (with_reducible refine Chg.drew ?_) | (with_reducible refine Chg.setCell ?_ _ ?_) | (apply Or.inl; with_reducible rfl) | (apply Or.inl; simp; done) | (apply Or.inr; simp; done) | (apply Or.inr; simp; omega)))
        · exact ((((HB.out.2.2.2.2.drewN _).set 0 _).drewN _).set 1 _).set 2 _
      case measure => simp [intOf]
    · have c10 := B1.cell 0
      have c11 := B1.cell 1
      have c20 := B2.cell 0
      have c21 := B2.cell 1
      have c30 := B3.cell 0
      have c31 := B3.cell 1
      have c32 := B3.cell 2
      have c33 := B3.cell 3
      have f3 := B3.frozen
      have hs := B3.lt
      simp at c10 c11 c20 c21 c30 c31 c32 c33
      have HB := hide (And.intro hc (And.intro B0 (And.intro B1 (And.intro B2 B3))))
      clear hc B0 B1 B2 B3
      go_wp2
      refine wp_loop_rounds 3 ?_
      rw [rounds_succ]
      have s1 := S3.out
      obtain ⟨x1, x2, x3, x4, x5, x6, x7, x8⟩ := s1
      go_wp2
      go_quiet (fail)
      go_wp2
      clear x1 x2 x3 x4 x5 x6 x7 x8
      rw [rounds_succ]
      have s2 := S4.out
      obtain ⟨x1, x2, x3, x4, x5, x6, x7, x8, x9, x10⟩ := s2
      go_wp2
      go_quiet (fail)
      go_wp2
      clear x1 x2 x3 x4 x5 x6 x7 x8 x9 x10
      rw [rounds_succ]
      go_wp2
      go_roundw
      case rel =>
        refine mul_rel rfl HB.out ?_ (.inr (.inr ⟨rfl, ?_⟩))
        · (repeat' (first | (with_reducible exact Chg.refl _ _) | (with_reducible assumption) | (with_reducible refine Chg.alloc ?_ _) | (with_reducible refine Chg.drewN ?_ _) | (with_reducible refine Chg.drew ?_) | (with_reducible refine Chg.setCell ?_ _ ?_) | (apply Or.inl; with_reducible rfl) | (apply Or.inl; simp; done) | (apply Or.inr; simp; done) | (apply Or.inr; simp; omega)))
        · exact ((((HB.out.2.2.2.2.drewN _).set 1 _).drewN _).set 2 _).set 3 _
      case measure => simp [intOf]
    · have c30 := B3.cell 0
      have c31 := B3.cell 1
      have c32 := B3.cell 2
      have c33 := B3.cell 3
      have c00 := B0.cell 0
      have c01 := B0.cell 1
      have f0 := B0.frozen
      have hs := B3.lt
      simp at c30 c31 c32 c33 c00 c01
      have HB := hide (And.intro hc (And.intro B0 (And.intro B1 (And.intro B2 B3))))
      clear hc B0 B1 B2 B3
      have s5 := S5.out
      obtain ⟨x1, x2, x3, x4, x5, x6, x7, x8⟩ := s5
      have o1 := or_u64 r3 q3 x1 (by omega) x3 (by omega)
      have o2 := or_u64 q2 q0 x5 (by omega) x7 (by omega)
      go_wp2
      refine bodyPost_ret (v := .agg #[.int .u64 (r3 * 4294967296 + q3), .int .u64 (q2 * 4294967296 + q0)]) (by simp [results, Tryd.results26, go_sem, c00, c01]) rfl ⟨rfl, ?_⟩
      refine (HB.out.1).trans (S' := fun k => k = w.heap.size) ?_ (fun k hk => .inr (by omega))
      (repeat' (first | (with_reducible exact Chg.refl _ _) | (with_reducible assumption) | (with_reducible refine Chg.alloc ?_ _) | (with_reducible refine Chg.drewN ?_ _) | (with_reducible refine Chg.drew ?_) | (with_reducible refine Chg.setCell ?_ _ ?_) | (apply Or.inl; with_reducible rfl) | (apply Or.inl; simp; done) | (apply Or.inr; simp; done) | (apply Or.inr; simp; omega)))

theorem wMul_any (a b : Nat) (w : World) (ha : a < 18446744073709551616) (hb : b < 18446744073709551616) :
    Calls Tryd.prog 26 #[.int .u64 (a : Int), .int .u64 (b : Int)] w fun e w' => e = .returned (.agg #[.int .u64 ((a * b / 18446744073709551616 : Nat) : Int), .int .u64 ((a * b % 18446744073709551616 : Nat) : Int)]) ∧ Chg NoChg w w' := by
  obtain ⟨a0, ha0⟩ : ∃ x : Int, x = (a : Int) % 4294967296 := ⟨_, rfl⟩
  obtain ⟨a1, ha1⟩ : ∃ x : Int, x = (a : Int) / 4294967296 := ⟨_, rfl⟩
  obtain ⟨b0, hb0⟩ : ∃ x : Int, x = (b : Int) % 4294967296 := ⟨_, rfl⟩
  obtain ⟨b1, hb1⟩ : ∃ x : Int, x = (b : Int) / 4294967296 := ⟨_, rfl⟩
  have pr : ∀ x y : Int, 0 ≤ x → x ≤ 4294967295 → 0 ≤ y → y ≤ 4294967295 → 0 ≤ x * y ∧ x * y ≤ 18446744065119617025 := fun x y h1 h2 h3 h4 =>
    ⟨Int.mul_nonneg h1 h3, Int.le_trans (Int.mul_le_mul h2 h4 h3 (by omega)) (by decide)⟩
  obtain ⟨p00, e00⟩ : ∃ x, a0 * b0 = x := ⟨_, rfl⟩
  obtain ⟨p01, e01⟩ : ∃ x, a0 * b1 = x := ⟨_, rfl⟩
  obtain ⟨p10, e10⟩ : ∃ x, a1 * b0 = x := ⟨_, rfl⟩
  obtain ⟨p11, e11⟩ : ∃ x, a1 * b1 = x := ⟨_, rfl⟩
  have h00 := pr a0 b0 (by omega) (by omega) (by omega) (by omega)
  have h01 := pr a0 b1 (by omega) (by omega) (by omega) (by omega)
  have h10 := pr a1 b0 (by omega) (by omega) (by omega) (by omega)
  have h11 := pr a1 b1 (by omega) (by omega) (by omega) (by omega)
  have hab : (a : Int) * (b : Int) = p11 * 18446744073709551616 + (p10 + p01) * 4294967296 + p00 := by
    have e1 : (a : Int) = a1 * 4294967296 + a0 := by omega
    have e2 : (b : Int) = b1 * 4294967296 + b0 := by omega
    rw [e1, e2, ← e00, ← e01, ← e10, ← e11]
    simp only [Int.add_mul, Int.mul_add]
    have r1 : a1 * 4294967296 * (b1 * 4294967296) = a1 * b1 * 18446744073709551616 := by
      rw [Int.mul_assoc, Int.mul_left_comm 4294967296, ← Int.mul_assoc a1 b1]; rfl
    have r2 : a1 * 4294967296 * b0 = a1 * b0 * 4294967296 := by rw [Int.mul_assoc, Int.mul_comm 4294967296, ← Int.mul_assoc]
    have r3 : a0 * (b1 * 4294967296) = a0 * b1 * 4294967296 := by rw [Int.mul_assoc]
    rw [r1, r2, r3]
    omega
  rw [e00] at h00
  rw [e01] at h01
  rw [e10] at h10
  rw [e11] at h11
  have A1 := and_u64 a (by omega) (by omega)
  have B1 := and_u64 b (by omega) (by omega)
  clear pr
  obtain ⟨q0, hq0⟩ : ∃ x : Int, x = p00 % 4294967296 := ⟨_, rfl⟩
  obtain ⟨r0, hr0⟩ : ∃ x : Int, x = p00 / 4294967296 := ⟨_, rfl⟩
  obtain ⟨n1, hn1⟩ : ∃ x : Int, p01 + r0 = x := ⟨_, rfl⟩
  obtain ⟨q1, hq1⟩ : ∃ x : Int, x = n1 % 4294967296 := ⟨_, rfl⟩
  obtain ⟨r1, hr1⟩ : ∃ x : Int, x = n1 / 4294967296 := ⟨_, rfl⟩
  obtain ⟨n2, hn2⟩ : ∃ x : Int, p10 + q1 = x := ⟨_, rfl⟩
  obtain ⟨q2, hq2⟩ : ∃ x : Int, x = n2 % 4294967296 := ⟨_, rfl⟩
  obtain ⟨r2, hr2⟩ : ∃ x : Int, x = n2 / 4294967296 := ⟨_, rfl⟩
  obtain ⟨n3, hn3⟩ : ∃ x : Int, p11 + r1 + r2 = x := ⟨_, rfl⟩
  obtain ⟨q3, hq3⟩ : ∃ x : Int, x = n3 % 4294967296 := ⟨_, rfl⟩
  obtain ⟨r3, hr3⟩ : ∃ x : Int, x = n3 / 4294967296 := ⟨_, rfl⟩
  have X0 := and_u64 p00 (by omega) (by omega)
  have X1 := and_u64 n1 (by omega) (by omega)
  have X2 := and_u64 n2 (by omega) (by omega)
  have X3 := and_u64 n3 (by omega) (by omega)
  have key : (a : Int) * (b : Int) = (r3 * 4294967296 + q3) * 18446744073709551616 + (q2 * 4294967296 + q0) := by
    rw [hab]
    omega
  have hhi : ((a * b / 18446744073709551616 : Nat) : Int) = r3 * 4294967296 + q3 := by
    have : ((a * b : Nat) : Int) = (a : Int) * (b : Int) := by simp
    omega
  have hlo : ((a * b % 18446744073709551616 : Nat) : Int) = q2 * 4294967296 + q0 := by
    have : ((a * b : Nat) : Int) = (a : Int) * (b : Int) := by simp
    omega
  rw [hhi, hlo]
  exact wMul_halves a b a0 a1 b0 b1 p00 p01 p10 p11 q0 r0 n1 q1 r1 n2 q2 r2 n3 q3 r3 w
    (hide ⟨A1.trans ha0.symm, ha1.symm, B1.trans hb0.symm, hb1.symm⟩)
    (hide ⟨e00, h00.1, h00.2, X0.trans hq0.symm, hr0.symm⟩)
    (hide ⟨e01, h01.1, h01.2, by omega, by omega, hn1, X1.trans hq1.symm, hr1.symm⟩)
    (hide ⟨e10, h10.1, h10.2, by omega, by omega, hn2, X2.trans hq2.symm, hr2.symm⟩)
    (hide ⟨e11, h11.1, h11.2, by omega, by omega, by omega, by omega, hn3, X3.trans hq3.symm, hr3.symm⟩)
    (hide ⟨by omega, by omega, by omega, by omega, by omega, by omega, by omega, by omega⟩)
end Go.Proofs.YtofgajlpdnokdaaDoor
