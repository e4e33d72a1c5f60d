/- Wides, as one text: Wide WideC Wide2 Wide3 Curve Curve2 Below BelowLaw. -/
import Derived.Test.YtofgajlpdnokdaaGreatDoorBase
import Derived.Laws.BitsLemmas
import Derived.IntWalk
import Derived.Laws.Externs
import Derived.Test.YtofgajlpdnokdaaGreatDoorSpecs
import Derived.Deep.RegionHeld3
/- wide: products of two words. -/
namespace Go.Proofs.YtofgajlpdnokdaaGreatDoor
set_option linter.unusedVariables false
open Go.RowKit

theorem wraps_u64 (n : Int) (h₀ : 0 ≤ n) (h₁ : n < 2 ^ 64) : IntKind.u64.wrap n = n := by
  have : IntKind.u64.wrap n = n % 18446744073709551616 := by simp [IntKind.wrap, IntKind.bits, IntKind.signed]
  rw [this]; omega
theorem and_u64 (x : Int) (h₀ : 0 ≤ x) (h₁ : x < 18446744073709551616) : bits .and .u64 x 4294967295 = x % 4294967296 :=
  bits_mask .u64 64 (by decide) wraps_u64 32 (by decide) x h₀ h₁
theorem or_u64 (x y : Int) (hx : 0 ≤ x) (hx1 : x < 4294967296) (h₀ : 0 ≤ y) (h₁ : y < 4294967296) : bits .or .u64 (x * 4294967296) y = x * 4294967296 + y :=
  bits_join .u64 64 (by decide) wraps_u64 32 _ y (by omega) (by omega) (by omega) h₀ h₁ (by omega)

theorem mul_rel {w wr W : World} {s : Nat} {k0 k1 k2 k3 : Array Value} {t0 t1 t2 t3 : TypeId} {X : Prop} (hs : s = w.heap.size) (H : Chg NoChg w wr ∧ Blk wr s k0 t0 ∧ Blk wr (s + 1) k1 t1 ∧ Blk wr (s + 1 + 1) k2 t2 ∧ Blk wr (s + 1 + 1 + 1) k3 t3)
    (c : Chg (fun k => k = s + 1 + 1 + 1) wr W) (hX : X) : Chg NoChg w W ∧ Blk W s k0 t0 ∧ Blk W (s + 1) k1 t1 ∧ Blk W (s + 1 + 1) k2 t2 ∧ X :=
  ⟨H.1.trans c (fun k hk => .inr (by omega)), c.blk H.2.1 (by omega), c.blk H.2.2.1 (by omega), c.blk H.2.2.2.1 (by omega), hX⟩

set_option maxRecDepth 100000 in
set_option maxHeartbeats 1000000 in
theorem wMul_halves (a b a0 a1 b0 b1 p00 p01 p10 p11 q0 r0 n1 q1 r1 n2 q2 r2 n3 q3 r3 : Int) (w : World)
    (S0 : Hid (bits .and .u64 a 4294967295 = a0 ∧ a / 4294967296 = a1 ∧ bits .and .u64 b 4294967295 = b0 ∧ b / 4294967296 = b1))
    (S1 : Hid (a0 * b0 = p00 ∧ 0 ≤ p00 ∧ p00 ≤ 18446744065119617025 ∧ bits .and .u64 p00 4294967295 = q0 ∧ p00 / 4294967296 = r0))
    (S2 : Hid (a0 * b1 = p01 ∧ 0 ≤ p01 ∧ p01 ≤ 18446744065119617025 ∧ 0 ≤ r0 ∧ r0 ≤ 4294967295 ∧ p01 + r0 = n1 ∧ bits .and .u64 n1 4294967295 = q1 ∧ n1 / 4294967296 = r1))
    (S3 : Hid (a1 * b0 = p10 ∧ 0 ≤ p10 ∧ p10 ≤ 18446744065119617025 ∧ 0 ≤ q1 ∧ q1 ≤ 4294967295 ∧ p10 + q1 = n2 ∧ bits .and .u64 n2 4294967295 = q2 ∧ n2 / 4294967296 = r2))
    (S4 : Hid (a1 * b1 = p11 ∧ 0 ≤ p11 ∧ p11 ≤ 18446744065119617025 ∧ 0 ≤ r1 ∧ r1 ≤ 4294967295 ∧ 0 ≤ r2 ∧ r2 ≤ 4294967295 ∧ p11 + r1 + r2 = n3 ∧ bits .and .u64 n3 4294967295 = q3 ∧ n3 / 4294967296 = r3))
    (S5 : Hid (0 ≤ r3 ∧ r3 ≤ 4294967295 ∧ 0 ≤ q3 ∧ q3 ≤ 4294967295 ∧ 0 ≤ q2 ∧ q2 ≤ 4294967295 ∧ 0 ≤ q0 ∧ q0 ≤ 4294967295)) :
    Calls Tryz.prog 31 #[.int .u64 a, .int .u64 b] w fun e w' => e = .returned (.agg #[.int .u64 (r3 * 4294967296 + q3), .int .u64 (q2 * 4294967296 + q0)]) ∧ Chg NoChg w w' := by
  go_enter Tryz.func31, Tryz.ntmps31
  have s0 := S0.out
  obtain ⟨x1, x2, x3, x4⟩ := s0
  go_wp2
  clear x1 x2 x3 x4
  go_loopw [22] (fun i wr => Chg NoChg w wr ∧ Blk wr w.heap.size #[.int .u64 0, .int .u64 0] 38 ∧ Blk wr (w.heap.size + 1) #[.int .u64 a0, .int .u64 a1] 90 ∧ Blk wr (w.heap.size + 1 + 1) #[.int .u64 b0, .int .u64 b1] 90 ∧
      ((i = .int .i64 0 ∧ Blk wr (w.heap.size + 1 + 1 + 1) #[.int .u64 0, .int .u64 0, .int .u64 0, .int .u64 0] 91) ∨ (i = .int .i64 1 ∧ Blk wr (w.heap.size + 1 + 1 + 1) #[.int .u64 q0, .int .u64 q1, .int .u64 r1, .int .u64 0] 91) ∨
       (i = .int .i64 2 ∧ Blk wr (w.heap.size + 1 + 1 + 1) #[.int .u64 q0, .int .u64 q2, .int .u64 q3, .int .u64 r3] 91))) (fun i _ => 2 - (intOf i).toNat)
  case atStart =>
    refine ⟨?_, ?_, ?_, ?_, .inl ⟨rfl, Blk.new' _ _ (by simp)⟩⟩
    · (repeat' (first | (with_reducible exact Chg.refl _ _) | (with_reducible assumption) | (with_reducible refine Chg.alloc ?_ _) | (with_reducible refine Chg.drewN ?_ _) | (with_reducible refine Chg.drew ?_) | (with_reducible refine Chg.setCell ?_ _ ?_) | (apply Or.inl; with_reducible rfl) | (apply Or.inl; simp; done) | (apply Or.inr; simp; done) | (apply Or.inr; simp; omega)))
    · exact (((Blk.new _ _ _).alloc _).alloc _).alloc _
    · exact ((Blk.new' _ _ (by simp)).alloc _).alloc _
    · exact (Blk.new' _ _ (by simp)).alloc _
  case round =>
    obtain ⟨hc, B0, B1, B2, ⟨rfl, B3⟩ | ⟨rfl, B3⟩ | ⟨rfl, B3⟩⟩ := hrel
    · have c10 := B1.cell 0
      have c11 := B1.cell 1
      have c20 := B2.cell 0
      have c21 := B2.cell 1
      have c30 := B3.cell 0
      have c31 := B3.cell 1
      have c32 := B3.cell 2
      have c33 := B3.cell 3
      have f3 := B3.frozen
      have hs := B3.lt
      simp at c10 c11 c20 c21 c30 c31 c32 c33
      have HB := hide (And.intro hc (And.intro B0 (And.intro B1 (And.intro B2 B3))))
      clear hc B0 B1 B2 B3
      go_wp2
      refine wp_loop_rounds 3 ?_
      rw [rounds_succ]
      have s1 := S1.out
      obtain ⟨x1, x2, x3, x4, x5⟩ := s1
      go_wp2
      go_quiet (fail)
      go_wp2
      clear x1 x2 x3 x4 x5
      rw [rounds_succ]
      have s2 := S2.out
      obtain ⟨x1, x2, x3, x4, x5, x6, x7, x8⟩ := s2
      go_wp2
      go_quiet (fail)
      go_wp2
      clear x1 x2 x3 x4 x5 x6 x7 x8
      rw [rounds_succ]
      go_wp2
      go_roundw
      case rel =>
        refine mul_rel rfl HB.out ?_ (.inr (.inl ⟨rfl, ?_⟩))
        · (repeat' (first | (with_reducible exact Chg.refl _ _) | (with_reducible assumption) | (with_reducible refine Chg.alloc ?_ _) | (with_reducible refine Chg.drewN ?_ _) | (with_reducible refine Chg.drew ?_) | (with_reducible refine Chg.setCell ?_ _ ?_) | (apply Or.inl; with_reducible rfl) | (apply Or.inl; simp; done) | (apply Or.inr; simp; done) | (apply Or.inr; simp; omega)))
        · exact ((((HB.out.2.2.2.2.drewN _).set 0 _).drewN _).set 1 _).set 2 _
      case measure => simp [intOf]
    · have c10 := B1.cell 0
      have c11 := B1.cell 1
      have c20 := B2.cell 0
      have c21 := B2.cell 1
      have c30 := B3.cell 0
      have c31 := B3.cell 1
      have c32 := B3.cell 2
      have c33 := B3.cell 3
      have f3 := B3.frozen
      have hs := B3.lt
      simp at c10 c11 c20 c21 c30 c31 c32 c33
      have HB := hide (And.intro hc (And.intro B0 (And.intro B1 (And.intro B2 B3))))
      clear hc B0 B1 B2 B3
      go_wp2
      refine wp_loop_rounds 3 ?_
      rw [rounds_succ]
      have s1 := S3.out
      obtain ⟨x1, x2, x3, x4, x5, x6, x7, x8⟩ := s1
      go_wp2
      go_quiet (fail)
      go_wp2
      clear x1 x2 x3 x4 x5 x6 x7 x8
      rw [rounds_succ]
      have s2 := S4.out
      obtain ⟨x1, x2, x3, x4, x5, x6, x7, x8, x9, x10⟩ := s2
      go_wp2
      go_quiet (fail)
      go_wp2
      clear x1 x2 x3 x4 x5 x6 x7 x8 x9 x10
      rw [rounds_succ]
      go_wp2
      go_roundw
      case rel =>
        refine mul_rel rfl HB.out ?_ (.inr (.inr ⟨rfl, ?_⟩))
        · (repeat' (first | (with_reducible exact Chg.refl _ _) | (with_reducible assumption) | (with_reducible refine Chg.alloc ?_ _) | (with_reducible refine Chg.drewN ?_ _) | (with_reducible refine Chg.drew ?_) | (with_reducible refine Chg.setCell ?_ _ ?_) | (apply Or.inl; with_reducible rfl) | (apply Or.inl; simp; done) | (apply Or.inr; simp; done) | (apply Or.inr; simp; omega)))
        · exact ((((HB.out.2.2.2.2.drewN _).set 1 _).drewN _).set 2 _).set 3 _
      case measure => simp [intOf]
    · have c30 := B3.cell 0
      have c31 := B3.cell 1
      have c32 := B3.cell 2
      have c33 := B3.cell 3
      have c00 := B0.cell 0
      have c01 := B0.cell 1
      have f0 := B0.frozen
      have hs := B3.lt
      simp at c30 c31 c32 c33 c00 c01
      have HB := hide (And.intro hc (And.intro B0 (And.intro B1 (And.intro B2 B3))))
      clear hc B0 B1 B2 B3
      have s5 := S5.out
      obtain ⟨x1, x2, x3, x4, x5, x6, x7, x8⟩ := s5
      have o1 := or_u64 r3 q3 x1 (by omega) x3 (by omega)
      have o2 := or_u64 q2 q0 x5 (by omega) x7 (by omega)
      go_wp2
      refine bodyPost_ret (v := .agg #[.int .u64 (r3 * 4294967296 + q3), .int .u64 (q2 * 4294967296 + q0)]) (by simp [results, Tryz.results31, go_sem, c00, c01]) rfl ⟨rfl, ?_⟩
      refine (HB.out.1).trans (S' := fun k => k = w.heap.size) ?_ (fun k hk => .inr (by omega))
      (repeat' (first | (with_reducible exact Chg.refl _ _) | (with_reducible assumption) | (with_reducible refine Chg.alloc ?_ _) | (with_reducible refine Chg.drewN ?_ _) | (with_reducible refine Chg.drew ?_) | (with_reducible refine Chg.setCell ?_ _ ?_) | (apply Or.inl; with_reducible rfl) | (apply Or.inl; simp; done) | (apply Or.inr; simp; done) | (apply Or.inr; simp; omega)))

theorem wMul_any (a b : Nat) (w : World) (ha : a < 18446744073709551616) (hb : b < 18446744073709551616) :
    Calls Tryz.prog 31 #[.int .u64 (a : Int), .int .u64 (b : Int)] w fun e w' => e = .returned (.agg #[.int .u64 ((a * b / 18446744073709551616 : Nat) : Int), .int .u64 ((a * b % 18446744073709551616 : Nat) : Int)]) ∧ Chg NoChg w w' := by
  obtain ⟨a0, ha0⟩ : ∃ x : Int, x = (a : Int) % 4294967296 := ⟨_, rfl⟩
  obtain ⟨a1, ha1⟩ : ∃ x : Int, x = (a : Int) / 4294967296 := ⟨_, rfl⟩
  obtain ⟨b0, hb0⟩ : ∃ x : Int, x = (b : Int) % 4294967296 := ⟨_, rfl⟩
  obtain ⟨b1, hb1⟩ : ∃ x : Int, x = (b : Int) / 4294967296 := ⟨_, rfl⟩
  have pr : ∀ x y : Int, 0 ≤ x → x ≤ 4294967295 → 0 ≤ y → y ≤ 4294967295 → 0 ≤ x * y ∧ x * y ≤ 18446744065119617025 := fun x y h1 h2 h3 h4 =>
    ⟨Int.mul_nonneg h1 h3, Int.le_trans (Int.mul_le_mul h2 h4 h3 (by omega)) (by decide)⟩
  obtain ⟨p00, e00⟩ : ∃ x, a0 * b0 = x := ⟨_, rfl⟩
  obtain ⟨p01, e01⟩ : ∃ x, a0 * b1 = x := ⟨_, rfl⟩
  obtain ⟨p10, e10⟩ : ∃ x, a1 * b0 = x := ⟨_, rfl⟩
  obtain ⟨p11, e11⟩ : ∃ x, a1 * b1 = x := ⟨_, rfl⟩
  have h00 := pr a0 b0 (by omega) (by omega) (by omega) (by omega)
  have h01 := pr a0 b1 (by omega) (by omega) (by omega) (by omega)
  have h10 := pr a1 b0 (by omega) (by omega) (by omega) (by omega)
  have h11 := pr a1 b1 (by omega) (by omega) (by omega) (by omega)
  have hab : (a : Int) * (b : Int) = p11 * 18446744073709551616 + (p10 + p01) * 4294967296 + p00 := by
    have e1 : (a : Int) = a1 * 4294967296 + a0 := by omega
    have e2 : (b : Int) = b1 * 4294967296 + b0 := by omega
    rw [e1, e2, ← e00, ← e01, ← e10, ← e11]
    simp only [Int.add_mul, Int.mul_add]
    have r1 : a1 * 4294967296 * (b1 * 4294967296) = a1 * b1 * 18446744073709551616 := by
      rw [Int.mul_assoc, Int.mul_left_comm 4294967296, ← Int.mul_assoc a1 b1]; rfl
    have r2 : a1 * 4294967296 * b0 = a1 * b0 * 4294967296 := by rw [Int.mul_assoc, Int.mul_comm 4294967296, ← Int.mul_assoc]
    have r3 : a0 * (b1 * 4294967296) = a0 * b1 * 4294967296 := by rw [Int.mul_assoc]
    rw [r1, r2, r3]
    omega
  rw [e00] at h00
  rw [e01] at h01
  rw [e10] at h10
  rw [e11] at h11
  have A1 := and_u64 a (by omega) (by omega)
  have B1 := and_u64 b (by omega) (by omega)
  clear pr
  obtain ⟨q0, hq0⟩ : ∃ x : Int, x = p00 % 4294967296 := ⟨_, rfl⟩
  obtain ⟨r0, hr0⟩ : ∃ x : Int, x = p00 / 4294967296 := ⟨_, rfl⟩
  obtain ⟨n1, hn1⟩ : ∃ x : Int, p01 + r0 = x := ⟨_, rfl⟩
  obtain ⟨q1, hq1⟩ : ∃ x : Int, x = n1 % 4294967296 := ⟨_, rfl⟩
  obtain ⟨r1, hr1⟩ : ∃ x : Int, x = n1 / 4294967296 := ⟨_, rfl⟩
  obtain ⟨n2, hn2⟩ : ∃ x : Int, p10 + q1 = x := ⟨_, rfl⟩
  obtain ⟨q2, hq2⟩ : ∃ x : Int, x = n2 % 4294967296 := ⟨_, rfl⟩
  obtain ⟨r2, hr2⟩ : ∃ x : Int, x = n2 / 4294967296 := ⟨_, rfl⟩
  obtain ⟨n3, hn3⟩ : ∃ x : Int, p11 + r1 + r2 = x := ⟨_, rfl⟩
  obtain ⟨q3, hq3⟩ : ∃ x : Int, x = n3 % 4294967296 := ⟨_, rfl⟩
  obtain ⟨r3, hr3⟩ : ∃ x : Int, x = n3 / 4294967296 := ⟨_, rfl⟩
  have X0 := and_u64 p00 (by omega) (by omega)
  have X1 := and_u64 n1 (by omega) (by omega)
  have X2 := and_u64 n2 (by omega) (by omega)
  have X3 := and_u64 n3 (by omega) (by omega)
  have key : (a : Int) * (b : Int) = (r3 * 4294967296 + q3) * 18446744073709551616 + (q2 * 4294967296 + q0) := by
    rw [hab]
    omega
  have hhi : ((a * b / 18446744073709551616 : Nat) : Int) = r3 * 4294967296 + q3 := by
    have : ((a * b : Nat) : Int) = (a : Int) * (b : Int) := by simp
    omega
  have hlo : ((a * b % 18446744073709551616 : Nat) : Int) = q2 * 4294967296 + q0 := by
    have : ((a * b : Nat) : Int) = (a : Int) * (b : Int) := by simp
    omega
  rw [hhi, hlo]
  exact wMul_halves a b a0 a1 b0 b1 p00 p01 p10 p11 q0 r0 n1 q1 r1 n2 q2 r2 n3 q3 r3 w
    (hide ⟨A1.trans ha0.symm, ha1.symm, B1.trans hb0.symm, hb1.symm⟩)
    (hide ⟨e00, h00.1, h00.2, X0.trans hq0.symm, hr0.symm⟩)
    (hide ⟨e01, h01.1, h01.2, by omega, by omega, hn1, X1.trans hq1.symm, hr1.symm⟩)
    (hide ⟨e10, h10.1, h10.2, by omega, by omega, hn2, X2.trans hq2.symm, hr2.symm⟩)
    (hide ⟨e11, h11.1, h11.2, by omega, by omega, by omega, by omega, hn3, X3.trans hq3.symm, hr3.symm⟩)
    (hide ⟨by omega, by omega, by omega, by omega, by omega, by omega, by omega, by omega⟩)
end Go.Proofs.YtofgajlpdnokdaaGreatDoor

/- wide: order. -/
namespace Go.Proofs.YtofgajlpdnokdaaGreatDoor
set_option linter.unusedVariables false
open Go.RowKit

/-- A number of 128 bits. -/
def wideV (n : Nat) : Value := .agg #[.int .u64 ((n / 18446744073709551616 : Nat) : Int), .int .u64 ((n % 18446744073709551616 : Nat) : Int)]

theorem cmp_u64 (a b : Nat) (w : World) :
    Calls Tryz.prog 32 #[.int .u64 (a : Int), .int .u64 (b : Int)] w fun e w' => e = .returned (.int .i64 (if a < b then -1 else if b < a then 1 else 0)) ∧ w = w' := by
  by_cases h1 : a < b
  · rw [if_pos h1]
    go_enter Tryz.func32, Tryz.ntmps32
    go_wp2
    go_ret
    exact ⟨rfl, rfl⟩
  · rw [if_neg h1]
    by_cases h2 : b < a
    · rw [if_pos h2]
      go_enter Tryz.func32, Tryz.ntmps32
      go_wp2
      go_ret
      exact ⟨rfl, rfl⟩
    · rw [if_neg h2]
      go_enter Tryz.func32, Tryz.ntmps32
      go_wp2
      go_ret
      exact ⟨rfl, rfl⟩

theorem wCmp_parts (h1 l1 h2 l2 : Nat) (r : Int) (w : World) (hr : (if h1 < h2 then (-1 : Int) else if h2 < h1 then 1 else if l1 < l2 then -1 else if l2 < l1 then 1 else 0) = r) :
    Calls Tryz.prog 14 #[.agg #[.int .u64 (h1 : Int), .int .u64 (l1 : Int)], .agg #[.int .u64 (h2 : Int), .int .u64 (l2 : Int)]] w fun e w' => e = .returned (.int .i64 r) ∧ Chg NoChg w w' := by
  have C1 := hide (fun w => cmp_u64 h1 h2 w)
  have C2 := hide (fun w => cmp_u64 l1 l2 w)
  by_cases g1 : h1 < h2
  · rw [if_pos g1] at hr C1
    subst hr
    go_enter Tryz.func14, Tryz.ntmps14
    go_wp2_with fail
    refine (C1.out _).mono ?_
    rintro e w1 ⟨rfl, rfl⟩
    go_wp2
    go_ret
    refine ⟨rfl, ?_⟩
    (repeat' (first | (with_reducible exact Chg.refl _ _) | (with_reducible assumption) | (with_reducible refine Chg.alloc ?_ _) | (with_reducible refine Chg.drewN ?_ _) | (with_reducible refine Chg.drew ?_) | (with_reducible refine Chg.setCell ?_ _ ?_) | (apply Or.inl; with_reducible rfl) | (apply Or.inl; simp; done) | (apply Or.inr; simp; done) | (apply Or.inr; simp; omega)))
  · rw [if_neg g1] at hr C1
    by_cases g2 : h2 < h1
    · rw [if_pos g2] at hr C1
      subst hr
      go_enter Tryz.func14, Tryz.ntmps14
      go_wp2_with fail
      refine (C1.out _).mono ?_
      rintro e w1 ⟨rfl, rfl⟩
      go_wp2
      go_ret
      refine ⟨rfl, ?_⟩
      (repeat' (first | (with_reducible exact Chg.refl _ _) | (with_reducible assumption) | (with_reducible refine Chg.alloc ?_ _) | (with_reducible refine Chg.drewN ?_ _) | (with_reducible refine Chg.drew ?_) | (with_reducible refine Chg.setCell ?_ _ ?_) | (apply Or.inl; with_reducible rfl) | (apply Or.inl; simp; done) | (apply Or.inr; simp; done) | (apply Or.inr; simp; omega)))
    · rw [if_neg g2] at hr C1
      rw [hr] at C2
      go_enter Tryz.func14, Tryz.ntmps14
      go_wp2_with fail
      refine (C1.out _).mono ?_
      rintro e w1 ⟨rfl, rfl⟩
      go_wp2_with fail
      refine (C2.out _).mono ?_
      rintro e w1 ⟨rfl, rfl⟩
      go_wp2
      go_ret
      refine ⟨rfl, ?_⟩
      (repeat' (first | (with_reducible exact Chg.refl _ _) | (with_reducible assumption) | (with_reducible refine Chg.alloc ?_ _) | (with_reducible refine Chg.drewN ?_ _) | (with_reducible refine Chg.drew ?_) | (with_reducible refine Chg.setCell ?_ _ ?_) | (apply Or.inl; with_reducible rfl) | (apply Or.inl; simp; done) | (apply Or.inr; simp; done) | (apply Or.inr; simp; omega)))

def cmpN (m n : Nat) : Int := if m < n then -1 else if n < m then 1 else 0

theorem cmpN_parts (m n : Nat) : (if m / 18446744073709551616 < n / 18446744073709551616 then (-1 : Int) else if n / 18446744073709551616 < m / 18446744073709551616 then 1 else if m % 18446744073709551616 < n % 18446744073709551616 then -1 else if n % 18446744073709551616 < m % 18446744073709551616 then 1 else 0) = cmpN m n := by
  unfold cmpN
  repeat' split
  all_goals omega

theorem wCmp_any (m n : Nat) (w : World) :
    Calls Tryz.prog 14 #[.agg #[.int .u64 ((m / 18446744073709551616 : Nat) : Int), .int .u64 ((m % 18446744073709551616 : Nat) : Int)], .agg #[.int .u64 ((n / 18446744073709551616 : Nat) : Int), .int .u64 ((n % 18446744073709551616 : Nat) : Int)]] w fun e w' => e = .returned (.int .i64 (cmpN m n)) ∧ Chg NoChg w w' :=
  wCmp_parts _ _ _ _ _ w (cmpN_parts m n)
end Go.Proofs.YtofgajlpdnokdaaGreatDoor

/- wide: sums, order. -/
namespace Go.Proofs.YtofgajlpdnokdaaGreatDoor
set_option linter.unusedVariables false
open Go.RowKit

theorem add64_run (x y c s d : Int) (hx : 0 ≤ x) (hy : 0 ≤ y) (hc0 : 0 ≤ c) (hc : c ≤ 1) (hs : (x + y + c) % 18446744073709551616 = s) (hd : (x + y + c) / 18446744073709551616 = d) (w : World) :
    (callFunc 59 #[.int .u64 x, .int .u64 y, .int .u64 c]).run Tryz.prog w = .ok (.value (.tuple #[.int .u64 s, .int .u64 d])) w := by
  rw [run_callFunc_extern Tryz.func59 (by kernel_rfl) (by kernel_rfl) (by kernel_rfl) (e := add64Entry) (by kernel_rfl), run_add64 x y c hx hy hc0 hc, hs, hd]
  rfl

theorem wPlus_parts (h1 l1 h2 l2 s d h : Int) (w : World) (b1 : 0 ≤ h1) (b2 : 0 ≤ l1) (b3 : 0 ≤ h2) (b4 : 0 ≤ l2) (b5 : 0 ≤ d) (b6 : d ≤ 1)
    (hs : (l1 + l2 + 0) % 18446744073709551616 = s) (hd : (l1 + l2 + 0) / 18446744073709551616 = d) (hh : (h1 + h2 + d) % 18446744073709551616 = h) (h0 : (h1 + h2 + d) / 18446744073709551616 = 0) :
    Calls Tryz.prog 46 #[.agg #[.int .u64 h1, .int .u64 l1], .agg #[.int .u64 h2, .int .u64 l2]] w fun e w' => e = .returned (.tuple #[.agg #[.int .u64 h, .int .u64 s], .int .i64 0]) ∧ Chg NoChg w w' := by
  have A1 := hide (fun w => add64_run l1 l2 0 s d b2 b4 (by omega) (by omega) hs hd w)
  have A2 := hide (fun w => add64_run h1 h2 d h 0 b1 b3 b5 b6 hh h0 w)
  clear b1 b2 b3 b4 b5 b6 hs hd hh h0
  go_enter Tryz.func46, Tryz.ntmps46
  go_wp2_with (first | simp only [A1.out] | simp only [A2.out])
  refine bodyPost_ret (v := .tuple #[.agg #[.int .u64 h, .int .u64 s], .int .i64 0]) (by simp [results, Tryz.results46, go_sem]) rfl ⟨rfl, ?_⟩
  (repeat' (first | (with_reducible exact Chg.refl _ _) | (with_reducible assumption) | (with_reducible refine Chg.alloc ?_ _) | (with_reducible refine Chg.drewN ?_ _) | (with_reducible refine Chg.drew ?_) | (with_reducible refine Chg.setCell ?_ _ ?_) | (apply Or.inl; with_reducible rfl) | (apply Or.inl; simp; done) | (apply Or.inr; simp; done) | (apply Or.inr; simp; omega)))

theorem wPlus_any (m n : Nat) (w : World) (h : m + n < 340282366920938463463374607431768211456) :
    Calls Tryz.prog 46 #[.agg #[.int .u64 ((m / 18446744073709551616 : Nat) : Int), .int .u64 ((m % 18446744073709551616 : Nat) : Int)], .agg #[.int .u64 ((n / 18446744073709551616 : Nat) : Int), .int .u64 ((n % 18446744073709551616 : Nat) : Int)]] w
      fun e w' => e = .returned (.tuple #[.agg #[.int .u64 (((m + n) / 18446744073709551616 : Nat) : Int), .int .u64 (((m + n) % 18446744073709551616 : Nat) : Int)], .int .i64 0]) ∧ Chg NoChg w w' :=
  wPlus_parts _ _ _ _ _ ((((m % 18446744073709551616) + (n % 18446744073709551616)) / 18446744073709551616 : Nat) : Int) _ w (by omega) (by omega) (by omega) (by omega) (by omega) (by omega) (by omega) (by omega) (by omega) (by omega)

end Go.Proofs.YtofgajlpdnokdaaGreatDoor

/- The document's numbers of 128 bits. -/
namespace Go.Proofs.YtofgajlpdnokdaaGreatDoor
set_option linter.unusedVariables false
open Go.RowKit

theorem eqGuard_wide : Tryz.prog.eqGuardType Tryz.prog.depth 38 = false := by kernel_rfl
theorem stood_wide : Tryz.prog.stoodInHeld 38 = false := by kernel_rfl

theorem wrap64 (n : Int) (h0 : 0 ≤ n) (h1 : n < 18446744073709551616) : IntKind.u64.wrap n = n := by
  have : IntKind.u64.wrap n = n % 18446744073709551616 := by simp [IntKind.wrap, IntKind.bits, IntKind.signed]
  rw [this]; omega

attribute [local go_sem] eqGuard_wide stood_wide

end Go.Proofs.YtofgajlpdnokdaaGreatDoor

/- Curves: which may be, which is none; what one has at a tick. -/
namespace Go.Proofs.YtofgajlpdnokdaaGreatDoor
set_option linter.unusedVariables false
open Go.RowKit

structure Crv.May (c : Crv) : Prop where
  hf : c.f ≤ 1048576
  hr : c.r ≤ 1048576
  hl : c.l ≤ 1099511627776
  h0 : c.l = 0 → c.f = 0
  h1 : c.l ≠ 0 → c.f ≠ c.r
instance (c : Crv) : Decidable c.May :=
  if h : c.f ≤ 1048576 ∧ c.r ≤ 1048576 ∧ c.l ≤ 1099511627776 ∧ (c.l = 0 → c.f = 0) ∧ (c.l ≠ 0 → c.f ≠ c.r) then .isTrue ⟨h.1, h.2.1, h.2.2.1, h.2.2.2.1, h.2.2.2.2⟩ else .isFalse fun ⟨a, b, c, d, e⟩ => h ⟨a, b, c, d, e⟩

theorem eqGuard_curve : Tryz.prog.eqGuardType Tryz.prog.depth 24 = false := by kernel_rfl
theorem stood_curve : Tryz.prog.stoodInHeld 24 = false := by kernel_rfl
attribute [local go_sem] eqGuard_curve stood_curve

theorem crv_false {c : Crv} (h : ¬ c.May) : decide c.May = false := by simpa using h
theorem crv_true {c : Crv} (h : c.May) : decide c.May = true := by simpa using h

theorem cMay_any (c : Crv) (w : World) :
    Calls Tryz.prog 16 #[.agg #[.int .u64 (c.f : Int), .int .u64 (c.l : Int), .int .u64 (c.r : Int)]] w fun e w' => e = .returned (.bool (decide c.May)) ∧ Chg NoChg w w' := by
  obtain ⟨f, l, r⟩ := c
  dsimp only
  by_cases h1 : f ≤ 1048576
  · have d1 : decide ((1048576 : Int) < (f : Int)) = false := by simp; omega
    by_cases h2 : r ≤ 1048576
    · have d2 : decide ((1048576 : Int) < (r : Int)) = false := by simp; omega
      by_cases h3 : l ≤ 1099511627776
      · have d3 : decide ((1099511627776 : Int) < (l : Int)) = false := by simp; omega
        by_cases h4 : l = 0
        · subst h4
          by_cases h5 : f = 0
          · subst h5
            rw [crv_true (c := ⟨0, 0, r⟩) ⟨h1, h2, h3, fun _ => rfl, fun h => (h rfl).elim⟩]
            go_enter Tryz.func16, Tryz.ntmps16
            go_wp2
            go_ret
            refine ⟨rfl, ?_⟩
            (repeat' (first | (with_reducible exact Chg.refl _ _) | (with_reducible assumption) | (with_reducible refine Chg.alloc ?_ _) | (with_reducible refine Chg.drewN ?_ _) | (with_reducible refine Chg.drew ?_) | (with_reducible refine Chg.setCell ?_ _ ?_) | (apply Or.inl; with_reducible rfl) | (apply Or.inl; simp; done) | (apply Or.inr; simp; done) | (apply Or.inr; simp; omega)))
          · have d5 : ((f : Int) == 0) = false := by simp; omega
            rw [crv_false (c := ⟨f, 0, r⟩) (fun h => h5 (h.h0 rfl))]
            go_enter Tryz.func16, Tryz.ntmps16
            go_wp2
            go_ret
            refine ⟨rfl, ?_⟩
            (repeat' (first | (with_reducible exact Chg.refl _ _) | (with_reducible assumption) | (with_reducible refine Chg.alloc ?_ _) | (with_reducible refine Chg.drewN ?_ _) | (with_reducible refine Chg.drew ?_) | (with_reducible refine Chg.setCell ?_ _ ?_) | (apply Or.inl; with_reducible rfl) | (apply Or.inl; simp; done) | (apply Or.inr; simp; done) | (apply Or.inr; simp; omega)))
        · have d4 : ((l : Int) == 0) = false := by simp; omega
          by_cases h5 : f = r
          · subst h5
            have d5 : ((f : Int) != (f : Int)) = false := by simp
            rw [crv_false (c := ⟨f, l, f⟩) (fun h => h.h1 h4 rfl)]
            go_enter Tryz.func16, Tryz.ntmps16
            go_wp2
            go_ret
            refine ⟨rfl, ?_⟩
            (repeat' (first | (with_reducible exact Chg.refl _ _) | (with_reducible assumption) | (with_reducible refine Chg.alloc ?_ _) | (with_reducible refine Chg.drewN ?_ _) | (with_reducible refine Chg.drew ?_) | (with_reducible refine Chg.setCell ?_ _ ?_) | (apply Or.inl; with_reducible rfl) | (apply Or.inl; simp; done) | (apply Or.inr; simp; done) | (apply Or.inr; simp; omega)))
          · have d5 : ((f : Int) != (r : Int)) = true := by simp; omega
            rw [crv_true (c := ⟨f, l, r⟩) ⟨h1, h2, h3, fun h => (h4 h).elim, fun _ => h5⟩]
            go_enter Tryz.func16, Tryz.ntmps16
            go_wp2
            go_ret
            refine ⟨rfl, ?_⟩
            (repeat' (first | (with_reducible exact Chg.refl _ _) | (with_reducible assumption) | (with_reducible refine Chg.alloc ?_ _) | (with_reducible refine Chg.drewN ?_ _) | (with_reducible refine Chg.drew ?_) | (with_reducible refine Chg.setCell ?_ _ ?_) | (apply Or.inl; with_reducible rfl) | (apply Or.inl; simp; done) | (apply Or.inr; simp; done) | (apply Or.inr; simp; omega)))
      · have d3 : decide ((1099511627776 : Int) < (l : Int)) = true := by simp; omega
        rw [crv_false (c := ⟨f, l, r⟩) (fun h => h3 h.hl)]
        go_enter Tryz.func16, Tryz.ntmps16
        go_wp2
        go_ret
        refine ⟨rfl, ?_⟩
        (repeat' (first | (with_reducible exact Chg.refl _ _) | (with_reducible assumption) | (with_reducible refine Chg.alloc ?_ _) | (with_reducible refine Chg.drewN ?_ _) | (with_reducible refine Chg.drew ?_) | (with_reducible refine Chg.setCell ?_ _ ?_) | (apply Or.inl; with_reducible rfl) | (apply Or.inl; simp; done) | (apply Or.inr; simp; done) | (apply Or.inr; simp; omega)))
    · have d2 : decide ((1048576 : Int) < (r : Int)) = true := by simp; omega
      rw [crv_false (c := ⟨f, l, r⟩) (fun h => h2 h.hr)]
      go_enter Tryz.func16, Tryz.ntmps16
      go_wp2
      go_ret
      refine ⟨rfl, ?_⟩
      (repeat' (first | (with_reducible exact Chg.refl _ _) | (with_reducible assumption) | (with_reducible refine Chg.alloc ?_ _) | (with_reducible refine Chg.drewN ?_ _) | (with_reducible refine Chg.drew ?_) | (with_reducible refine Chg.setCell ?_ _ ?_) | (apply Or.inl; with_reducible rfl) | (apply Or.inl; simp; done) | (apply Or.inr; simp; done) | (apply Or.inr; simp; omega)))
  · have d1 : decide ((1048576 : Int) < (f : Int)) = true := by simp; omega
    rw [crv_false (c := ⟨f, l, r⟩) (fun h => h1 h.hf)]
    go_enter Tryz.func16, Tryz.ntmps16
    go_wp2
    go_ret
    refine ⟨rfl, ?_⟩
    (repeat' (first | (with_reducible exact Chg.refl _ _) | (with_reducible assumption) | (with_reducible refine Chg.alloc ?_ _) | (with_reducible refine Chg.drewN ?_ _) | (with_reducible refine Chg.drew ?_) | (with_reducible refine Chg.setCell ?_ _ ?_) | (apply Or.inl; with_reducible rfl) | (apply Or.inl; simp; done) | (apply Or.inr; simp; done) | (apply Or.inr; simp; omega)))
def Crv.none (c : Crv) : Bool := c.f == 0 && (c.l == 0 && c.r == 0)

theorem cNone_any (c : Crv) (w : World) :
    Calls Tryz.prog 12 #[.agg #[.int .u64 (c.f : Int), .int .u64 (c.l : Int), .int .u64 (c.r : Int)]] w fun e w' => e = .returned (.bool c.none) ∧ Chg NoChg w w' := by
  obtain ⟨f, l, r⟩ := c
  have e1 : Crv.none ⟨f, l, r⟩ = ((f : Int) == 0 && ((l : Int) == 0 && (r : Int) == 0)) := by
    unfold Crv.none
    have g : ∀ n : Nat, ((n : Int) == 0) = (n == 0) := fun n => by
      cases n with
      | zero => rfl
      | succ n => simp; omega
    rw [g, g, g]
  rw [e1]
  dsimp only
  by_cases h1 : f = 0
  · subst h1
    by_cases h2 : l = 0
    · subst h2
      by_cases h3 : r = 0
      · subst h3
        go_enter Tryz.func12, Tryz.ntmps12
        go_wp2
        go_ret
        refine ⟨rfl, ?_⟩
        (repeat' (first | (with_reducible exact Chg.refl _ _) | (with_reducible assumption) | (with_reducible refine Chg.alloc ?_ _) | (with_reducible refine Chg.drewN ?_ _) | (with_reducible refine Chg.drew ?_) | (with_reducible refine Chg.setCell ?_ _ ?_) | (apply Or.inl; with_reducible rfl) | (apply Or.inl; simp; done) | (apply Or.inr; simp; done) | (apply Or.inr; simp; omega)))
      · have d3 : ((r : Int) == 0) = false := by simp; omega
        rw [d3]
        go_enter Tryz.func12, Tryz.ntmps12
        go_wp2
        go_ret
        refine ⟨rfl, ?_⟩
        (repeat' (first | (with_reducible exact Chg.refl _ _) | (with_reducible assumption) | (with_reducible refine Chg.alloc ?_ _) | (with_reducible refine Chg.drewN ?_ _) | (with_reducible refine Chg.drew ?_) | (with_reducible refine Chg.setCell ?_ _ ?_) | (apply Or.inl; with_reducible rfl) | (apply Or.inl; simp; done) | (apply Or.inr; simp; done) | (apply Or.inr; simp; omega)))
    · have d2 : ((l : Int) == 0) = false := by simp; omega
      rw [d2]
      go_enter Tryz.func12, Tryz.ntmps12
      go_wp2
      go_ret
      refine ⟨rfl, ?_⟩
      (repeat' (first | (with_reducible exact Chg.refl _ _) | (with_reducible assumption) | (with_reducible refine Chg.alloc ?_ _) | (with_reducible refine Chg.drewN ?_ _) | (with_reducible refine Chg.drew ?_) | (with_reducible refine Chg.setCell ?_ _ ?_) | (apply Or.inl; with_reducible rfl) | (apply Or.inl; simp; done) | (apply Or.inr; simp; done) | (apply Or.inr; simp; omega)))
  · have d1 : ((f : Int) == 0) = false := by simp; omega
    rw [d1]
    go_enter Tryz.func12, Tryz.ntmps12
    go_wp2
    go_ret
    refine ⟨rfl, ?_⟩
    (repeat' (first | (with_reducible exact Chg.refl _ _) | (with_reducible assumption) | (with_reducible refine Chg.alloc ?_ _) | (with_reducible refine Chg.drewN ?_ _) | (with_reducible refine Chg.drew ?_) | (with_reducible refine Chg.setCell ?_ _ ?_) | (apply Or.inl; with_reducible rfl) | (apply Or.inl; simp; done) | (apply Or.inr; simp; done) | (apply Or.inr; simp; omega)))

end Go.Proofs.YtofgajlpdnokdaaGreatDoor

/- What a curve has at a tick, by the document. -/
namespace Go.Proofs.YtofgajlpdnokdaaGreatDoor
set_option linter.unusedVariables false
open Go.RowKit

/-- What it has at a tick. -/
def Crv.at (c : Crv) (t : Nat) : Nat := c.f * min t c.l + c.r * (t - min t c.l)

theorem Crv.at_le (c : Crv) (h : c.May) (t : Nat) (ht : t < 18446744073709551616) : c.f * min t c.l ≤ 1152921504606846976 ∧ c.r * (t - min t c.l) < 19342813113834066795298816 := by
  have h1 := h.hf
  have h2 := h.hr
  have h3 := h.hl
  refine ⟨Nat.le_trans (Nat.mul_le_mul h1 (Nat.le_trans (Nat.min_le_right _ _) h3)) (by decide), ?_⟩
  exact Nat.lt_of_le_of_lt (Nat.mul_le_mul h2 (show t - min t c.l ≤ 18446744073709551615 by omega)) (by decide)

end Go.Proofs.YtofgajlpdnokdaaGreatDoor

/- Whether a curve is below another one, by the document. -/
namespace Go.Proofs.YtofgajlpdnokdaaGreatDoor
set_option linter.unusedVariables false
open Go.RowKit

theorem Chg.same {w w' : World} (hc : Chg NoChg w w') {ad : Addr} {u : Value} (h : w.cell? ad = some u) : w'.cell? ad = some u := (hc.cell (cell_lt h) (fun h => h)).trans h

def Crv.leAt (a b : Crv) (t : Nat) : Bool := decide (a.at t ≤ b.at t)

theorem cmp_gt (m n : Nat) : decide ((0 : Int) < cmpN m n) = !decide (m ≤ n) := by
  unfold cmpN
  split
  · simp; omega
  · split
    · simp; omega
    · simp; omega

def ticksR (a b : Crv) : List Nat := [1, a.l, b.l, 9223372036854775807]

end Go.Proofs.YtofgajlpdnokdaaGreatDoor

/- The document's ticks, and the corners, say the same of two curves. Plain: no program. -/
namespace Go.Proofs.YtofgajlpdnokdaaGreatDoor
set_option linter.unusedVariables false

theorem lin_mid (x d : Int) (n k : Nat) (hk : k ≤ n) (h0 : 0 ≤ x) (h1 : 0 ≤ x + (n : Int) * d) : 0 ≤ x + (k : Int) * d := by
  rcases Int.le_total 0 d with h | h
  · have := Int.mul_nonneg (Int.natCast_nonneg k) h
    omega
  · have h2 : (n : Int) * d ≤ (k : Int) * d := Int.mul_le_mul_of_nonpos_right (by omega) h
    omega

theorem Crv.at_lo (c : Crv) {t : Nat} (h : t ≤ c.l) : c.at t = c.f * t := by
  unfold Crv.at
  rw [Nat.min_eq_left h]
  simp
theorem Crv.at_hi (c : Crv) {t : Nat} (h : c.l ≤ t) : c.at t = c.f * c.l + c.r * (t - c.l) := by
  unfold Crv.at
  rw [Nat.min_eq_right h]

theorem Crv.at_hi_add (c : Crv) {t u : Nat} (h : c.l ≤ t) (hu : t ≤ u) : c.at u = c.at t + c.r * (u - t) := by
  rw [c.at_hi h, c.at_hi (Nat.le_trans h hu), Nat.add_assoc, ← Nat.mul_add]
  congr 2
  omega
theorem Crv.at_lo_add (c : Crv) {t u : Nat} (h : u ≤ c.l) (hu : t ≤ u) : c.at u = c.at t + c.f * (u - t) := by
  rw [c.at_lo h, c.at_lo (Nat.le_trans hu h), ← Nat.mul_add]
  congr 1
  omega

/-- On a piece on which both are straight: between two ticks where one is below the other it is below. -/
theorem le_mid {A B : Nat → Nat} {p q : Nat} {t u v : Nat} (h1 : t ≤ v) (h2 : v ≤ u) (hA : ∀ x, t ≤ x → x ≤ u → A x = A t + p * (x - t)) (hB : ∀ x, t ≤ x → x ≤ u → B x = B t + q * (x - t))
    (ht : A t ≤ B t) (hu : A u ≤ B u) : A v ≤ B v := by
  have a1 := hA v h1 h2
  have b1 := hB v h1 h2
  have a2 := hA u (by omega) (by omega)
  have b2 := hB u (by omega) (by omega)
  have e1 : ((p * (v - t) : Nat) : Int) = ((v - t : Nat) : Int) * (p : Int) := by rw [Int.natCast_mul]; exact Int.mul_comm _ _
  have e2 : ((q * (v - t) : Nat) : Int) = ((v - t : Nat) : Int) * (q : Int) := by rw [Int.natCast_mul]; exact Int.mul_comm _ _
  have e3 : ((p * (u - t) : Nat) : Int) = ((u - t : Nat) : Int) * (p : Int) := by rw [Int.natCast_mul]; exact Int.mul_comm _ _
  have e4 : ((q * (u - t) : Nat) : Int) = ((u - t : Nat) : Int) * (q : Int) := by rw [Int.natCast_mul]; exact Int.mul_comm _ _
  have := lin_mid ((B t : Int) - A t) ((q : Int) - p) (u - t) (v - t) (by omega) (by omega) (by rw [Int.mul_sub]; omega)
  rw [Int.mul_sub] at this
  omega

theorem Crv.le_all (a b : Crv) (hr : a.r ≤ b.r) (h1 : a.at a.l ≤ b.at a.l) (h2 : a.at b.l ≤ b.at b.l) (t : Nat) : a.at t ≤ b.at t := by
  have z : ∀ c : Crv, c.at 0 = 0 := fun c => by rw [c.at_lo (Nat.zero_le _)]; rfl
  have hz : a.at 0 ≤ b.at 0 := by rw [z, z]; exact Nat.le_refl _
  have hi : ∀ L, a.l ≤ L → b.l ≤ L → a.at L ≤ b.at L → L ≤ t → a.at t ≤ b.at t := fun L h3 h4 h5 h6 => by
    rw [a.at_hi_add h3 h6, b.at_hi_add h4 h6]
    exact Nat.add_le_add h5 (Nat.mul_le_mul_right _ hr)
  rcases Nat.le_total a.l b.l with h | h
  · rcases Nat.le_total t a.l with g | g
    · exact le_mid (A := a.at) (B := b.at) (p := a.f) (q := b.f) (t := 0) (u := a.l) (v := t) (Nat.zero_le _) g (fun x _ hx => a.at_lo_add hx (Nat.zero_le _)) (fun x _ hx => b.at_lo_add (by omega) (Nat.zero_le _)) hz h1
    · rcases Nat.le_total t b.l with g2 | g2
      · exact le_mid (A := a.at) (B := b.at) (p := a.r) (q := b.f) g g2 (fun x h3 hx => a.at_hi_add (Nat.le_refl _) h3) (fun x h3 hx => b.at_lo_add hx h3) h1 h2
      · exact hi b.l h (Nat.le_refl _) h2 g2
  · rcases Nat.le_total t b.l with g | g
    · exact le_mid (A := a.at) (B := b.at) (p := a.f) (q := b.f) (t := 0) (u := b.l) (v := t) (Nat.zero_le _) g (fun x _ hx => a.at_lo_add (by omega) (Nat.zero_le _)) (fun x _ hx => b.at_lo_add hx (Nat.zero_le _)) hz h2
    · rcases Nat.le_total t a.l with g2 | g2
      · exact le_mid (A := a.at) (B := b.at) (p := a.f) (q := b.r) g g2 (fun x h3 hx => a.at_lo_add hx h3) (fun x h3 hx => b.at_hi_add (Nat.le_refl _) h3) h2 h1
      · exact hi a.l (Nat.le_refl _) h h1 g2

/-- The document's four ticks, and the corners with the last slopes, say the same. -/
theorem below_same (a b : Crv) (ha : a.May) (hb : b.May) : (decide (a.r ≤ b.r) && (a.leAt b a.l && a.leAt b b.l)) = (ticksR a b).all (a.leAt b) := by
  rw [Bool.eq_iff_iff]
  simp only [Bool.and_eq_true, decide_eq_true_eq, List.all_eq_true, Crv.leAt, ticksR, List.mem_cons, List.not_mem_nil, or_false]
  constructor
  · rintro ⟨h1, h2, h3⟩ x _
    exact Crv.le_all a b h1 h2 h3 x
  · intro h
    have hA := h a.l (by simp)
    have hB := h b.l (by simp)
    have hT := h 9223372036854775807 (by simp)
    refine ⟨?_, hA, hB⟩
    have la := ha.hl
    have lb := hb.hl
    -- at the greater corner, and from there on
    obtain ⟨L, hL1, hL2, hL3, hLm⟩ : ∃ L, a.l ≤ L ∧ b.l ≤ L ∧ L ≤ 1099511627776 ∧ a.at L ≤ b.at L := by
      rcases Nat.le_total a.l b.l with g | g
      · exact ⟨b.l, g, Nat.le_refl _, lb, hB⟩
      · exact ⟨a.l, Nat.le_refl _, g, la, hA⟩
    rw [a.at_hi_add hL1 (by omega), b.at_hi_add hL2 (by omega)] at hT
    have hbL : b.at L ≤ 1048576 * 1099511627776 := by
      rw [b.at_hi hL2]
      have e1 : b.f * b.l ≤ 1048576 * b.l := Nat.mul_le_mul_right _ hb.hf
      have e2 : b.r * (L - b.l) ≤ 1048576 * (L - b.l) := Nat.mul_le_mul_right _ hb.hr
      omega
    refine Nat.le_of_not_lt fun hlt => ?_
    have e3 : (b.r + 1) * (9223372036854775807 - L) ≤ a.r * (9223372036854775807 - L) := Nat.mul_le_mul_right _ hlt
    rw [Nat.add_mul] at e3
    omega
end Go.Proofs.YtofgajlpdnokdaaGreatDoor

