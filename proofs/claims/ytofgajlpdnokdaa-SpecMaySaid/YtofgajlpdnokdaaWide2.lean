/- wide: sums, order. -/
import Derived.Test.YtofgajlpdnokdaaWide
import Derived.Laws.Externs
namespace Go.Proofs.Ytofgajlpdnokdaa
set_option linter.unusedVariables false
open Go.RowKit

theorem add64_run (x y c s d : Int) (hx : 0 ≤ x) (hy : 0 ≤ y) (hc0 : 0 ≤ c) (hc : c ≤ 1) (hs : (x + y + c) % 18446744073709551616 = s) (hd : (x + y + c) / 18446744073709551616 = d) (w : World) :
    (callFunc 48 #[.int .u64 x, .int .u64 y, .int .u64 c]).run Try.prog w = .ok (.value (.tuple #[.int .u64 s, .int .u64 d])) w := by
  rw [run_callFunc_extern Try.func48 (by kernel_rfl) (by kernel_rfl) (by kernel_rfl) (e := add64Entry) (by kernel_rfl), run_add64 x y c hx hy hc0 hc, hs, hd]
  rfl

theorem wPlus_parts (h1 l1 h2 l2 s d h : Int) (w : World) (b1 : 0 ≤ h1) (b2 : 0 ≤ l1) (b3 : 0 ≤ h2) (b4 : 0 ≤ l2) (b5 : 0 ≤ d) (b6 : d ≤ 1)
    (hs : (l1 + l2 + 0) % 18446744073709551616 = s) (hd : (l1 + l2 + 0) / 18446744073709551616 = d) (hh : (h1 + h2 + d) % 18446744073709551616 = h) (h0 : (h1 + h2 + d) / 18446744073709551616 = 0) :
    Calls Try.prog 42 #[.agg #[.int .u64 h1, .int .u64 l1], .agg #[.int .u64 h2, .int .u64 l2]] w fun e w' => e = .returned (.tuple #[.agg #[.int .u64 h, .int .u64 s], .int .i64 0]) ∧ Chg NoChg w w' := by
  have A1 := hide (fun w => add64_run l1 l2 0 s d b2 b4 (by omega) (by omega) hs hd w)
  have A2 := hide (fun w => add64_run h1 h2 d h 0 b1 b3 b5 b6 hh h0 w)
  clear b1 b2 b3 b4 b5 b6 hs hd hh h0
  go_enter Try.func42, Try.ntmps42
  go_wp2_with (first | simp only [A1.out] | simp only [A2.out])
  refine bodyPost_ret (v := .tuple #[.agg #[.int .u64 h, .int .u64 s], .int .i64 0]) (by simp [results, Try.results42, go_sem]) rfl ⟨rfl, ?_⟩
  (repeat' (first | (with_reducible exact Chg.refl _ _) | (with_reducible assumption) | (with_reducible refine Chg.alloc ?_ _) | (with_reducible refine Chg.drewN ?_ _) | (with_reducible refine Chg.drew ?_) | (with_reducible refine Chg.setCell ?_ _ ?_) | (apply Or.inl; with_reducible rfl) | (apply Or.inl; simp; done) | (apply Or.inr; simp; done) | (apply Or.inr; simp; omega)))

/-- A number of 128 bits. -/
def wideV (n : Nat) : Value := .agg #[.int .u64 ((n / 18446744073709551616 : Nat) : Int), .int .u64 ((n % 18446744073709551616 : Nat) : Int)]

theorem wPlus_any (m n : Nat) (w : World) (h : m + n < 340282366920938463463374607431768211456) :
    Calls Try.prog 42 #[.agg #[.int .u64 ((m / 18446744073709551616 : Nat) : Int), .int .u64 ((m % 18446744073709551616 : Nat) : Int)], .agg #[.int .u64 ((n / 18446744073709551616 : Nat) : Int), .int .u64 ((n % 18446744073709551616 : Nat) : Int)]] w
      fun e w' => e = .returned (.tuple #[.agg #[.int .u64 (((m + n) / 18446744073709551616 : Nat) : Int), .int .u64 (((m + n) % 18446744073709551616 : Nat) : Int)], .int .i64 0]) ∧ Chg NoChg w w' :=
  wPlus_parts _ _ _ _ _ ((((m % 18446744073709551616) + (n % 18446744073709551616)) / 18446744073709551616 : Nat) : Int) _ w (by omega) (by omega) (by omega) (by omega) (by omega) (by omega) (by omega) (by omega) (by omega) (by omega)

theorem cmp_u64 (a b : Nat) (w : World) :
    Calls Try.prog 35 #[.int .u64 (a : Int), .int .u64 (b : Int)] w fun e w' => e = .returned (.int .i64 (if a < b then -1 else if b < a then 1 else 0)) ∧ w = w' := by
  by_cases h1 : a < b
  · rw [if_pos h1]
    go_enter Try.func35, Try.ntmps35
    go_wp2
    go_ret
    exact ⟨rfl, rfl⟩
  · rw [if_neg h1]
    by_cases h2 : b < a
    · rw [if_pos h2]
      go_enter Try.func35, Try.ntmps35
      go_wp2
      go_ret
      exact ⟨rfl, rfl⟩
    · rw [if_neg h2]
      go_enter Try.func35, Try.ntmps35
      go_wp2
      go_ret
      exact ⟨rfl, rfl⟩

theorem wCmp_parts (h1 l1 h2 l2 : Nat) (r : Int) (w : World) (hr : (if h1 < h2 then (-1 : Int) else if h2 < h1 then 1 else if l1 < l2 then -1 else if l2 < l1 then 1 else 0) = r) :
    Calls Try.prog 27 #[.agg #[.int .u64 (h1 : Int), .int .u64 (l1 : Int)], .agg #[.int .u64 (h2 : Int), .int .u64 (l2 : Int)]] w fun e w' => e = .returned (.int .i64 r) ∧ Chg NoChg w w' := by
  have C1 := hide (fun w => cmp_u64 h1 h2 w)
  have C2 := hide (fun w => cmp_u64 l1 l2 w)
  by_cases g1 : h1 < h2
  · rw [if_pos g1] at hr C1
    subst hr
    go_enter Try.func27, Try.ntmps27
    go_wp2_with fail
    refine (C1.out _).mono ?_
    rintro e w1 ⟨rfl, rfl⟩
    go_wp2
    go_ret
    refine ⟨rfl, ?_⟩
    (repeat' (first | (with_reducible exact Chg.refl _ _) | (with_reducible assumption) | (with_reducible refine Chg.alloc ?_ _) | (with_reducible refine Chg.drewN ?_ _) | (with_reducible refine Chg.drew ?_) | (with_reducible refine Chg.setCell ?_ _ ?_) | (apply Or.inl; with_reducible rfl) | (apply Or.inl; simp; done) | (apply Or.inr; simp; done) | (apply Or.inr; simp; omega)))
  · rw [if_neg g1] at hr C1
    by_cases g2 : h2 < h1
    · rw [if_pos g2] at hr C1
      subst hr
      go_enter Try.func27, Try.ntmps27
      go_wp2_with fail
      refine (C1.out _).mono ?_
      rintro e w1 ⟨rfl, rfl⟩
      go_wp2
      go_ret
      refine ⟨rfl, ?_⟩
      (repeat' (first | (with_reducible exact Chg.refl _ _) | (with_reducible assumption) | (with_reducible refine Chg.alloc ?_ _) | (with_reducible refine Chg.drewN ?_ _) | (with_reducible refine Chg.drew ?_) | (with_reducible refine Chg.setCell ?_ _ ?_) | (apply Or.inl; with_reducible rfl) | (apply Or.inl; simp; done) | (apply Or.inr; simp; done) | (apply Or.inr; simp; omega)))
    · rw [if_neg g2] at hr C1
      rw [hr] at C2
      go_enter Try.func27, Try.ntmps27
      go_wp2_with fail
      refine (C1.out _).mono ?_
      rintro e w1 ⟨rfl, rfl⟩
      go_wp2_with fail
      refine (C2.out _).mono ?_
      rintro e w1 ⟨rfl, rfl⟩
      go_wp2
      go_ret
      refine ⟨rfl, ?_⟩
      (repeat' (first | (with_reducible exact Chg.refl _ _) | (with_reducible assumption) | (with_reducible refine Chg.alloc ?_ _) | (with_reducible refine Chg.drewN ?_ _) | (with_reducible refine Chg.drew ?_) | (with_reducible refine Chg.setCell ?_ _ ?_) | (apply Or.inl; with_reducible rfl) | (apply Or.inl; simp; done) | (apply Or.inr; simp; done) | (apply Or.inr; simp; omega)))

def cmpN (m n : Nat) : Int := if m < n then -1 else if n < m then 1 else 0

theorem cmpN_parts (m n : Nat) : (if m / 18446744073709551616 < n / 18446744073709551616 then (-1 : Int) else if n / 18446744073709551616 < m / 18446744073709551616 then 1 else if m % 18446744073709551616 < n % 18446744073709551616 then -1 else if n % 18446744073709551616 < m % 18446744073709551616 then 1 else 0) = cmpN m n := by
  unfold cmpN
  repeat' split
  all_goals omega

theorem wCmp_any (m n : Nat) (w : World) :
    Calls Try.prog 27 #[.agg #[.int .u64 ((m / 18446744073709551616 : Nat) : Int), .int .u64 ((m % 18446744073709551616 : Nat) : Int)], .agg #[.int .u64 ((n / 18446744073709551616 : Nat) : Int), .int .u64 ((n % 18446744073709551616 : Nat) : Int)]] w fun e w' => e = .returned (.int .i64 (cmpN m n)) ∧ Chg NoChg w w' :=
  wCmp_parts _ _ _ _ _ w (cmpN_parts m n)
end Go.Proofs.Ytofgajlpdnokdaa
