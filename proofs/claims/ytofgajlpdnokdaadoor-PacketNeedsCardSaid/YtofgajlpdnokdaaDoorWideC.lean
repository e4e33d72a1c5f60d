/- wide: order. -/
import Derived.Test.YtofgajlpdnokdaaDoorWide
namespace Go.Proofs.YtofgajlpdnokdaaDoor
set_option linter.unusedVariables false
open Go.RowKit

/-- A number of 128 bits. -/
def wideV (n : Nat) : Value := .agg #[.int .u64 ((n / 18446744073709551616 : Nat) : Int), .int .u64 ((n % 18446744073709551616 : Nat) : Int)]

theorem cmp_u64 (a b : Nat) (w : World) :
    Calls Tryd.prog 47 #[.int .u64 (a : Int), .int .u64 (b : Int)] w fun e w' => e = .returned (.int .i64 (if a < b then -1 else if b < a then 1 else 0)) ∧ w = w' := by
  by_cases h1 : a < b
  · rw [if_pos h1]
    go_enter Tryd.func47, Tryd.ntmps47
    go_wp2
    go_ret
    exact ⟨rfl, rfl⟩
  · rw [if_neg h1]
    by_cases h2 : b < a
    · rw [if_pos h2]
      go_enter Tryd.func47, Tryd.ntmps47
      go_wp2
      go_ret
      exact ⟨rfl, rfl⟩
    · rw [if_neg h2]
      go_enter Tryd.func47, Tryd.ntmps47
      go_wp2
      go_ret
      exact ⟨rfl, rfl⟩

theorem wCmp_parts (h1 l1 h2 l2 : Nat) (r : Int) (w : World) (hr : (if h1 < h2 then (-1 : Int) else if h2 < h1 then 1 else if l1 < l2 then -1 else if l2 < l1 then 1 else 0) = r) :
    Calls Tryd.prog 27 #[.agg #[.int .u64 (h1 : Int), .int .u64 (l1 : Int)], .agg #[.int .u64 (h2 : Int), .int .u64 (l2 : Int)]] w fun e w' => e = .returned (.int .i64 r) ∧ Chg NoChg w w' := by
  have C1 := hide (fun w => cmp_u64 h1 h2 w)
  have C2 := hide (fun w => cmp_u64 l1 l2 w)
  by_cases g1 : h1 < h2
  · rw [if_pos g1] at hr C1
    subst hr
    go_enter Tryd.func27, Tryd.ntmps27
    go_wp2_with fail
    refine (C1.out _).mono ?_
    rintro e w1 ⟨rfl, rfl⟩
    go_wp2
    go_ret
    refine ⟨rfl, ?_⟩
    (repeat' (first | (with_reducible exact Chg.refl _ _) | (with_reducible assumption) | (with_reducible refine Chg.alloc ?_ _) | (with_reducible refine Chg.drewN ?_ _) | (with_reducible refine Chg.drew ?_) | (with_reducible refine Chg.setCell ?_ _ ?_) | (apply Or.inl; with_reducible rfl) | (apply Or.inl; simp; done) | (apply Or.inr; simp; done) | (apply Or.inr; simp; omega)))
  · rw [if_neg g1] at hr C1
    by_cases g2 : h2 < h1
    · rw [if_pos g2] at hr C1
      subst hr
      go_enter Tryd.func27, Tryd.ntmps27
      go_wp2_with fail
      refine (C1.out _).mono ?_
      rintro e w1 ⟨rfl, rfl⟩
      go_wp2
      go_ret
      refine ⟨rfl, ?_⟩
      (repeat' (first | (with_reducible exact Chg.refl _ _) | (with_reducible assumption) | (with_reducible refine Chg.alloc ?_ _) | (with_reducible refine Chg.drewN ?_ _) | (with_reducible refine Chg.drew ?_) | (with_reducible refine Chg.setCell ?_ _ ?_) | (apply Or.inl; with_reducible rfl) | (apply Or.inl; simp; done) | (apply Or.inr; simp; done) | (apply Or.inr; simp; omega)))
    · rw [if_neg g2] at hr C1
      rw [hr] at C2
      go_enter Tryd.func27, Tryd.ntmps27
      go_wp2_with fail
      refine (C1.out _).mono ?_
      rintro e w1 ⟨rfl, rfl⟩
      go_wp2_with fail
      refine (C2.out _).mono ?_
      rintro e w1 ⟨rfl, rfl⟩
      go_wp2
      go_ret
      refine ⟨rfl, ?_⟩
      (repeat' (first | (with_reducible exact Chg.refl _ _) | (with_reducible assumption) | (with_reducible refine Chg.alloc ?_ _) | (with_reducible refine Chg.drewN ?_ _) | (with_reducible refine Chg.drew ?_) | (with_reducible refine Chg.setCell ?_ _ ?_) | (apply Or.inl; with_reducible rfl) | (apply Or.inl; simp; done) | (apply Or.inr; simp; done) | (apply Or.inr; simp; omega)))

def cmpN (m n : Nat) : Int := if m < n then -1 else if n < m then 1 else 0

theorem cmpN_parts (m n : Nat) : (if m / 18446744073709551616 < n / 18446744073709551616 then (-1 : Int) else if n / 18446744073709551616 < m / 18446744073709551616 then 1 else if m % 18446744073709551616 < n % 18446744073709551616 then -1 else if n % 18446744073709551616 < m % 18446744073709551616 then 1 else 0) = cmpN m n := by
  unfold cmpN
  repeat' split
  all_goals omega

theorem wCmp_any (m n : Nat) (w : World) :
    Calls Tryd.prog 27 #[.agg #[.int .u64 ((m / 18446744073709551616 : Nat) : Int), .int .u64 ((m % 18446744073709551616 : Nat) : Int)], .agg #[.int .u64 ((n / 18446744073709551616 : Nat) : Int), .int .u64 ((n % 18446744073709551616 : Nat) : Int)]] w fun e w' => e = .returned (.int .i64 (cmpN m n)) ∧ Chg NoChg w w' :=
  wCmp_parts _ _ _ _ _ w (cmpN_parts m n)
end Go.Proofs.YtofgajlpdnokdaaDoor
