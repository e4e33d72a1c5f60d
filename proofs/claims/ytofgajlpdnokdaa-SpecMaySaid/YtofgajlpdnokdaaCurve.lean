/- Curves: which may be, which is none; what one has at a tick. -/
import Derived.Test.YtofgajlpdnokdaaWide3
namespace Go.Proofs.Ytofgajlpdnokdaa
set_option linter.unusedVariables false
open Go.RowKit

structure Crv where
  f : Nat
  l : Nat
  r : Nat
def Crv.cells (c : Crv) : List Value := [.int .u64 (c.f : Int), .int .u64 (c.l : Int), .int .u64 (c.r : Int)]
theorem Crv.cells_length (c : Crv) : c.cells.length = 3 := rfl
def Crv.zero : Crv := ⟨0, 0, 0⟩

structure Crv.May (c : Crv) : Prop where
  hf : c.f ≤ 1048576
  hr : c.r ≤ 1048576
  hl : c.l ≤ 1099511627776
  h0 : c.l = 0 → c.f = 0
  h1 : c.l ≠ 0 → c.f ≠ c.r
instance (c : Crv) : Decidable c.May :=
  if h : c.f ≤ 1048576 ∧ c.r ≤ 1048576 ∧ c.l ≤ 1099511627776 ∧ (c.l = 0 → c.f = 0) ∧ (c.l ≠ 0 → c.f ≠ c.r) then .isTrue ⟨h.1, h.2.1, h.2.2.1, h.2.2.2.1, h.2.2.2.2⟩ else .isFalse fun ⟨a, b, c, d, e⟩ => h ⟨a, b, c, d, e⟩

theorem eqGuard_curve : Try.prog.eqGuardType Try.prog.depth 24 = false := by kernel_rfl
theorem stood_curve : Try.prog.stoodInHeld 24 = false := by kernel_rfl
attribute [local go_sem] eqGuard_curve stood_curve

theorem crv_false {c : Crv} (h : ¬ c.May) : decide c.May = false := by simpa using h
theorem crv_true {c : Crv} (h : c.May) : decide c.May = true := by simpa using h

theorem cMay_any (c : Crv) (w : World) :
    Calls Try.prog 20 #[.agg #[.int .u64 (c.f : Int), .int .u64 (c.l : Int), .int .u64 (c.r : Int)]] w fun e w' => e = .returned (.bool (decide c.May)) ∧ Chg NoChg w w' := by
  obtain ⟨f, l, r⟩ := c
  dsimp only
  by_cases h1 : f ≤ 1048576
  · have d1 : decide ((1048576 : Int) < (f : Int)) = false := by simp; omega
    by_cases h2 : r ≤ 1048576
    · have d2 : decide ((1048576 : Int) < (r : Int)) = false := by simp; omega
      by_cases h3 : l ≤ 1099511627776
      · have d3 : decide ((1099511627776 : Int) < (l : Int)) = false := by simp; omega
        by_cases h4 : l = 0
        · subst h4
          by_cases h5 : f = 0
          · subst h5
            rw [crv_true (c := ⟨0, 0, r⟩) ⟨h1, h2, h3, fun _ => rfl, fun h => (h rfl).elim⟩]
            go_enter Try.func20, Try.ntmps20
            go_wp2
            go_ret
            refine ⟨rfl, ?_⟩
            (repeat' (first | (with_reducible exact Chg.refl _ _) | (with_reducible assumption) | (with_reducible refine Chg.alloc ?_ _) | (with_reducible refine Chg.drewN ?_ _) | (with_reducible refine Chg.drew ?_) | (with_reducible refine Chg.setCell ?_ _ ?_) | (apply Or.inl; with_reducible rfl) | (apply Or.inl; simp; done) | (apply Or.inr; simp; done) | (apply Or.inr; simp; omega)))
          · have d5 : ((f : Int) == 0) = false := by simp; omega
            rw [crv_false (c := ⟨f, 0, r⟩) (fun h => h5 (h.h0 rfl))]
            go_enter Try.func20, Try.ntmps20
            go_wp2
            go_ret
            refine ⟨rfl, ?_⟩
            (repeat' (first | (with_reducible exact Chg.refl _ _) | (with_reducible assumption) | (with_reducible refine Chg.alloc ?_ _) | (with_reducible refine Chg.drewN ?_ _) | (with_reducible refine Chg.drew ?_) | (with_reducible refine Chg.setCell ?_ _ ?_) | (apply Or.inl; with_reducible rfl) | (apply Or.inl; simp; done) | (apply Or.inr; simp; done) | (apply Or.inr; simp; omega)))
        · have d4 : ((l : Int) == 0) = false := by simp; omega
          by_cases h5 : f = r
          · subst h5
            have d5 : ((f : Int) != (f : Int)) = false := by simp
            rw [crv_false (c := ⟨f, l, f⟩) (fun h => h.h1 h4 rfl)]
            go_enter Try.func20, Try.ntmps20
            go_wp2
            go_ret
            refine ⟨rfl, ?_⟩
            (repeat' (first | (with_reducible exact Chg.refl _ _) | (with_reducible assumption) | (with_reducible refine Chg.alloc ?_ _) | (with_reducible refine Chg.drewN ?_ _) | (with_reducible refine Chg.drew ?_) | (with_reducible refine Chg.setCell ?_ _ ?_) | (apply Or.inl; with_reducible rfl) | (apply Or.inl; simp; done) | (apply Or.inr; simp; done) | (apply Or.inr; simp; omega)))
          · have d5 : ((f : Int) != (r : Int)) = true := by simp; omega
            rw [crv_true (c := ⟨f, l, r⟩) ⟨h1, h2, h3, fun h => (h4 h).elim, fun _ => h5⟩]
            go_enter Try.func20, Try.ntmps20
            go_wp2
            go_ret
            refine ⟨rfl, ?_⟩
            (repeat' (first | (with_reducible exact Chg.refl _ _) | (with_reducible assumption) | (with_reducible refine Chg.alloc ?_ _) | (with_reducible refine Chg.drewN ?_ _) | (with_reducible refine Chg.drew ?_) | (with_reducible refine Chg.setCell ?_ _ ?_) | (apply Or.inl; with_reducible rfl) | (apply Or.inl; simp; done) | (apply Or.inr; simp; done) | (apply Or.inr; simp; omega)))
      · have d3 : decide ((1099511627776 : Int) < (l : Int)) = true := by simp; omega
        rw [crv_false (c := ⟨f, l, r⟩) (fun h => h3 h.hl)]
        go_enter Try.func20, Try.ntmps20
        go_wp2
        go_ret
        refine ⟨rfl, ?_⟩
        (repeat' (first | (with_reducible exact Chg.refl _ _) | (with_reducible assumption) | (with_reducible refine Chg.alloc ?_ _) | (with_reducible refine Chg.drewN ?_ _) | (with_reducible refine Chg.drew ?_) | (with_reducible refine Chg.setCell ?_ _ ?_) | (apply Or.inl; with_reducible rfl) | (apply Or.inl; simp; done) | (apply Or.inr; simp; done) | (apply Or.inr; simp; omega)))
    · have d2 : decide ((1048576 : Int) < (r : Int)) = true := by simp; omega
      rw [crv_false (c := ⟨f, l, r⟩) (fun h => h2 h.hr)]
      go_enter Try.func20, Try.ntmps20
      go_wp2
      go_ret
      refine ⟨rfl, ?_⟩
      (repeat' (first | (with_reducible exact Chg.refl _ _) | (with_reducible assumption) | (with_reducible refine Chg.alloc ?_ _) | (with_reducible refine Chg.drewN ?_ _) | (with_reducible refine Chg.drew ?_) | (with_reducible refine Chg.setCell ?_ _ ?_) | (apply Or.inl; with_reducible rfl) | (apply Or.inl; simp; done) | (apply Or.inr; simp; done) | (apply Or.inr; simp; omega)))
  · have d1 : decide ((1048576 : Int) < (f : Int)) = true := by simp; omega
    rw [crv_false (c := ⟨f, l, r⟩) (fun h => h1 h.hf)]
    go_enter Try.func20, Try.ntmps20
    go_wp2
    go_ret
    refine ⟨rfl, ?_⟩
    (repeat' (first | (with_reducible exact Chg.refl _ _) | (with_reducible assumption) | (with_reducible refine Chg.alloc ?_ _) | (with_reducible refine Chg.drewN ?_ _) | (with_reducible refine Chg.drew ?_) | (with_reducible refine Chg.setCell ?_ _ ?_) | (apply Or.inl; with_reducible rfl) | (apply Or.inl; simp; done) | (apply Or.inr; simp; done) | (apply Or.inr; simp; omega)))
theorem r03May_any (c : Crv) (w : World) :
    Calls Try.prog 15 #[.agg #[.int .u64 (c.f : Int), .int .u64 (c.l : Int), .int .u64 (c.r : Int)]] w fun e w' => e = .returned (.bool (decide c.May)) ∧ Chg NoChg w w' := by
  obtain ⟨f, l, r⟩ := c
  dsimp only
  by_cases h1 : f ≤ 1048576
  · have d1 : decide ((1048576 : Int) < (f : Int)) = false := by simp; omega
    by_cases h2 : r ≤ 1048576
    · have d2 : decide ((1048576 : Int) < (r : Int)) = false := by simp; omega
      by_cases h3 : l ≤ 1099511627776
      · have d3 : decide ((1099511627776 : Int) < (l : Int)) = false := by simp; omega
        by_cases h4 : l = 0
        · subst h4
          by_cases h5 : f = 0
          · subst h5
            rw [crv_true (c := ⟨0, 0, r⟩) ⟨h1, h2, h3, fun _ => rfl, fun h => (h rfl).elim⟩]
            go_enter Try.func15, Try.ntmps15
            go_wp2
            go_ret
            refine ⟨rfl, ?_⟩
            (repeat' (first | (with_reducible exact Chg.refl _ _) | (with_reducible assumption) | (with_reducible refine Chg.alloc ?_ _) | (with_reducible refine Chg.drewN ?_ _) | (with_reducible refine Chg.drew ?_) | (with_reducible refine Chg.setCell ?_ _ ?_) | (apply Or.inl; with_reducible rfl) | (apply Or.inl; simp; done) | (apply Or.inr; simp; done) | (apply Or.inr; simp; omega)))
          · have d5 : ((f : Int) == 0) = false := by simp; omega
            rw [crv_false (c := ⟨f, 0, r⟩) (fun h => h5 (h.h0 rfl))]
            go_enter Try.func15, Try.ntmps15
            go_wp2
            go_ret
            refine ⟨rfl, ?_⟩
            (repeat' (first | (with_reducible exact Chg.refl _ _) | (with_reducible assumption) | (with_reducible refine Chg.alloc ?_ _) | (with_reducible refine Chg.drewN ?_ _) | (with_reducible refine Chg.drew ?_) | (with_reducible refine Chg.setCell ?_ _ ?_) | (apply Or.inl; with_reducible rfl) | (apply Or.inl; simp; done) | (apply Or.inr; simp; done) | (apply Or.inr; simp; omega)))
        · have d4 : ((l : Int) == 0) = false := by simp; omega
          by_cases h5 : f = r
          · subst h5
            have d5 : ((f : Int) != (f : Int)) = false := by simp
            rw [crv_false (c := ⟨f, l, f⟩) (fun h => h.h1 h4 rfl)]
            go_enter Try.func15, Try.ntmps15
            go_wp2
            go_ret
            refine ⟨rfl, ?_⟩
            (repeat' (first | (with_reducible exact Chg.refl _ _) | (with_reducible assumption) | (with_reducible refine Chg.alloc ?_ _) | (with_reducible refine Chg.drewN ?_ _) | (with_reducible refine Chg.drew ?_) | (with_reducible refine Chg.setCell ?_ _ ?_) | (apply Or.inl; with_reducible rfl) | (apply Or.inl; simp; done) | (apply Or.inr; simp; done) | (apply Or.inr; simp; omega)))
          · have d5 : ((f : Int) != (r : Int)) = true := by simp; omega
            rw [crv_true (c := ⟨f, l, r⟩) ⟨h1, h2, h3, fun h => (h4 h).elim, fun _ => h5⟩]
            go_enter Try.func15, Try.ntmps15
            go_wp2
            go_ret
            refine ⟨rfl, ?_⟩
            (repeat' (first | (with_reducible exact Chg.refl _ _) | (with_reducible assumption) | (with_reducible refine Chg.alloc ?_ _) | (with_reducible refine Chg.drewN ?_ _) | (with_reducible refine Chg.drew ?_) | (with_reducible refine Chg.setCell ?_ _ ?_) | (apply Or.inl; with_reducible rfl) | (apply Or.inl; simp; done) | (apply Or.inr; simp; done) | (apply Or.inr; simp; omega)))
      · have d3 : decide ((1099511627776 : Int) < (l : Int)) = true := by simp; omega
        rw [crv_false (c := ⟨f, l, r⟩) (fun h => h3 h.hl)]
        go_enter Try.func15, Try.ntmps15
        go_wp2
        go_ret
        refine ⟨rfl, ?_⟩
        (repeat' (first | (with_reducible exact Chg.refl _ _) | (with_reducible assumption) | (with_reducible refine Chg.alloc ?_ _) | (with_reducible refine Chg.drewN ?_ _) | (with_reducible refine Chg.drew ?_) | (with_reducible refine Chg.setCell ?_ _ ?_) | (apply Or.inl; with_reducible rfl) | (apply Or.inl; simp; done) | (apply Or.inr; simp; done) | (apply Or.inr; simp; omega)))
    · have d2 : decide ((1048576 : Int) < (r : Int)) = true := by simp; omega
      rw [crv_false (c := ⟨f, l, r⟩) (fun h => h2 h.hr)]
      go_enter Try.func15, Try.ntmps15
      go_wp2
      go_ret
      refine ⟨rfl, ?_⟩
      (repeat' (first | (with_reducible exact Chg.refl _ _) | (with_reducible assumption) | (with_reducible refine Chg.alloc ?_ _) | (with_reducible refine Chg.drewN ?_ _) | (with_reducible refine Chg.drew ?_) | (with_reducible refine Chg.setCell ?_ _ ?_) | (apply Or.inl; with_reducible rfl) | (apply Or.inl; simp; done) | (apply Or.inr; simp; done) | (apply Or.inr; simp; omega)))
  · have d1 : decide ((1048576 : Int) < (f : Int)) = true := by simp; omega
    rw [crv_false (c := ⟨f, l, r⟩) (fun h => h1 h.hf)]
    go_enter Try.func15, Try.ntmps15
    go_wp2
    go_ret
    refine ⟨rfl, ?_⟩
    (repeat' (first | (with_reducible exact Chg.refl _ _) | (with_reducible assumption) | (with_reducible refine Chg.alloc ?_ _) | (with_reducible refine Chg.drewN ?_ _) | (with_reducible refine Chg.drew ?_) | (with_reducible refine Chg.setCell ?_ _ ?_) | (apply Or.inl; with_reducible rfl) | (apply Or.inl; simp; done) | (apply Or.inr; simp; done) | (apply Or.inr; simp; omega)))

def Crv.none (c : Crv) : Bool := c.f == 0 && (c.l == 0 && c.r == 0)

theorem cNone_any (c : Crv) (w : World) :
    Calls Try.prog 18 #[.agg #[.int .u64 (c.f : Int), .int .u64 (c.l : Int), .int .u64 (c.r : Int)]] w fun e w' => e = .returned (.bool c.none) ∧ Chg NoChg w w' := by
  obtain ⟨f, l, r⟩ := c
  have e1 : Crv.none ⟨f, l, r⟩ = ((f : Int) == 0 && ((l : Int) == 0 && (r : Int) == 0)) := by
    unfold Crv.none
    have g : ∀ n : Nat, ((n : Int) == 0) = (n == 0) := fun n => by
      cases n with
      | zero => rfl
      | succ n => simp; omega
    rw [g, g, g]
  rw [e1]
  dsimp only
  by_cases h1 : f = 0
  · subst h1
    by_cases h2 : l = 0
    · subst h2
      by_cases h3 : r = 0
      · subst h3
        go_enter Try.func18, Try.ntmps18
        go_wp2
        go_ret
        refine ⟨rfl, ?_⟩
        (repeat' (first | (with_reducible exact Chg.refl _ _) | (with_reducible assumption) | (with_reducible refine Chg.alloc ?_ _) | (with_reducible refine Chg.drewN ?_ _) | (with_reducible refine Chg.drew ?_) | (with_reducible refine Chg.setCell ?_ _ ?_) | (apply Or.inl; with_reducible rfl) | (apply Or.inl; simp; done) | (apply Or.inr; simp; done) | (apply Or.inr; simp; omega)))
      · have d3 : ((r : Int) == 0) = false := by simp; omega
        rw [d3]
        go_enter Try.func18, Try.ntmps18
        go_wp2
        go_ret
        refine ⟨rfl, ?_⟩
        (repeat' (first | (with_reducible exact Chg.refl _ _) | (with_reducible assumption) | (with_reducible refine Chg.alloc ?_ _) | (with_reducible refine Chg.drewN ?_ _) | (with_reducible refine Chg.drew ?_) | (with_reducible refine Chg.setCell ?_ _ ?_) | (apply Or.inl; with_reducible rfl) | (apply Or.inl; simp; done) | (apply Or.inr; simp; done) | (apply Or.inr; simp; omega)))
    · have d2 : ((l : Int) == 0) = false := by simp; omega
      rw [d2]
      go_enter Try.func18, Try.ntmps18
      go_wp2
      go_ret
      refine ⟨rfl, ?_⟩
      (repeat' (first | (with_reducible exact Chg.refl _ _) | (with_reducible assumption) | (with_reducible refine Chg.alloc ?_ _) | (with_reducible refine Chg.drewN ?_ _) | (with_reducible refine Chg.drew ?_) | (with_reducible refine Chg.setCell ?_ _ ?_) | (apply Or.inl; with_reducible rfl) | (apply Or.inl; simp; done) | (apply Or.inr; simp; done) | (apply Or.inr; simp; omega)))
  · have d1 : ((f : Int) == 0) = false := by simp; omega
    rw [d1]
    go_enter Try.func18, Try.ntmps18
    go_wp2
    go_ret
    refine ⟨rfl, ?_⟩
    (repeat' (first | (with_reducible exact Chg.refl _ _) | (with_reducible assumption) | (with_reducible refine Chg.alloc ?_ _) | (with_reducible refine Chg.drewN ?_ _) | (with_reducible refine Chg.drew ?_) | (with_reducible refine Chg.setCell ?_ _ ?_) | (apply Or.inl; with_reducible rfl) | (apply Or.inl; simp; done) | (apply Or.inr; simp; done) | (apply Or.inr; simp; omega)))

theorem r03None_any (c : Crv) (w : World) :
    Calls Try.prog 16 #[.agg #[.int .u64 (c.f : Int), .int .u64 (c.l : Int), .int .u64 (c.r : Int)]] w fun e w' => e = .returned (.bool c.none) ∧ Chg NoChg w w' := by
  obtain ⟨f, l, r⟩ := c
  have e1 : Crv.none ⟨f, l, r⟩ = ((f : Int) == 0 && ((l : Int) == 0 && (r : Int) == 0)) := by
    unfold Crv.none
    have g : ∀ n : Nat, ((n : Int) == 0) = (n == 0) := fun n => by
      cases n with
      | zero => rfl
      | succ n => simp; omega
    rw [g, g, g]
  rw [e1]
  dsimp only
  by_cases h1 : f = 0
  · subst h1
    by_cases h2 : l = 0
    · subst h2
      by_cases h3 : r = 0
      · subst h3
        go_enter Try.func16, Try.ntmps16
        go_wp2
        go_ret
        refine ⟨rfl, ?_⟩
        (repeat' (first | (with_reducible exact Chg.refl _ _) | (with_reducible assumption) | (with_reducible refine Chg.alloc ?_ _) | (with_reducible refine Chg.drewN ?_ _) | (with_reducible refine Chg.drew ?_) | (with_reducible refine Chg.setCell ?_ _ ?_) | (apply Or.inl; with_reducible rfl) | (apply Or.inl; simp; done) | (apply Or.inr; simp; done) | (apply Or.inr; simp; omega)))
      · have d3 : ((r : Int) == 0) = false := by simp; omega
        rw [d3]
        go_enter Try.func16, Try.ntmps16
        go_wp2
        go_ret
        refine ⟨rfl, ?_⟩
        (repeat' (first | (with_reducible exact Chg.refl _ _) | (with_reducible assumption) | (with_reducible refine Chg.alloc ?_ _) | (with_reducible refine Chg.drewN ?_ _) | (with_reducible refine Chg.drew ?_) | (with_reducible refine Chg.setCell ?_ _ ?_) | (apply Or.inl; with_reducible rfl) | (apply Or.inl; simp; done) | (apply Or.inr; simp; done) | (apply Or.inr; simp; omega)))
    · have d2 : ((l : Int) == 0) = false := by simp; omega
      rw [d2]
      go_enter Try.func16, Try.ntmps16
      go_wp2
      go_ret
      refine ⟨rfl, ?_⟩
      (repeat' (first | (with_reducible exact Chg.refl _ _) | (with_reducible assumption) | (with_reducible refine Chg.alloc ?_ _) | (with_reducible refine Chg.drewN ?_ _) | (with_reducible refine Chg.drew ?_) | (with_reducible refine Chg.setCell ?_ _ ?_) | (apply Or.inl; with_reducible rfl) | (apply Or.inl; simp; done) | (apply Or.inr; simp; done) | (apply Or.inr; simp; omega)))
  · have d1 : ((f : Int) == 0) = false := by simp; omega
    rw [d1]
    go_enter Try.func16, Try.ntmps16
    go_wp2
    go_ret
    refine ⟨rfl, ?_⟩
    (repeat' (first | (with_reducible exact Chg.refl _ _) | (with_reducible assumption) | (with_reducible refine Chg.alloc ?_ _) | (with_reducible refine Chg.drewN ?_ _) | (with_reducible refine Chg.drew ?_) | (with_reducible refine Chg.setCell ?_ _ ?_) | (apply Or.inl; with_reducible rfl) | (apply Or.inl; simp; done) | (apply Or.inr; simp; done) | (apply Or.inr; simp; omega)))

end Go.Proofs.Ytofgajlpdnokdaa
