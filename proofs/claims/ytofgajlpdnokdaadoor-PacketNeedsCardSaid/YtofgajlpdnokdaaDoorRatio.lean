/- ratio: sums and quotients that stop, of numbers of one word. -/
import Derived.Test.YtofgajlpdnokdaaDoorWideC
import Derived.Deep.QuietTactic
import Derived.BigQuiet
namespace Go.Proofs.YtofgajlpdnokdaaDoor
set_option linter.unusedVariables false
open Go.RowKit

def capN : Nat := 4611686018427387904
theorem capN_eq : capN = 4611686018427387904 := rfl
/-- A sum that stops. -/
def plusN (a b : Nat) : Nat := min (a + b) capN
/-- A quotient, rounded up. -/
def upN (a c : Nat) : Nat := min ((a + c - 1) / c) capN

theorem raStopped_yes (n : Nat) (w : World) : Calls Tryd.prog 46 #[.int .u64 (n : Int), .bool true] w fun e w' => e = .returned (.int .u64 4611686018427387904) ∧ Chg NoChg w w' := by
  go_enter Tryd.func46, Tryd.ntmps46
  go_wp2
  go_ret
  exact ⟨rfl, Chg.refl _ _⟩
theorem raStopped_no (n : Nat) (w : World) : Calls Tryd.prog 46 #[.int .u64 (n : Int), .bool false] w fun e w' => e = .returned (.int .u64 (min n capN : Nat)) ∧ Chg NoChg w w' := by
  by_cases h : 4611686018427387904 < n
  · have e : min n capN = 4611686018427387904 := by rw [capN_eq]; omega
    have h' : (4611686018427387904 : Int) < (n : Int) := by omega
    rw [e]
    clear e h
    go_enter Tryd.func46, Tryd.ntmps46
    go_wp2
    go_ret
    exact ⟨rfl, Chg.refl _ _⟩
  · have e : min n capN = n := by rw [capN_eq]; omega
    have h' : ¬ (4611686018427387904 : Int) < (n : Int) := by omega
    rw [e]
    clear e h
    go_enter Tryd.func46, Tryd.ntmps46
    go_wp2
    go_ret
    exact ⟨rfl, Chg.refl _ _⟩

theorem raPlus_any (a b : Nat) (ha : a < 18446744073709551616) (hb : b < 18446744073709551616) (w : World) : Calls Tryd.prog 23 #[.int .u64 (a : Int), .int .u64 (b : Int)] w fun e w' => e = .returned (.int .u64 (plusN a b : Int)) ∧ Chg NoChg w w' := by
  by_cases h : a + b < 18446744073709551616
  · have hs : IntKind.u64.wrap ((a : Int) + (b : Int)) = ((a + b : Nat) : Int) := by rw [IntWalk.u64_in _ (by omega)]; omega
    have hlt : decide (a + b < a) = false := by simp
    have HC := hide (raStopped_no (a + b) w)
    have HR : Hid (plusN a b = min (a + b) capN) := hide rfl
    rw [HR.out]
    generalize a + b = n at hs hlt HC ⊢
    generalize min n capN = r at HC ⊢
    clear HR h ha hb
    go_enter Tryd.func23, Tryd.ntmps23
    go_wp2_with fail
    refine HC.out.mono ?_
    rintro e w1 ⟨rfl, c1⟩
    go_wp2
    go_ret
    exact ⟨rfl, c1⟩
  · have hs : IntKind.u64.wrap ((a : Int) + (b : Int)) = ((a + b - 18446744073709551616 : Nat) : Int) := by rw [IntKind.wrap_u64]; omega
    have hlt : decide (a + b - 18446744073709551616 < a) = true := by simp; omega
    have HC := hide (raStopped_yes (a + b - 18446744073709551616) w)
    have HR : plusN a b = 4611686018427387904 := by unfold plusN; rw [capN_eq]; omega
    rw [HR]
    generalize a + b - 18446744073709551616 = n at hs hlt HC
    clear HR h ha hb
    go_enter Tryd.func23, Tryd.ntmps23
    go_wp2_with fail
    refine HC.out.mono ?_
    rintro e w1 ⟨rfl, c1⟩
    go_wp2
    go_ret
    exact ⟨rfl, c1⟩

theorem raUp1_any (n : Nat) (w : World) : Calls Tryd.prog 48 #[.int .u64 (n : Int)] w fun e w' => e = .returned (.int .u64 (min n 1 : Nat)) ∧ Chg NoChg w w' := by
  match n with
  | 0 =>
    go_enter Tryd.func48, Tryd.ntmps48
    go_wp2
    go_ret
    exact ⟨rfl, Chg.refl _ _⟩
  | 1 =>
    go_enter Tryd.func48, Tryd.ntmps48
    go_wp2
    go_ret
    exact ⟨rfl, Chg.refl _ _⟩
  | m + 2 =>
    have e : min (m + 2) 1 = 1 := by omega
    rw [e]
    generalize hk : m + 2 = k
    have h1 : ¬ (k : Int) < 1 := by omega
    have h2 : (1 : Int) < (k : Int) := by omega
    have h3 : ¬ (k : Int) ≤ 1 := by omega
    clear e hk
    go_enter Tryd.func48, Tryd.ntmps48
    go_wp2
    go_ret
    exact ⟨rfl, Chg.refl _ _⟩

set_option maxRecDepth 100000 in
theorem bDiv64_low (l c : Nat) (hl : l < 18446744073709551616) (hc : c < 18446744073709551616) (h0 : 0 < c) (w : World) : Calls Tryd.prog 76 #[.int .u64 0, .int .u64 (l : Int), .int .u64 (c : Int)] w fun e w' => e = .returned (.tuple #[.int .u64 ((l / c : Nat) : Int), .int .u64 ((l % c : Nat) : Int)]) ∧ Chg NoChg w w' := by
  have e1 : ((c : Int) == 0) = false := by simp; omega
  have e2 : decide ((c : Int) ≤ 0) = false := by simp; omega
  have e3 : ¬ (c : Int) = 0 := by omega
  have d1 : Int.tdiv (l : Int) (c : Int) = ((l / c : Nat) : Int) := by rw [Int.tdiv_eq_ediv_of_nonneg (by omega)]; rfl
  have d2 : Int.tmod (l : Int) (c : Int) = ((l % c : Nat) : Int) := by rw [Int.tmod_eq_emod_of_nonneg (by omega)]; rfl
  have d3 : (l : Int) / (c : Int) = ((l / c : Nat) : Int) := rfl
  have d4 : (l : Int) % (c : Int) = ((l % c : Nat) : Int) := rfl
  have hq : l / c ≤ l := Nat.div_le_self _ _
  generalize l / c = q at d1 d3 hq ⊢
  have d5 : IntKind.u64.wrap (q : Int) = (q : Int) := IntWalk.u64_in _ (by omega)
  generalize l % c = r at d2 d4 ⊢
  clear hq
  go_enter Tryd.func76, Tryd.ntmps76
  go_wp2
  go_quiet (fail)
  go_wp2
  refine bodyPost_ret (v := .tuple #[.int .u64 (q : Int), .int .u64 (r : Int)]) (by simp [results, Tryd.results76, go_sem]) rfl ⟨rfl, ?_⟩
  (repeat' (first | (with_reducible exact Chg.refl _ _) | (with_reducible assumption) | (with_reducible refine Chg.alloc ?_ _) | (with_reducible refine Chg.drewN ?_ _) | (with_reducible refine Chg.drew ?_) | (with_reducible refine Chg.setCell ?_ _ ?_) | (apply Or.inl; with_reducible rfl) | (apply Or.inl; simp; done) | (apply Or.inr; simp; done) | (apply Or.inr; simp; omega)))

set_option maxRecDepth 100000 in
theorem wDiv_low (l c : Nat) (hl : l < 18446744073709551616) (hc : c < 18446744073709551616) (h0 : 0 < c) (w : World) : Calls Tryd.prog 59 #[.agg #[.int .u64 0, .int .u64 (l : Int)], .int .u64 (c : Int)] w fun e w' => e = .returned (.tuple #[.int .u64 ((l / c : Nat) : Int), .int .u64 ((l % c : Nat) : Int), .int .i64 0]) ∧ Chg NoChg w w' := by
  have HD := hide (bDiv64_low l c hl hc h0)
  have C0 := hide ((Chg.refl NoChg w).alloc (.cells #[.int .u64 0, .int .u64 (l : Int)] 61))
  have e1 : ((c : Int) == 0) = false := by simp; omega
  have e2 : decide ((c : Int) ≤ 0) = false := by simp; omega
  generalize l / c = q at HD ⊢
  generalize l % c = r at HD ⊢
  go_enter Tryd.func59, Tryd.ntmps59
  go_wp2_with fail
  refine (HD.out _).mono ?_
  rintro e w1 ⟨rfl, c1⟩
  have C1 := hide (C0.out.trans' c1)
  clear c1
  go_wp2
  refine bodyPost_ret (v := .tuple #[.int .u64 (q : Int), .int .u64 (r : Int), .int .i64 0]) (by simp [results, Tryd.results59, go_sem]) rfl ⟨rfl, C1.out⟩

set_option maxRecDepth 100000 in
theorem wDiv_none (n : Nat) (h l : Int) (w : World) : Calls Tryd.prog 59 #[.agg #[.int .u64 h, .int .u64 l], .int .u64 0] w fun e w' => e = .returned (.tuple #[.int .u64 0, .int .u64 0, .int .i64 2]) ∧ Chg NoChg w w' := by
  go_enter Tryd.func59, Tryd.ntmps59
  go_wp2
  refine bodyPost_ret (v := .tuple #[.int .u64 0, .int .u64 0, .int .i64 2]) (by simp [results, Tryd.results59, go_sem]) rfl ⟨rfl, ?_⟩
  (repeat' (first | (with_reducible exact Chg.refl _ _) | (with_reducible assumption) | (with_reducible refine Chg.alloc ?_ _) | (with_reducible refine Chg.drewN ?_ _) | (with_reducible refine Chg.drew ?_) | (with_reducible refine Chg.setCell ?_ _ ?_) | (apply Or.inl; with_reducible rfl) | (apply Or.inl; simp; done) | (apply Or.inr; simp; done) | (apply Or.inr; simp; omega)))

theorem up_parts (a c : Nat) (h : 0 < c) : min (a / c + min (a % c) 1) capN = upN a c := by
  unfold upN
  congr 1
  have h1 := Nat.div_add_mod a c
  have h2 := Nat.mod_lt a h
  by_cases h0 : a % c = 0
  · rw [h0]
    have e : a + c - 1 = c - 1 + c * (a / c) := by omega
    rw [e, Nat.add_mul_div_left _ _ h, Nat.div_eq_of_lt (show c - 1 < c by omega)]
    simp
  · have e : a + c - 1 = (a % c - 1) + c * (a / c + 1) := by rw [Nat.mul_add]; omega
    rw [e, Nat.add_mul_div_left _ _ h, Nat.div_eq_of_lt (show a % c - 1 < c by omega)]
    have : min (a % c) 1 = 1 := by omega
    omega

set_option maxRecDepth 100000 in
theorem raUp_any (a c : Nat) (ha : a < 18446744073709551616) (hc : c < 18446744073709551616) (h0 : 0 < c) (w : World) : Calls Tryd.prog 28 #[.int .u64 (a : Int), .int .u64 1, .int .u64 (c : Int)] w fun e w' => e = .returned (.tuple #[.int .u64 (upN a c : Int), .int .i64 0]) ∧ Chg NoChg w w' := by
  have HM := hide (fun w => wMul_any a 1 w ha (by omega))
  rw [Nat.mul_one, Nat.div_eq_of_lt ha, Nat.mod_eq_of_lt ha] at HM
  have HD := hide (wDiv_low a c ha hc h0)
  have HU := hide (raUp1_any (a % c))
  have HP := hide (raPlus_any (a / c) (min (a % c) 1) (by have := Nat.div_le_self a c; omega) (by omega))
  rw [show plusN (a / c) (min (a % c) 1) = upN a c from up_parts a c h0] at HP
  generalize min (a % c) 1 = m at HU HP
  generalize a / c = q at HD HP
  generalize a % c = r at HD HU
  generalize upN a c = u at HP ⊢
  clear ha hc h0
  have HO : Hid (∀ w, Calls Tryd.prog 49 #[.agg #[.func (.func 48) #[] #[]], .int .u64 (a : Int), .int .u64 1, .int .u64 (c : Int)] w fun e w' => e = .returned (.tuple #[.int .u64 (u : Int), .int .i64 0]) ∧ Chg NoChg w w') := hide (by
    intro w
    have B0 := hide (Blk.new w #[.func (.func 48) #[] #[]] 103)
    have C0 := hide ((Chg.refl NoChg w).alloc (.cells #[.func (.func 48) #[] #[]] 103))
    go_enter Tryd.func49, Tryd.ntmps49
    go_wp2_with fail
    refine (HM.out _).mono ?_
    rintro e w1 ⟨rfl, c1⟩
    have C1 := hide (C0.out.trans' c1)
    have B1 := hide (c1.blk B0.out (fun h => h))
    clear c1
    go_wp2_with fail
    refine (HD.out _).mono ?_
    rintro e w2 ⟨rfl, c2⟩
    have C2 := hide (C1.out.trans' c2)
    have b2 := (c2.blk B1.out (fun h => h)).cell 0
    simp at b2
    clear c2
    go_wp2_with fail
    refine (HU.out _).mono ?_
    rintro e w3 ⟨rfl, c3⟩
    have C3 := hide (C2.out.trans' c3)
    clear c3 b2
    go_wp2_with fail
    refine (HP.out _).mono ?_
    rintro e w4 ⟨rfl, c4⟩
    have C4 := hide (C3.out.trans' c4)
    clear c4
    go_wp2
    exact bodyPost_ret (v := .tuple #[.int .u64 (u : Int), .int .i64 0]) (by simp [results, Tryd.results49, go_sem]) rfl ⟨rfl, C4.out⟩)
  go_enter Tryd.func28, Tryd.ntmps28
  go_wp2_with fail
  refine (HO.out _).mono ?_
  rintro e w1 ⟨rfl, c1⟩
  go_wp2
  exact bodyPost_ret (v := .tuple #[.int .u64 (u : Int), .int .i64 0]) (by simp [results, Tryd.results28, go_sem]) rfl ⟨rfl, c1⟩
end Go.Proofs.YtofgajlpdnokdaaDoor
