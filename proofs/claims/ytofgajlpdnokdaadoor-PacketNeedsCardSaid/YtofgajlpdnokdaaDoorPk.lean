/- packet: May, Grains, Ticks, Before. No condition. -/
import Derived.Test.YtofgajlpdnokdaaDoorPParse2
namespace Go.Proofs.YtofgajlpdnokdaaDoor
set_option linter.unusedVariables false
open Go.Shelf Go.RowKit Go.Sort Go.Lib

def mayE (n most : Int) : Int := if most < 1 ∨ 65536 ≤ most then 2 else if n < 1 ∨ most < n then 100 else 0
def gr (n : Int) : Nat := if n < 1 then 0 else if 18014398509481984 < n then 4611686018427387904 else n.toNat * 256
def tk (g rate : Nat) : Nat := if g = 0 then 0 else if rate = 0 then 9223372036854775808 else (g - 1) / rate + 1
def bef (t1 i1 t2 i2 : Nat) : Bool := decide (t1 < t2) || (decide (t1 = t2) && decide (i1 < i2))
theorem gr_le (n : Int) : gr n ≤ 4611686018427387904 := by
  unfold gr
  split
  · omega
  · split
    · omega
    · omega

set_option maxRecDepth 100000 in
theorem pkMay_any (i t : Nat) (c n most : Int) (w : World) : Calls Tryd.prog 21 #[.agg #[.int .u64 (i : Int), .int .i64 c, .int .i64 n, .int .u64 (t : Int)], .int .i64 most] w fun e w' => e = .returned (.int .i64 (mayE n most)) ∧ Chg NoChg w w' := by
  by_cases h1 : most < 1
  · have hm : mayE n most = 2 := by unfold mayE; rw [if_pos (.inl h1)]
    rw [hm]
    go_enter Tryd.func21, Tryd.ntmps21
    go_wp2
    go_ret
    refine ⟨rfl, ?_⟩
    (repeat' (first | (with_reducible exact Chg.refl _ _) | (with_reducible assumption) | (with_reducible refine Chg.alloc ?_ _) | (with_reducible refine Chg.drewN ?_ _) | (with_reducible refine Chg.drew ?_) | (with_reducible refine Chg.setCell ?_ _ ?_) | (apply Or.inl; with_reducible rfl) | (apply Or.inl; simp; done) | (apply Or.inr; simp; done) | (apply Or.inr; simp; omega)))
  · by_cases h2 : 65536 ≤ most
    · have hm : mayE n most = 2 := by unfold mayE; rw [if_pos (.inr h2)]
      rw [hm]
      go_enter Tryd.func21, Tryd.ntmps21
      go_wp2
      go_ret
      refine ⟨rfl, ?_⟩
      (repeat' (first | (with_reducible exact Chg.refl _ _) | (with_reducible assumption) | (with_reducible refine Chg.alloc ?_ _) | (with_reducible refine Chg.drewN ?_ _) | (with_reducible refine Chg.drew ?_) | (with_reducible refine Chg.setCell ?_ _ ?_) | (apply Or.inl; with_reducible rfl) | (apply Or.inl; simp; done) | (apply Or.inr; simp; done) | (apply Or.inr; simp; omega)))
    · by_cases h3 : n < 1
      · have hm : mayE n most = 100 := by unfold mayE; rw [if_neg (by omega), if_pos (.inl h3)]
        rw [hm]
        go_enter Tryd.func21, Tryd.ntmps21
        go_wp2
        go_ret
        refine ⟨rfl, ?_⟩
        (repeat' (first | (with_reducible exact Chg.refl _ _) | (with_reducible assumption) | (with_reducible refine Chg.alloc ?_ _) | (with_reducible refine Chg.drewN ?_ _) | (with_reducible refine Chg.drew ?_) | (with_reducible refine Chg.setCell ?_ _ ?_) | (apply Or.inl; with_reducible rfl) | (apply Or.inl; simp; done) | (apply Or.inr; simp; done) | (apply Or.inr; simp; omega)))
      · by_cases h4 : most < n
        · have hm : mayE n most = 100 := by unfold mayE; rw [if_neg (by omega), if_pos (.inr h4)]
          rw [hm]
          go_enter Tryd.func21, Tryd.ntmps21
          go_wp2
          go_ret
          refine ⟨rfl, ?_⟩
          (repeat' (first | (with_reducible exact Chg.refl _ _) | (with_reducible assumption) | (with_reducible refine Chg.alloc ?_ _) | (with_reducible refine Chg.drewN ?_ _) | (with_reducible refine Chg.drew ?_) | (with_reducible refine Chg.setCell ?_ _ ?_) | (apply Or.inl; with_reducible rfl) | (apply Or.inl; simp; done) | (apply Or.inr; simp; done) | (apply Or.inr; simp; omega)))
        · have hm : mayE n most = 0 := by unfold mayE; rw [if_neg (by omega), if_neg (by omega)]
          rw [hm]
          go_enter Tryd.func21, Tryd.ntmps21
          go_wp2
          go_ret
          refine ⟨rfl, ?_⟩
          (repeat' (first | (with_reducible exact Chg.refl _ _) | (with_reducible assumption) | (with_reducible refine Chg.alloc ?_ _) | (with_reducible refine Chg.drewN ?_ _) | (with_reducible refine Chg.drew ?_) | (with_reducible refine Chg.setCell ?_ _ ?_) | (apply Or.inl; with_reducible rfl) | (apply Or.inl; simp; done) | (apply Or.inr; simp; done) | (apply Or.inr; simp; omega)))

set_option maxRecDepth 100000 in
theorem pkGrains_any (i t : Nat) (c n : Int) (hn : n ≤ 9223372036854775807) (w : World) : Calls Tryd.prog 24 #[.agg #[.int .u64 (i : Int), .int .i64 c, .int .i64 n, .int .u64 (t : Int)]] w fun e w' => e = .returned (.int .u64 (gr n : Int)) ∧ Chg NoChg w w' := by
  by_cases h1 : n < 1
  · have hm : gr n = 0 := by unfold gr; rw [if_pos h1]
    rw [hm]
    clear hm
    go_enter Tryd.func24, Tryd.ntmps24
    go_wp2
    go_ret
    refine ⟨rfl, ?_⟩
    (repeat' (first | (with_reducible exact Chg.refl _ _) | (with_reducible assumption) | (with_reducible refine Chg.alloc ?_ _) | (with_reducible refine Chg.drewN ?_ _) | (with_reducible refine Chg.drew ?_) | (with_reducible refine Chg.setCell ?_ _ ?_) | (apply Or.inl; with_reducible rfl) | (apply Or.inl; simp; done) | (apply Or.inr; simp; done) | (apply Or.inr; simp; omega)))
  · have hu : IntKind.u64.wrap n = n := IntWalk.u64_in _ (by omega)
    by_cases h2 : 18014398509481984 < n
    · have hm : gr n = 4611686018427387904 := by unfold gr; rw [if_neg h1, if_pos h2]
      rw [hm]
      clear hm hn
      go_enter Tryd.func24, Tryd.ntmps24
      go_wp2
      go_ret
      refine ⟨rfl, ?_⟩
      (repeat' (first | (with_reducible exact Chg.refl _ _) | (with_reducible assumption) | (with_reducible refine Chg.alloc ?_ _) | (with_reducible refine Chg.drewN ?_ _) | (with_reducible refine Chg.drew ?_) | (with_reducible refine Chg.setCell ?_ _ ?_) | (apply Or.inl; with_reducible rfl) | (apply Or.inl; simp; done) | (apply Or.inr; simp; done) | (apply Or.inr; simp; omega)))
    · have hm : (gr n : Int) = n * 256 := by unfold gr; rw [if_neg h1, if_neg h2]; omega
      rw [hm]
      have hu2 : IntKind.u64.wrap (n * 256) = n * 256 := IntWalk.u64_in _ (by omega)
      clear hm hn
      go_enter Tryd.func24, Tryd.ntmps24
      go_wp2
      go_ret
      refine ⟨rfl, ?_⟩
      (repeat' (first | (with_reducible exact Chg.refl _ _) | (with_reducible assumption) | (with_reducible refine Chg.alloc ?_ _) | (with_reducible refine Chg.drewN ?_ _) | (with_reducible refine Chg.drew ?_) | (with_reducible refine Chg.setCell ?_ _ ?_) | (apply Or.inl; with_reducible rfl) | (apply Or.inl; simp; done) | (apply Or.inr; simp; done) | (apply Or.inr; simp; omega)))

set_option maxRecDepth 100000 in
theorem pkTicks_any (i t : Nat) (c n : Int) (hn : n ≤ 9223372036854775807) (rate : Nat) (hr : rate < 18446744073709551616) (w : World) : Calls Tryd.prog 25 #[.agg #[.int .u64 (i : Int), .int .i64 c, .int .i64 n, .int .u64 (t : Int)], .int .u64 (rate : Int)] w fun e w' => e = .returned (.int .u64 (tk (gr n) rate : Int)) ∧ Chg NoChg w w' := by
  have HG := hide (pkGrains_any i t c n hn)
  have hle := gr_le n
  have B0 := hide (Blk.new w #[.int .u64 (i : Int), .int .i64 c, .int .i64 n, .int .u64 (t : Int)] 24)
  have C0 := hide ((Chg.refl NoChg w).alloc (.cells #[.int .u64 (i : Int), .int .i64 c, .int .i64 n, .int .u64 (t : Int)] 24))
  generalize gr n = g at HG hle ⊢
  have HT : Hid (tk g rate = if g = 0 then 0 else if rate = 0 then 9223372036854775808 else (g - 1) / rate + 1) := hide rfl
  generalize tk g rate = r at HT ⊢
  by_cases h0 : g = 0
  · have HR : Hid (r = 0) := hide (by rw [HT.out, if_pos h0])
    subst h0
    obtain rfl := HR.out
    clear hle HT HR
    go_enter Tryd.func25, Tryd.ntmps25
    go_wp2_with fail
    refine (HG.out _).mono ?_
    rintro e w1 ⟨rfl, c1⟩
    have C1 := hide (C0.out.trans' c1)
    clear c1
    go_wp2
    go_ret
    exact ⟨rfl, C1.out⟩
  · have hg : ((g : Int) == 0) = false := by simp; omega
    by_cases h1 : rate = 0
    · have HR : Hid (r = 9223372036854775808) := hide (by rw [HT.out, if_neg h0, if_pos h1])
      subst h1
      obtain rfl := HR.out
      clear hle HT HR h0
      go_enter Tryd.func25, Tryd.ntmps25
      go_wp2_with fail
      refine (HG.out _).mono ?_
      rintro e w1 ⟨rfl, c1⟩
      have C1 := hide (C0.out.trans' c1)
      clear c1
      go_wp2
      go_ret
      exact ⟨rfl, C1.out⟩
    · have HR : Hid ((r : Int) = ((g : Int) - 1) / (rate : Int) + 1) := hide (by
        rw [HT.out, if_neg h0, if_neg h1]
        have : ((g : Int) - 1) = ((g - 1 : Nat) : Int) := by omega
        rw [this]
        simp)
      have hrt : ((rate : Int) == 0) = false := by simp; omega
      have hd0 : 0 ≤ ((g : Int) - 1) / (rate : Int) := Int.ediv_nonneg (by omega) (by omega)
      have hd1 : ((g : Int) - 1) / (rate : Int) ≤ 4611686018427387904 := by
        have := Int.ediv_le_self (rate : Int) (show 0 ≤ (g : Int) - 1 by omega)
        omega
      have hs : IntKind.u64.wrap ((g : Int) - 1) = (g : Int) - 1 := IntWalk.u64_in _ (by omega)
      have ht : Int.tdiv ((g : Int) - 1) (rate : Int) = ((g : Int) - 1) / (rate : Int) := Int.tdiv_eq_ediv_of_nonneg (by omega)
      have hq : IntKind.u64.wrap (((g : Int) - 1) / (rate : Int)) = ((g : Int) - 1) / (rate : Int) := IntWalk.u64_in _ (by omega)
      have hq1 : IntKind.u64.wrap (((g : Int) - 1) / (rate : Int) + 1) = ((g : Int) - 1) / (rate : Int) + 1 := IntWalk.u64_in _ (by omega)
      have hrne : ¬ (rate : Int) = 0 := by omega
      rw [HR.out]
      generalize ((g : Int) - 1) / (rate : Int) = q at ht hq hq1 hd0 hd1 ⊢
      generalize hgd : (g : Int) - 1 = gd at hs ht
      have HGD := hide hgd
      clear hle HT HR h0 h1 hd0 hd1
      go_enter Tryd.func25, Tryd.ntmps25
      go_wp2_with fail
      refine (HG.out _).mono ?_
      rintro e w1 ⟨rfl, c1⟩
      have C1 := hide (C0.out.trans' c1)
      clear c1
      go_wp2
      go_ret
      exact ⟨rfl, C1.out⟩

set_option maxRecDepth 100000 in
theorem pkBefore_any (i1 t1 i2 t2 : Nat) (c1 n1 c2 n2 : Int) (w : World) : Calls Tryd.prog 14 #[.agg #[.int .u64 (i1 : Int), .int .i64 c1, .int .i64 n1, .int .u64 (t1 : Int)], .agg #[.int .u64 (i2 : Int), .int .i64 c2, .int .i64 n2, .int .u64 (t2 : Int)]] w fun e w' => e = .returned (.bool (bef t1 i1 t2 i2)) ∧ Chg NoChg w w' := by
  by_cases h1 : t1 < t2
  · have hb : bef t1 i1 t2 i2 = true := by simp [bef, h1]
    rw [hb]
    have e1 : decide ((t1 : Int) < (t2 : Int)) = true := by simp; omega
    clear hb
    go_enter Tryd.func14, Tryd.ntmps14
    go_wp2
    go_ret
    refine ⟨rfl, ?_⟩
    (repeat' (first | (with_reducible exact Chg.refl _ _) | (with_reducible assumption) | (with_reducible refine Chg.alloc ?_ _) | (with_reducible refine Chg.drewN ?_ _) | (with_reducible refine Chg.drew ?_) | (with_reducible refine Chg.setCell ?_ _ ?_) | (apply Or.inl; with_reducible rfl) | (apply Or.inl; simp; done) | (apply Or.inr; simp; done) | (apply Or.inr; simp; omega)))
  · have e1 : decide ((t1 : Int) < (t2 : Int)) = false := by simp; omega
    by_cases h2 : t1 = t2
    · subst h2
      have hb : bef t1 i1 t1 i2 = decide (i1 < i2) := by simp [bef]
      rw [hb]
      clear hb
      go_enter Tryd.func14, Tryd.ntmps14
      go_wp2
      go_ret
      refine ⟨rfl, ?_⟩
      (repeat' (first | (with_reducible exact Chg.refl _ _) | (with_reducible assumption) | (with_reducible refine Chg.alloc ?_ _) | (with_reducible refine Chg.drewN ?_ _) | (with_reducible refine Chg.drew ?_) | (with_reducible refine Chg.setCell ?_ _ ?_) | (apply Or.inl; with_reducible rfl) | (apply Or.inl; simp; done) | (apply Or.inr; simp; done) | (apply Or.inr; simp; omega)))
    · have hb : bef t1 i1 t2 i2 = false := by simp [bef, h1, h2]
      rw [hb]
      have e2 : ((t1 : Int) == (t2 : Int)) = false := by simp; omega
      clear hb
      go_enter Tryd.func14, Tryd.ntmps14
      go_wp2
      go_ret
      refine ⟨rfl, ?_⟩
      (repeat' (first | (with_reducible exact Chg.refl _ _) | (with_reducible assumption) | (with_reducible refine Chg.alloc ?_ _) | (with_reducible refine Chg.drewN ?_ _) | (with_reducible refine Chg.drew ?_) | (with_reducible refine Chg.setCell ?_ _ ?_) | (apply Or.inl; with_reducible rfl) | (apply Or.inl; simp; done) | (apply Or.inr; simp; done) | (apply Or.inr; simp; omega)))
end Go.Proofs.YtofgajlpdnokdaaDoor
