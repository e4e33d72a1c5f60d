/- Sums of curves: those that may be are kept. -/
import Derived.Test.YtofgajlpdnokdaaBelow
import Derived.Test.YtofgajlpdnokdaaRec
import Derived.WalkSpells
namespace Go.Proofs.Ytofgajlpdnokdaa
set_option linter.unusedVariables false
open Go.RowKit

theorem crvT : RecT Try.prog Crv.cells 3 46 24 24 Crv.zero where
  ht := Try.underlying46
  hi := info_rec (by kernel_rfl)
  pos := by decide
  hc := Crv.cells_length
  one := by
    intro p u hu
    simp only [Crv.cells, List.mem_cons, List.not_mem_nil, or_false] at hu
    rcases hu with rfl | rfl | rfl <;> rfl

theorem ownC_empty {w : World} {g : Nat} (h : Blk w g #[] 24) : Own Crv.cells 3 24 w (.slice (some ⟨g, 0, none⟩) 0 0) ([] : List Crv) :=
  ⟨by simp [flatC], .inr ⟨g, 0, #[], rfl, Nat.zero_le _, h, Nat.le_refl _, Nat.zero_le _, by simp, by simp [flatC]⟩⟩

theorem eqGuard_curves : Try.prog.eqGuardType Try.prog.depth 46 = false := by kernel_rfl
theorem stood_curves : Try.prog.stoodInHeld 46 = false := by kernel_rfl
attribute [local go_sem] eqGuard_curves stood_curves

theorem slClone_any (l : List Crv) (ad : Addr) (cap : Nat) (w : World) (hrow : RowAt Crv.cells 3 w (some ad) l) (hl : l.length ≤ 1000) (h0 : l ≠ []) :
    Calls Try.prog 37 #[.slice (some ad) l.length cap] w fun e w' => ∃ v, e = .returned v ∧ Own Crv.cells 3 24 w' v l ∧ Chg NoChg w w' ∧ ∀ k, v.ownBlock = some k → w.heap.size ≤ k := by
  have HR := hide (And.intro hrow h0)
  clear hrow h0
  go_enter Try.func37, Try.ntmps37
  have hnil := fun (W : World) => Lib.run_eql_slice_nil (P := Try.prog) W 46 24 (some ad) l.length cap 0 0 Try.underlying46
  go_wp2_with (at_builtin; refine wpList_append_rec crvT rfl (.tmp 5) (.tmp 6) rfl _ ([] : List Crv) rfl (ownC_empty (Blk.new' _ _ (by simp))) _ _ l rfl ?a2 ?a3 ?a4 ?a5 ?a6)
  case a2 => intro h; cases h
  case a3 => exact HR.out.1.keep ((Chg.refl NoChg w).alloc _) (fun _ _ h => h)
  case a4 => simp [maxLen]; omega
  case a5 => simp; omega
  case a6 =>
    intro v' w1 hown1 hc1 hv1
    have K1 : Chg NoChg w w1 := ((Chg.refl NoChg w).alloc (.cells #[] 24)).trans hc1 fun j hj => .inr (by simp [Value.ownBlock] at hj; omega)
    have K2 : ∀ k, v'.ownBlock = some k → w.heap.size ≤ k := by
      intro k hk
      rcases hv1 with h | h
      · rw [h] at hk
        simp [Value.ownBlock] at hk
        omega
      · rw [h] at hk
        have := Option.some.inj hk
        have hz : (w.alloc (.cells #[] 24)).heap.size = w.heap.size + 1 := by simp
        omega
    have HK := hide (And.intro hown1 (And.intro K1 K2))
    clear hown1 K1 K2 hc1 hv1
    go_wp2
    go_ret
    exact ⟨_, rfl, HK.out.1, HK.out.2.1, HK.out.2.2⟩

theorem sMay1_any (c : Crv) (w : World) :
    Calls Try.prog 38 #[.agg #[.int .u64 (c.f : Int), .int .u64 (c.l : Int), .int .u64 (c.r : Int)]] w fun e w' => e = .returned (.bool (!decide c.May)) ∧ Chg NoChg w w' := by
  have M := hide (fun w => cMay_any c w)
  generalize decide c.May = d at M ⊢
  go_enter Try.func38, Try.ntmps38
  go_wp2_with fail
  refine (M.out _).mono ?_
  rintro e w1 ⟨rfl, c1⟩
  have C1 := hide (((Chg.refl NoChg w).alloc (.cells #[.int .u64 (c.f : Int), .int .u64 (c.l : Int), .int .u64 (c.r : Int)] 24)).trans' c1)
  clear c1
  go_wp2
  go_ret
  exact ⟨rfl, C1.out⟩

theorem sMay1_yes (c : Crv) (hc : c.May) (w w' : World) (h' : Chg NoChg w w') :
    Calls Try.prog 38 #[.agg #[.int .u64 (c.f : Int), .int .u64 (c.l : Int), .int .u64 (c.r : Int)]] w' fun e w'' => e = .returned (.bool false) ∧ Chg NoChg w w'' :=
  (sMay1_any c w').mono fun e w'' h => ⟨by rw [h.1, crv_true hc]; rfl, h'.trans' h.2⟩

theorem slIndex_none (l : List Crv) (a : Option Addr) (cap : Nat) (w : World) (hrow : RowAt Crv.cells 3 w a l) (hl : l.length ≤ 1000) (hm : ∀ c ∈ l, c.May) :
    Calls Try.prog 44 #[.slice a l.length cap, .func (.func 38) #[] #[]] w fun e w' => e = .returned (.int .i64 (-1)) ∧ Chg NoChg w w' := by
  have HR := hide (And.intro hrow hm)
  clear hrow hm
  have E := hide (fun c (hc : c.May) w' (h' : Chg NoChg w w') => sMay1_yes c hc w w' h')
  go_enter Try.func44, Try.ntmps44
  go_wp2
  go_loopw [5, 8] (fun _ i wr => ∃ k : Nat, k ≤ l.length ∧ i = .int .i64 k ∧ Chg NoChg w wr) (fun _ i _ => l.length - (intOf i).toNat)
  case atStart => exact ⟨0, by omega, rfl, Chg.refl _ _⟩
  case round =>
    obtain ⟨k, hk, rfl, hc⟩ := hrel
    rename_i wr
    by_cases hlt : k < l.length
    · obtain ⟨g, o, rfl, hj⟩ := HR.out.1 k hlt
      have hj' : ∀ j u, (Crv.cells l[k])[j]? = some u → wr.cell? ⟨g, o + k * 3 + j, none⟩ = some u := fun j u hu => hc.same (hj j u hu)
      have hm := HR.out.2 l[k] (List.getElem_mem hlt)
      generalize l[k] = c at hj' hm
      have e0 := hj' 0 _ rfl
      have e1 := hj' 1 _ rfl
      have e2 := hj' 2 _ rfl
      simp only [Nat.add_zero] at e0
      have EE := hide (E.out c hm wr hc)
      clear hj hj'
      have k0 : (0 : Int) ≤ (k : Int) := by omega
      have k1 : (k : Int) < (l.length : Int) := by omega
      have HC := hide hc
      clear hc hm
      go_wp2_with fail
      refine (EE.out).mono ?_
      rintro e w2 ⟨rfl, c2⟩
      go_wp2
      go_roundw
      case rel => exact ⟨k + 1, by omega, by go_num, c2⟩
      case measure => simp [intOf]; omega
    · have HC := hide hc
      clear hc
      go_wp2
      go_ret
      exact ⟨rfl, HC.out⟩
end Go.Proofs.Ytofgajlpdnokdaa
