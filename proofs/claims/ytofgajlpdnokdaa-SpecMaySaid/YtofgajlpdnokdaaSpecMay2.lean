/- SpecMay: walked. -/
import Derived.Test.YtofgajlpdnokdaaRSpec3
import Derived.Test.YtofgajlpdnokdaaRSpec4
import Derived.Test.YtofgajlpdnokdaaRSpec5
import Derived.Test.YtofgajlpdnokdaaRSpecK
import Derived.Test.YtofgajlpdnokdaaSpecW
import Derived.Deep.RegionHeld3
import Derived.Outline
namespace Go.Proofs.Ytofgajlpdnokdaa
set_option linter.unusedVariables false
open Go.RowKit

theorem restE_mayE {s : Spc} (h1 : s.named = true) (h2 : s.curvesB = true) : s.mayE = s.restE s.leaf := by
  unfold Spc.mayE Spc.restE
  rw [if_neg (by simp [h1]), if_neg (by simp [h2])]

theorem r13May_any (s : Spc) (w : World) : Calls Try.prog 5 #[.agg #[.int .i64 s.id, .int .i64 s.par, .bool s.leaf, .int .u64 (s.real.f : Int), .int .u64 (s.real.l : Int), .int .u64 (s.real.r : Int), .int .u64 (s.share.f : Int), .int .u64 (s.share.l : Int), .int .u64 (s.share.r : Int), .int .u64 (s.upper.f : Int), .int .u64 (s.upper.l : Int), .int .u64 (s.upper.r : Int), .int .i64 s.pk, .int .i64 s.bt]] w fun e w' => e = .returned (.int .i64 s.mayE) ∧ Chg NoChg w w' := by
  cases hn : s.named with
  | false => rw [mayE_1 hn]; exact r13May_named s s.leaf hn w
  | true =>
    have hx := hn
    simp only [Spc.named, inB, Bool.and_eq_true, decide_eq_true_eq] at hx
    obtain ⟨⟨⟨g0, g1⟩, g2, g3⟩, g4⟩ := hx
    have g4 : ¬ s.par = s.id := fun h => g4 h.symm
    cases hc : s.curvesB with
    | false => rw [mayE_2 hn hc]; exact r13May_curves s s.leaf g0 g1 g2 g3 g4 hc w
    | true =>
      have hm := hc
      simp only [Spc.curvesB, Bool.and_eq_true, decide_eq_true_eq] at hm
      obtain ⟨m1, m2, m3⟩ := hm
      rw [restE_mayE hn hc]
      cases hl : s.leaf with
      | true =>
        cases hx : s.real.none with
        | true =>
          cases hy : s.share.none with
          | true => exact r13_tt s g0 g1 g2 g3 g4 m1 m2 m3 hx hy w
          | false => exact r13_tf s g0 g1 g2 g3 g4 m1 m2 m3 hx hy w
        | false =>
          cases hy : s.share.none with
          | true => exact r13_ft s g0 g1 g2 g3 g4 m1 m2 m3 hx hy w
          | false => exact r13_ff s g0 g1 g2 g3 g4 m1 m2 m3 hx hy w
      | false =>
        cases hx : s.real.none with
        | true =>
          cases hy : s.share.none with
          | true => exact r13i_tt s g0 g1 g2 g3 g4 m1 m2 m3 hx hy w
          | false => exact r13i_tf s g0 g1 g2 g3 g4 m1 m2 m3 hx hy w
        | false =>
          cases hy : s.share.none with
          | true => exact r13i_ft s g0 g1 g2 g3 g4 m1 m2 m3 hx hy w
          | false => exact r13i_ff s g0 g1 g2 g3 g4 m1 m2 m3 hx hy w
end Go.Proofs.Ytofgajlpdnokdaa
