/- The document's May of a spec. -/
import Derived.Test.YtofgajlpdnokdaaSpec4
import Derived.Outline
namespace Go.Proofs.Ytofgajlpdnokdaa
set_option linter.unusedVariables false
open Go.RowKit

theorem named_true {s : Spc} (h1 : 1 ≤ s.id) (h2 : s.id ≤ 65535) (h3 : 0 ≤ s.par) (h4 : s.par ≤ 65535) (h5 : ¬ s.par = s.id) : s.named = true := by
  simp only [Spc.named, inB, Bool.and_eq_true, decide_eq_true_eq]
  omega
theorem named_false {s : Spc} (h : s.id < 1 ∨ 65535 < s.id ∨ s.par < 0 ∨ 65535 < s.par ∨ s.par = s.id) : s.named = false := by
  simp only [Spc.named, inB, Bool.and_eq_false_iff, decide_eq_false_iff_not]
  omega
theorem mayE_1 {s : Spc} (h : s.named = false) : s.mayE = 130 := by unfold Spc.mayE; rw [if_pos h]
theorem mayE_2 {s : Spc} (h1 : s.named = true) (h : s.curvesB = false) : s.mayE = 30 := by unfold Spc.mayE; rw [if_neg (by simp [h1]), if_pos h]
theorem mayE_3 {s : Spc} (h1 : s.named = true) (h2 : s.curvesB = true) (h : s.shapedB s.leaf = false) : s.mayE = 130 := by unfold Spc.mayE; rw [if_neg (by simp [h1]), if_neg (by simp [h2]), if_pos h]
theorem mayE_4 {s : Spc} (h1 : s.named = true) (h2 : s.curvesB = true) (h3 : s.shapedB s.leaf = true) (h : s.sharedB = false) : s.mayE = 130 := by unfold Spc.mayE; rw [if_neg (by simp [h1]), if_neg (by simp [h2]), if_neg (by simp [h3]), if_pos h]
theorem mayE_5 {s : Spc} (h1 : s.named = true) (h2 : s.curvesB = true) (h3 : s.shapedB s.leaf = true) (h4 : s.sharedB = true) (h : s.under = false) : s.mayE = 130 := by unfold Spc.mayE; rw [if_neg (by simp [h1]), if_neg (by simp [h2]), if_neg (by simp [h3]), if_neg (by simp [h4]), if_pos h]
theorem mayE_6 {s : Spc} (h1 : s.named = true) (h2 : s.curvesB = true) (h3 : s.shapedB s.leaf = true) (h4 : s.sharedB = true) (h : s.under = true) : s.mayE = 0 := by unfold Spc.mayE; rw [if_neg (by simp [h1]), if_neg (by simp [h2]), if_neg (by simp [h3]), if_neg (by simp [h4]), if_neg (by simp [h])]

set_option maxRecDepth 100000 in
set_option maxHeartbeats 4000000 in
theorem r13May_named (s : Spc) (b : Bool) (h : s.named = false) (w : World) : Calls Try.prog 5 #[.agg #[.int .i64 s.id, .int .i64 s.par, .bool b, .int .u64 (s.real.f : Int), .int .u64 (s.real.l : Int), .int .u64 (s.real.r : Int), .int .u64 (s.share.f : Int), .int .u64 (s.share.l : Int), .int .u64 (s.share.r : Int), .int .u64 (s.upper.f : Int), .int .u64 (s.upper.l : Int), .int .u64 (s.upper.r : Int), .int .i64 s.pk, .int .i64 s.bt]] w fun e w' => e = .returned (.int .i64 130) ∧ Chg NoChg w w' := by
  by_cases g0 : 1 ≤ s.id
  · skip
    by_cases g1 : s.id ≤ 65535
    · skip
      by_cases g2 : 0 ≤ s.par
      · skip
        by_cases g3 : s.par ≤ 65535
        · skip
          have g4 : s.par = s.id := by
            refine Classical.byContradiction fun h5 => ?_
            rw [named_true g0 g1 g2 g3 h5] at h
            cases h
          have g5 : (s.par == s.id) = true := by simp [g4]
          clear h g4
          have S0 := hide (SpbAt.new w s b)
          have C0 := hide ((Chg.refl NoChg w).alloc (.cells #[.int .i64 s.id, .int .i64 s.par, .bool b, .int .u64 (s.real.f : Int), .int .u64 (s.real.l : Int), .int .u64 (s.real.r : Int), .int .u64 (s.share.f : Int), .int .u64 (s.share.l : Int), .int .u64 (s.share.r : Int), .int .u64 (s.upper.f : Int), .int .u64 (s.upper.l : Int), .int .u64 (s.upper.r : Int), .int .i64 s.pk, .int .i64 s.bt] 26))
          obtain ⟨a0, a1, a2, a3, a4, a5, a6, a7, a8, a9, a10, a11, a12, a13⟩ := S0.out.cells
          go_enter Try.func5, Try.ntmps5
          go_wp2
          go_ret
          exact ⟨rfl, C0.out⟩
        · have g9 : 65535 < s.par := by omega
          clear h g3
          have S0 := hide (SpbAt.new w s b)
          have C0 := hide ((Chg.refl NoChg w).alloc (.cells #[.int .i64 s.id, .int .i64 s.par, .bool b, .int .u64 (s.real.f : Int), .int .u64 (s.real.l : Int), .int .u64 (s.real.r : Int), .int .u64 (s.share.f : Int), .int .u64 (s.share.l : Int), .int .u64 (s.share.r : Int), .int .u64 (s.upper.f : Int), .int .u64 (s.upper.l : Int), .int .u64 (s.upper.r : Int), .int .i64 s.pk, .int .i64 s.bt] 26))
          obtain ⟨a0, a1, a2, a3, a4, a5, a6, a7, a8, a9, a10, a11, a12, a13⟩ := S0.out.cells
          go_enter Try.func5, Try.ntmps5
          go_wp2
          go_ret
          exact ⟨rfl, C0.out⟩
      · have g9 : s.par < 0 := by omega
        clear h g2
        have S0 := hide (SpbAt.new w s b)
        have C0 := hide ((Chg.refl NoChg w).alloc (.cells #[.int .i64 s.id, .int .i64 s.par, .bool b, .int .u64 (s.real.f : Int), .int .u64 (s.real.l : Int), .int .u64 (s.real.r : Int), .int .u64 (s.share.f : Int), .int .u64 (s.share.l : Int), .int .u64 (s.share.r : Int), .int .u64 (s.upper.f : Int), .int .u64 (s.upper.l : Int), .int .u64 (s.upper.r : Int), .int .i64 s.pk, .int .i64 s.bt] 26))
        obtain ⟨a0, a1, a2, a3, a4, a5, a6, a7, a8, a9, a10, a11, a12, a13⟩ := S0.out.cells
        go_enter Try.func5, Try.ntmps5
        go_wp2
        go_ret
        exact ⟨rfl, C0.out⟩
    · have g9 : 65535 < s.id := by omega
      clear h g1
      have S0 := hide (SpbAt.new w s b)
      have C0 := hide ((Chg.refl NoChg w).alloc (.cells #[.int .i64 s.id, .int .i64 s.par, .bool b, .int .u64 (s.real.f : Int), .int .u64 (s.real.l : Int), .int .u64 (s.real.r : Int), .int .u64 (s.share.f : Int), .int .u64 (s.share.l : Int), .int .u64 (s.share.r : Int), .int .u64 (s.upper.f : Int), .int .u64 (s.upper.l : Int), .int .u64 (s.upper.r : Int), .int .i64 s.pk, .int .i64 s.bt] 26))
      obtain ⟨a0, a1, a2, a3, a4, a5, a6, a7, a8, a9, a10, a11, a12, a13⟩ := S0.out.cells
      go_enter Try.func5, Try.ntmps5
      go_wp2
      go_ret
      exact ⟨rfl, C0.out⟩
  · have g9 : s.id < 1 := by omega
    clear h g0
    have S0 := hide (SpbAt.new w s b)
    have C0 := hide ((Chg.refl NoChg w).alloc (.cells #[.int .i64 s.id, .int .i64 s.par, .bool b, .int .u64 (s.real.f : Int), .int .u64 (s.real.l : Int), .int .u64 (s.real.r : Int), .int .u64 (s.share.f : Int), .int .u64 (s.share.l : Int), .int .u64 (s.share.r : Int), .int .u64 (s.upper.f : Int), .int .u64 (s.upper.l : Int), .int .u64 (s.upper.r : Int), .int .i64 s.pk, .int .i64 s.bt] 26))
    obtain ⟨a0, a1, a2, a3, a4, a5, a6, a7, a8, a9, a10, a11, a12, a13⟩ := S0.out.cells
    go_enter Try.func5, Try.ntmps5
    go_wp2
    go_ret
    exact ⟨rfl, C0.out⟩

set_option maxRecDepth 100000 in
set_option maxHeartbeats 4000000 in
theorem r13May_curves (s : Spc) (b : Bool) (g0 : 1 ≤ s.id) (g1 : s.id ≤ 65535) (g2 : 0 ≤ s.par) (g3 : s.par ≤ 65535) (g4 : ¬ s.par = s.id) (h : s.curvesB = false) (w : World) : Calls Try.prog 5 #[.agg #[.int .i64 s.id, .int .i64 s.par, .bool b, .int .u64 (s.real.f : Int), .int .u64 (s.real.l : Int), .int .u64 (s.real.r : Int), .int .u64 (s.share.f : Int), .int .u64 (s.share.l : Int), .int .u64 (s.share.r : Int), .int .u64 (s.upper.f : Int), .int .u64 (s.upper.l : Int), .int .u64 (s.upper.r : Int), .int .i64 s.pk, .int .i64 s.bt]] w fun e w' => e = .returned (.int .i64 30) ∧ Chg NoChg w w' := by
  have g5 : (s.par == s.id) = false := by simpa using g4
  have H1 := hide (r03May_any s.real)
  have H2 := hide (r03May_any s.share)
  have H3 := hide (r03May_any s.upper)
  unfold Spc.curvesB at h
  generalize decide s.real.May = x at H1 h
  generalize decide s.share.May = y at H2 h
  generalize decide s.upper.May = z at H3 h
  clear g4
  cases x with
  | false =>
    clear h
    have S0 := hide (SpbAt.new w s b)
    have C0 := hide ((Chg.refl NoChg w).alloc (.cells #[.int .i64 s.id, .int .i64 s.par, .bool b, .int .u64 (s.real.f : Int), .int .u64 (s.real.l : Int), .int .u64 (s.real.r : Int), .int .u64 (s.share.f : Int), .int .u64 (s.share.l : Int), .int .u64 (s.share.r : Int), .int .u64 (s.upper.f : Int), .int .u64 (s.upper.l : Int), .int .u64 (s.upper.r : Int), .int .i64 s.pk, .int .i64 s.bt] 26))
    obtain ⟨a0, a1, a2, a3, a4, a5, a6, a7, a8, a9, a10, a11, a12, a13⟩ := S0.out.cells
    go_enter Try.func5, Try.ntmps5
    go_wp2_with fail
    refine (H1.out _).mono ?_
    rintro e w1 ⟨rfl, c1⟩
    have S1 := hide (S0.out.keep c1)
    have C1 := hide (C0.out.trans' c1)
    clear c1 a0 a1 a2 a3 a4 a5 a6 a7 a8 a9 a10 a11 a12 a13
    obtain ⟨a0, a1, a2, a3, a4, a5, a6, a7, a8, a9, a10, a11, a12, a13⟩ := S1.out.cells
    go_wp2
    go_ret
    exact ⟨rfl, C1.out⟩
  | true =>
    cases y with
    | false =>
      clear h
      have S0 := hide (SpbAt.new w s b)
      have C0 := hide ((Chg.refl NoChg w).alloc (.cells #[.int .i64 s.id, .int .i64 s.par, .bool b, .int .u64 (s.real.f : Int), .int .u64 (s.real.l : Int), .int .u64 (s.real.r : Int), .int .u64 (s.share.f : Int), .int .u64 (s.share.l : Int), .int .u64 (s.share.r : Int), .int .u64 (s.upper.f : Int), .int .u64 (s.upper.l : Int), .int .u64 (s.upper.r : Int), .int .i64 s.pk, .int .i64 s.bt] 26))
      obtain ⟨a0, a1, a2, a3, a4, a5, a6, a7, a8, a9, a10, a11, a12, a13⟩ := S0.out.cells
      go_enter Try.func5, Try.ntmps5
      go_wp2_with fail
      refine (H1.out _).mono ?_
      rintro e w1 ⟨rfl, c1⟩
      have S1 := hide (S0.out.keep c1)
      have C1 := hide (C0.out.trans' c1)
      clear c1 a0 a1 a2 a3 a4 a5 a6 a7 a8 a9 a10 a11 a12 a13
      obtain ⟨a0, a1, a2, a3, a4, a5, a6, a7, a8, a9, a10, a11, a12, a13⟩ := S1.out.cells
      go_wp2_with fail
      refine (H2.out _).mono ?_
      rintro e w2 ⟨rfl, c2⟩
      have S2 := hide (S1.out.keep c2)
      have C2 := hide (C1.out.trans' c2)
      clear c2 a0 a1 a2 a3 a4 a5 a6 a7 a8 a9 a10 a11 a12 a13
      obtain ⟨a0, a1, a2, a3, a4, a5, a6, a7, a8, a9, a10, a11, a12, a13⟩ := S2.out.cells
      go_wp2
      go_ret
      exact ⟨rfl, C2.out⟩
    | true =>
      cases z with
      | false =>
        clear h
        have S0 := hide (SpbAt.new w s b)
        have C0 := hide ((Chg.refl NoChg w).alloc (.cells #[.int .i64 s.id, .int .i64 s.par, .bool b, .int .u64 (s.real.f : Int), .int .u64 (s.real.l : Int), .int .u64 (s.real.r : Int), .int .u64 (s.share.f : Int), .int .u64 (s.share.l : Int), .int .u64 (s.share.r : Int), .int .u64 (s.upper.f : Int), .int .u64 (s.upper.l : Int), .int .u64 (s.upper.r : Int), .int .i64 s.pk, .int .i64 s.bt] 26))
        obtain ⟨a0, a1, a2, a3, a4, a5, a6, a7, a8, a9, a10, a11, a12, a13⟩ := S0.out.cells
        go_enter Try.func5, Try.ntmps5
        go_wp2_with fail
        refine (H1.out _).mono ?_
        rintro e w1 ⟨rfl, c1⟩
        have S1 := hide (S0.out.keep c1)
        have C1 := hide (C0.out.trans' c1)
        clear c1 a0 a1 a2 a3 a4 a5 a6 a7 a8 a9 a10 a11 a12 a13
        obtain ⟨a0, a1, a2, a3, a4, a5, a6, a7, a8, a9, a10, a11, a12, a13⟩ := S1.out.cells
        go_wp2_with fail
        refine (H2.out _).mono ?_
        rintro e w2 ⟨rfl, c2⟩
        have S2 := hide (S1.out.keep c2)
        have C2 := hide (C1.out.trans' c2)
        clear c2 a0 a1 a2 a3 a4 a5 a6 a7 a8 a9 a10 a11 a12 a13
        obtain ⟨a0, a1, a2, a3, a4, a5, a6, a7, a8, a9, a10, a11, a12, a13⟩ := S2.out.cells
        go_wp2_with fail
        refine (H3.out _).mono ?_
        rintro e w3 ⟨rfl, c3⟩
        have S3 := hide (S2.out.keep c3)
        have C3 := hide (C2.out.trans' c3)
        clear c3 a0 a1 a2 a3 a4 a5 a6 a7 a8 a9 a10 a11 a12 a13
        obtain ⟨a0, a1, a2, a3, a4, a5, a6, a7, a8, a9, a10, a11, a12, a13⟩ := S3.out.cells
        go_wp2
        go_ret
        exact ⟨rfl, C3.out⟩
      | true => cases h

end Go.Proofs.Ytofgajlpdnokdaa
