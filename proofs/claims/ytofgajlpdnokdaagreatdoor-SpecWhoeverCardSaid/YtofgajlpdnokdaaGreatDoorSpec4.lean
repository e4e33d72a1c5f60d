/- spec: May. -/
import Derived.Test.YtofgajlpdnokdaaGreatDoorSpec3
import Derived.Laws.EntriesVeiled
import Derived.Outline
namespace Go.Proofs.YtofgajlpdnokdaaGreatDoor
set_option linter.unusedVariables false
open Go.RowKit

def Spc.curvesB (s : Spc) : Bool := decide s.real.May && (decide s.share.May && decide s.upper.May)
def Spc.sharedB (s : Spc) : Bool := s.share.goes && (s.upper.goes && (s.upper.none || !s.share.none))
/-- What May tells. -/
def Spc.mayE (s : Spc) : Int := if s.named = false then 130 else if s.curvesB = false then 30 else if s.shapedB s.leaf = false then 130 else if s.sharedB = false then 130 else if s.under = false then 130 else 0

theorem asked0 (w : World) : (Instr.index 63 (.agg #[.func (.func 24) #[] #[], .int .i64 130, .func (.func 25) #[] #[], .int .i64 30, .func (.func 26) #[] #[], .int .i64 130, .func (.func 27) #[] #[], .int .i64 130, .func (.func 28) #[] #[], .int .i64 130]) (.int .i64 0)).run Tryz.prog w = .ok (.agg #[.func (.func 24) #[] #[], .int .i64 130]) w := by kernel_rfl
theorem asked1 (w : World) : (Instr.index 63 (.agg #[.func (.func 24) #[] #[], .int .i64 130, .func (.func 25) #[] #[], .int .i64 30, .func (.func 26) #[] #[], .int .i64 130, .func (.func 27) #[] #[], .int .i64 130, .func (.func 28) #[] #[], .int .i64 130]) (.int .i64 1)).run Tryz.prog w = .ok (.agg #[.func (.func 25) #[] #[], .int .i64 30]) w := by kernel_rfl
theorem asked2 (w : World) : (Instr.index 63 (.agg #[.func (.func 24) #[] #[], .int .i64 130, .func (.func 25) #[] #[], .int .i64 30, .func (.func 26) #[] #[], .int .i64 130, .func (.func 27) #[] #[], .int .i64 130, .func (.func 28) #[] #[], .int .i64 130]) (.int .i64 2)).run Tryz.prog w = .ok (.agg #[.func (.func 26) #[] #[], .int .i64 130]) w := by kernel_rfl
theorem asked3 (w : World) : (Instr.index 63 (.agg #[.func (.func 24) #[] #[], .int .i64 130, .func (.func 25) #[] #[], .int .i64 30, .func (.func 26) #[] #[], .int .i64 130, .func (.func 27) #[] #[], .int .i64 130, .func (.func 28) #[] #[], .int .i64 130]) (.int .i64 3)).run Tryz.prog w = .ok (.agg #[.func (.func 27) #[] #[], .int .i64 130]) w := by kernel_rfl
theorem asked4 (w : World) : (Instr.index 63 (.agg #[.func (.func 24) #[] #[], .int .i64 130, .func (.func 25) #[] #[], .int .i64 30, .func (.func 26) #[] #[], .int .i64 130, .func (.func 27) #[] #[], .int .i64 130, .func (.func 28) #[] #[], .int .i64 130]) (.int .i64 4)).run Tryz.prog w = .ok (.agg #[.func (.func 28) #[] #[], .int .i64 130]) w := by kernel_rfl
attribute [local go_sem] asked0 asked1 asked2 asked3 asked4

set_option maxRecDepth 100000 in
set_option maxHeartbeats 4000000 in
theorem spMay_any (s : Spc) (w : World) : Calls Tryz.prog 10 #[.agg #[.int .i64 s.id, .int .i64 s.par, .bool s.leaf, .int .u64 (s.real.f : Int), .int .u64 (s.real.l : Int), .int .u64 (s.real.r : Int), .int .u64 (s.share.f : Int), .int .u64 (s.share.l : Int), .int .u64 (s.share.r : Int), .int .u64 (s.upper.f : Int), .int .u64 (s.upper.l : Int), .int .u64 (s.upper.r : Int), .int .i64 s.pk, .int .i64 s.bt]] w fun e w' => e = .returned (.int .i64 s.mayE) ∧ Chg NoChg w w' := by
  have S0 := hide (SpAt.new w s)
  have C0 := hide ((Chg.refl NoChg w).alloc (.cells #[.int .i64 s.id, .int .i64 s.par, .bool s.leaf, .int .u64 (s.real.f : Int), .int .u64 (s.real.l : Int), .int .u64 (s.real.r : Int), .int .u64 (s.share.f : Int), .int .u64 (s.share.l : Int), .int .u64 (s.share.r : Int), .int .u64 (s.upper.f : Int), .int .u64 (s.upper.l : Int), .int .u64 (s.upper.r : Int), .int .i64 s.pk, .int .i64 s.bt] 26))
  have H1 := hide (pNamed_any s)
  have H2 := hide (pCurves_any s)
  have H3 := hide (pShaped_any s)
  have H4 := hide (pShared_any s)
  have hM : s.mayE = if s.named = false then 130 else if s.curvesB = false then 30 else if s.shapedB s.leaf = false then 130 else if s.sharedB = false then 130 else if s.under = false then 130 else 0 := rfl
  have hc : s.curvesB = (decide s.real.May && (decide s.share.May && decide s.upper.May)) := rfl
  have hs : s.sharedB = (s.share.goes && (s.upper.goes && (s.upper.none || !s.share.none))) := rfl
  have H5 : s.curvesB = true → Hid (∀ w, Calls Tryz.prog 28 #[.agg #[.int .i64 s.id, .int .i64 s.par, .bool s.leaf, .int .u64 (s.real.f : Int), .int .u64 (s.real.l : Int), .int .u64 (s.real.r : Int), .int .u64 (s.share.f : Int), .int .u64 (s.share.l : Int), .int .u64 (s.share.r : Int), .int .u64 (s.upper.f : Int), .int .u64 (s.upper.l : Int), .int .u64 (s.upper.r : Int), .int .i64 s.pk, .int .i64 s.bt]] w fun e w' => e = .returned (.bool s.under) ∧ Chg NoChg w w') := fun h => by
    rw [hc] at h
    simp only [Bool.and_eq_true, decide_eq_true_eq] at h
    exact hide (pUnder_any s h.1 h.2.2)
  rw [← hc] at H2
  rw [← hs] at H4
  rw [hM]
  clear hc hs hM
  generalize s.named = x1 at H1 ⊢
  generalize s.curvesB = x2 at H2 H5 ⊢
  generalize s.shapedB s.leaf = x3 at H3 ⊢
  generalize s.sharedB = x4 at H4 ⊢
  cases x1 with
  | false =>
    clear H5
    obtain ⟨a0, a1, a2, a3, a4, a5, a6, a7, a8, a9, a10, a11, a12, a13⟩ := S0.out.cells
    go_enter Tryz.func10, Tryz.ntmps10
    go_wp2
    refine wp_loop_rounds 1 ?_
    rw [rounds_succ]
    go_wp2_with fail
    refine (H1.out _).mono ?_
    rintro e w1 ⟨rfl, c1⟩
    have q1 := c1.blk (Blk.new (w.alloc (.cells #[.int .i64 s.id, .int .i64 s.par, .bool s.leaf, .int .u64 (s.real.f : Int), .int .u64 (s.real.l : Int), .int .u64 (s.real.r : Int), .int .u64 (s.share.f : Int), .int .u64 (s.share.l : Int), .int .u64 (s.share.r : Int), .int .u64 (s.upper.f : Int), .int .u64 (s.upper.l : Int), .int .u64 (s.upper.r : Int), .int .i64 s.pk, .int .i64 s.bt] 26)) #[.func (.func 24) #[] #[], .int .i64 130] 62) (fun h => h)
    have r1 := q1.cell 1
    simp at r1
    replace c1 := ((Chg.refl NoChg (w.alloc (.cells #[.int .i64 s.id, .int .i64 s.par, .bool s.leaf, .int .u64 (s.real.f : Int), .int .u64 (s.real.l : Int), .int .u64 (s.real.r : Int), .int .u64 (s.share.f : Int), .int .u64 (s.share.l : Int), .int .u64 (s.share.r : Int), .int .u64 (s.upper.f : Int), .int .u64 (s.upper.l : Int), .int .u64 (s.upper.r : Int), .int .i64 s.pk, .int .i64 s.bt] 26))).alloc (.cells #[.func (.func 24) #[] #[], .int .i64 130] 62)).trans' c1
    have S1 := hide (S0.out.keep c1)
    have C1 := hide (C0.out.trans' c1)
    clear c1 q1 a0 a1 a2 a3 a4 a5 a6 a7 a8 a9 a10 a11 a12 a13
    obtain ⟨a0, a1, a2, a3, a4, a5, a6, a7, a8, a9, a10, a11, a12, a13⟩ := S1.out.cells
    have z1 := Blk.lt S1.out
    go_wp2
    go_ret
    exact ⟨rfl, C1.out⟩
  | true =>
    cases x2 with
    | false =>
      clear H5
      obtain ⟨a0, a1, a2, a3, a4, a5, a6, a7, a8, a9, a10, a11, a12, a13⟩ := S0.out.cells
      go_enter Tryz.func10, Tryz.ntmps10
      go_wp2
      refine wp_loop_rounds 2 ?_
      rw [rounds_succ]
      go_wp2_with fail
      refine (H1.out _).mono ?_
      rintro e w1 ⟨rfl, c1⟩
      have q1 := c1.blk (Blk.new (w.alloc (.cells #[.int .i64 s.id, .int .i64 s.par, .bool s.leaf, .int .u64 (s.real.f : Int), .int .u64 (s.real.l : Int), .int .u64 (s.real.r : Int), .int .u64 (s.share.f : Int), .int .u64 (s.share.l : Int), .int .u64 (s.share.r : Int), .int .u64 (s.upper.f : Int), .int .u64 (s.upper.l : Int), .int .u64 (s.upper.r : Int), .int .i64 s.pk, .int .i64 s.bt] 26)) #[.func (.func 24) #[] #[], .int .i64 130] 62) (fun h => h)
      have r1 := q1.cell 1
      simp at r1
      replace c1 := ((Chg.refl NoChg (w.alloc (.cells #[.int .i64 s.id, .int .i64 s.par, .bool s.leaf, .int .u64 (s.real.f : Int), .int .u64 (s.real.l : Int), .int .u64 (s.real.r : Int), .int .u64 (s.share.f : Int), .int .u64 (s.share.l : Int), .int .u64 (s.share.r : Int), .int .u64 (s.upper.f : Int), .int .u64 (s.upper.l : Int), .int .u64 (s.upper.r : Int), .int .i64 s.pk, .int .i64 s.bt] 26))).alloc (.cells #[.func (.func 24) #[] #[], .int .i64 130] 62)).trans' c1
      have S1 := hide (S0.out.keep c1)
      have C1 := hide (C0.out.trans' c1)
      clear c1 q1 a0 a1 a2 a3 a4 a5 a6 a7 a8 a9 a10 a11 a12 a13
      obtain ⟨a0, a1, a2, a3, a4, a5, a6, a7, a8, a9, a10, a11, a12, a13⟩ := S1.out.cells
      have z1 := Blk.lt S1.out
      go_wp2
      clear r1
      rw [rounds_succ]
      go_wp2_with fail
      refine (H2.out _).mono ?_
      rintro e w2 ⟨rfl, c2⟩
      have q2 := c2.blk (Blk.new w1 #[.func (.func 25) #[] #[], .int .i64 30] 62) (fun h => h)
      have r2 := q2.cell 1
      simp at r2
      replace c2 := ((Chg.refl NoChg w1).alloc (.cells #[.func (.func 25) #[] #[], .int .i64 30] 62)).trans' c2
      have S2 := hide (S1.out.keep c2)
      have C2 := hide (C1.out.trans' c2)
      clear c2 q2 a0 a1 a2 a3 a4 a5 a6 a7 a8 a9 a10 a11 a12 a13
      obtain ⟨a0, a1, a2, a3, a4, a5, a6, a7, a8, a9, a10, a11, a12, a13⟩ := S2.out.cells
      have z2 := Blk.lt S2.out
      clear z1
      go_wp2
      go_ret
      exact ⟨rfl, C2.out⟩
    | true =>
      replace H5 := H5 rfl
      generalize s.under = x5 at H5 ⊢
      cases x3 with
      | false =>
        obtain ⟨a0, a1, a2, a3, a4, a5, a6, a7, a8, a9, a10, a11, a12, a13⟩ := S0.out.cells
        go_enter Tryz.func10, Tryz.ntmps10
        go_wp2
        refine wp_loop_rounds 3 ?_
        rw [rounds_succ]
        go_wp2_with fail
        refine (H1.out _).mono ?_
        rintro e w1 ⟨rfl, c1⟩
        have q1 := c1.blk (Blk.new (w.alloc (.cells #[.int .i64 s.id, .int .i64 s.par, .bool s.leaf, .int .u64 (s.real.f : Int), .int .u64 (s.real.l : Int), .int .u64 (s.real.r : Int), .int .u64 (s.share.f : Int), .int .u64 (s.share.l : Int), .int .u64 (s.share.r : Int), .int .u64 (s.upper.f : Int), .int .u64 (s.upper.l : Int), .int .u64 (s.upper.r : Int), .int .i64 s.pk, .int .i64 s.bt] 26)) #[.func (.func 24) #[] #[], .int .i64 130] 62) (fun h => h)
        have r1 := q1.cell 1
        simp at r1
        replace c1 := ((Chg.refl NoChg (w.alloc (.cells #[.int .i64 s.id, .int .i64 s.par, .bool s.leaf, .int .u64 (s.real.f : Int), .int .u64 (s.real.l : Int), .int .u64 (s.real.r : Int), .int .u64 (s.share.f : Int), .int .u64 (s.share.l : Int), .int .u64 (s.share.r : Int), .int .u64 (s.upper.f : Int), .int .u64 (s.upper.l : Int), .int .u64 (s.upper.r : Int), .int .i64 s.pk, .int .i64 s.bt] 26))).alloc (.cells #[.func (.func 24) #[] #[], .int .i64 130] 62)).trans' c1
        have S1 := hide (S0.out.keep c1)
        have C1 := hide (C0.out.trans' c1)
        clear c1 q1 a0 a1 a2 a3 a4 a5 a6 a7 a8 a9 a10 a11 a12 a13
        obtain ⟨a0, a1, a2, a3, a4, a5, a6, a7, a8, a9, a10, a11, a12, a13⟩ := S1.out.cells
        have z1 := Blk.lt S1.out
        go_wp2
        clear r1
        rw [rounds_succ]
        go_wp2_with fail
        refine (H2.out _).mono ?_
        rintro e w2 ⟨rfl, c2⟩
        have q2 := c2.blk (Blk.new w1 #[.func (.func 25) #[] #[], .int .i64 30] 62) (fun h => h)
        have r2 := q2.cell 1
        simp at r2
        replace c2 := ((Chg.refl NoChg w1).alloc (.cells #[.func (.func 25) #[] #[], .int .i64 30] 62)).trans' c2
        have S2 := hide (S1.out.keep c2)
        have C2 := hide (C1.out.trans' c2)
        clear c2 q2 a0 a1 a2 a3 a4 a5 a6 a7 a8 a9 a10 a11 a12 a13
        obtain ⟨a0, a1, a2, a3, a4, a5, a6, a7, a8, a9, a10, a11, a12, a13⟩ := S2.out.cells
        have z2 := Blk.lt S2.out
        clear z1
        go_wp2
        clear r2
        rw [rounds_succ]
        go_wp2_with fail
        refine (H3.out _).mono ?_
        rintro e w3 ⟨rfl, c3⟩
        have q3 := c3.blk (Blk.new w2 #[.func (.func 26) #[] #[], .int .i64 130] 62) (fun h => h)
        have r3 := q3.cell 1
        simp at r3
        replace c3 := ((Chg.refl NoChg w2).alloc (.cells #[.func (.func 26) #[] #[], .int .i64 130] 62)).trans' c3
        have S3 := hide (S2.out.keep c3)
        have C3 := hide (C2.out.trans' c3)
        clear c3 q3 a0 a1 a2 a3 a4 a5 a6 a7 a8 a9 a10 a11 a12 a13
        obtain ⟨a0, a1, a2, a3, a4, a5, a6, a7, a8, a9, a10, a11, a12, a13⟩ := S3.out.cells
        have z3 := Blk.lt S3.out
        clear z2
        go_wp2
        go_ret
        exact ⟨rfl, C3.out⟩
      | true =>
        cases x4 with
        | false =>
          obtain ⟨a0, a1, a2, a3, a4, a5, a6, a7, a8, a9, a10, a11, a12, a13⟩ := S0.out.cells
          go_enter Tryz.func10, Tryz.ntmps10
          go_wp2
          refine wp_loop_rounds 4 ?_
          rw [rounds_succ]
          go_wp2_with fail
          refine (H1.out _).mono ?_
          rintro e w1 ⟨rfl, c1⟩
          have q1 := c1.blk (Blk.new (w.alloc (.cells #[.int .i64 s.id, .int .i64 s.par, .bool s.leaf, .int .u64 (s.real.f : Int), .int .u64 (s.real.l : Int), .int .u64 (s.real.r : Int), .int .u64 (s.share.f : Int), .int .u64 (s.share.l : Int), .int .u64 (s.share.r : Int), .int .u64 (s.upper.f : Int), .int .u64 (s.upper.l : Int), .int .u64 (s.upper.r : Int), .int .i64 s.pk, .int .i64 s.bt] 26)) #[.func (.func 24) #[] #[], .int .i64 130] 62) (fun h => h)
          have r1 := q1.cell 1
          simp at r1
          replace c1 := ((Chg.refl NoChg (w.alloc (.cells #[.int .i64 s.id, .int .i64 s.par, .bool s.leaf, .int .u64 (s.real.f : Int), .int .u64 (s.real.l : Int), .int .u64 (s.real.r : Int), .int .u64 (s.share.f : Int), .int .u64 (s.share.l : Int), .int .u64 (s.share.r : Int), .int .u64 (s.upper.f : Int), .int .u64 (s.upper.l : Int), .int .u64 (s.upper.r : Int), .int .i64 s.pk, .int .i64 s.bt] 26))).alloc (.cells #[.func (.func 24) #[] #[], .int .i64 130] 62)).trans' c1
          have S1 := hide (S0.out.keep c1)
          have C1 := hide (C0.out.trans' c1)
          clear c1 q1 a0 a1 a2 a3 a4 a5 a6 a7 a8 a9 a10 a11 a12 a13
          obtain ⟨a0, a1, a2, a3, a4, a5, a6, a7, a8, a9, a10, a11, a12, a13⟩ := S1.out.cells
          have z1 := Blk.lt S1.out
          go_wp2
          clear r1
          rw [rounds_succ]
          go_wp2_with fail
          refine (H2.out _).mono ?_
          rintro e w2 ⟨rfl, c2⟩
          have q2 := c2.blk (Blk.new w1 #[.func (.func 25) #[] #[], .int .i64 30] 62) (fun h => h)
          have r2 := q2.cell 1
          simp at r2
          replace c2 := ((Chg.refl NoChg w1).alloc (.cells #[.func (.func 25) #[] #[], .int .i64 30] 62)).trans' c2
          have S2 := hide (S1.out.keep c2)
          have C2 := hide (C1.out.trans' c2)
          clear c2 q2 a0 a1 a2 a3 a4 a5 a6 a7 a8 a9 a10 a11 a12 a13
          obtain ⟨a0, a1, a2, a3, a4, a5, a6, a7, a8, a9, a10, a11, a12, a13⟩ := S2.out.cells
          have z2 := Blk.lt S2.out
          clear z1
          go_wp2
          clear r2
          rw [rounds_succ]
          go_wp2_with fail
          refine (H3.out _).mono ?_
          rintro e w3 ⟨rfl, c3⟩
          have q3 := c3.blk (Blk.new w2 #[.func (.func 26) #[] #[], .int .i64 130] 62) (fun h => h)
          have r3 := q3.cell 1
          simp at r3
          replace c3 := ((Chg.refl NoChg w2).alloc (.cells #[.func (.func 26) #[] #[], .int .i64 130] 62)).trans' c3
          have S3 := hide (S2.out.keep c3)
          have C3 := hide (C2.out.trans' c3)
          clear c3 q3 a0 a1 a2 a3 a4 a5 a6 a7 a8 a9 a10 a11 a12 a13
          obtain ⟨a0, a1, a2, a3, a4, a5, a6, a7, a8, a9, a10, a11, a12, a13⟩ := S3.out.cells
          have z3 := Blk.lt S3.out
          clear z2
          go_wp2
          clear r3
          rw [rounds_succ]
          go_wp2_with fail
          refine (H4.out _).mono ?_
          rintro e w4 ⟨rfl, c4⟩
          have q4 := c4.blk (Blk.new w3 #[.func (.func 27) #[] #[], .int .i64 130] 62) (fun h => h)
          have r4 := q4.cell 1
          simp at r4
          replace c4 := ((Chg.refl NoChg w3).alloc (.cells #[.func (.func 27) #[] #[], .int .i64 130] 62)).trans' c4
          have S4 := hide (S3.out.keep c4)
          have C4 := hide (C3.out.trans' c4)
          clear c4 q4 a0 a1 a2 a3 a4 a5 a6 a7 a8 a9 a10 a11 a12 a13
          obtain ⟨a0, a1, a2, a3, a4, a5, a6, a7, a8, a9, a10, a11, a12, a13⟩ := S4.out.cells
          have z4 := Blk.lt S4.out
          clear z3
          go_wp2
          go_ret
          exact ⟨rfl, C4.out⟩
        | true =>
          cases x5 with
          | false =>
            obtain ⟨a0, a1, a2, a3, a4, a5, a6, a7, a8, a9, a10, a11, a12, a13⟩ := S0.out.cells
            go_enter Tryz.func10, Tryz.ntmps10
            go_wp2
            refine wp_loop_rounds 5 ?_
            rw [rounds_succ]
            go_wp2_with fail
            refine (H1.out _).mono ?_
            rintro e w1 ⟨rfl, c1⟩
            have q1 := c1.blk (Blk.new (w.alloc (.cells #[.int .i64 s.id, .int .i64 s.par, .bool s.leaf, .int .u64 (s.real.f : Int), .int .u64 (s.real.l : Int), .int .u64 (s.real.r : Int), .int .u64 (s.share.f : Int), .int .u64 (s.share.l : Int), .int .u64 (s.share.r : Int), .int .u64 (s.upper.f : Int), .int .u64 (s.upper.l : Int), .int .u64 (s.upper.r : Int), .int .i64 s.pk, .int .i64 s.bt] 26)) #[.func (.func 24) #[] #[], .int .i64 130] 62) (fun h => h)
            have r1 := q1.cell 1
            simp at r1
            replace c1 := ((Chg.refl NoChg (w.alloc (.cells #[.int .i64 s.id, .int .i64 s.par, .bool s.leaf, .int .u64 (s.real.f : Int), .int .u64 (s.real.l : Int), .int .u64 (s.real.r : Int), .int .u64 (s.share.f : Int), .int .u64 (s.share.l : Int), .int .u64 (s.share.r : Int), .int .u64 (s.upper.f : Int), .int .u64 (s.upper.l : Int), .int .u64 (s.upper.r : Int), .int .i64 s.pk, .int .i64 s.bt] 26))).alloc (.cells #[.func (.func 24) #[] #[], .int .i64 130] 62)).trans' c1
            have S1 := hide (S0.out.keep c1)
            have C1 := hide (C0.out.trans' c1)
            clear c1 q1 a0 a1 a2 a3 a4 a5 a6 a7 a8 a9 a10 a11 a12 a13
            obtain ⟨a0, a1, a2, a3, a4, a5, a6, a7, a8, a9, a10, a11, a12, a13⟩ := S1.out.cells
            have z1 := Blk.lt S1.out
            go_wp2
            clear r1
            rw [rounds_succ]
            go_wp2_with fail
            refine (H2.out _).mono ?_
            rintro e w2 ⟨rfl, c2⟩
            have q2 := c2.blk (Blk.new w1 #[.func (.func 25) #[] #[], .int .i64 30] 62) (fun h => h)
            have r2 := q2.cell 1
            simp at r2
            replace c2 := ((Chg.refl NoChg w1).alloc (.cells #[.func (.func 25) #[] #[], .int .i64 30] 62)).trans' c2
            have S2 := hide (S1.out.keep c2)
            have C2 := hide (C1.out.trans' c2)
            clear c2 q2 a0 a1 a2 a3 a4 a5 a6 a7 a8 a9 a10 a11 a12 a13
            obtain ⟨a0, a1, a2, a3, a4, a5, a6, a7, a8, a9, a10, a11, a12, a13⟩ := S2.out.cells
            have z2 := Blk.lt S2.out
            clear z1
            go_wp2
            clear r2
            rw [rounds_succ]
            go_wp2_with fail
            refine (H3.out _).mono ?_
            rintro e w3 ⟨rfl, c3⟩
            have q3 := c3.blk (Blk.new w2 #[.func (.func 26) #[] #[], .int .i64 130] 62) (fun h => h)
            have r3 := q3.cell 1
            simp at r3
            replace c3 := ((Chg.refl NoChg w2).alloc (.cells #[.func (.func 26) #[] #[], .int .i64 130] 62)).trans' c3
            have S3 := hide (S2.out.keep c3)
            have C3 := hide (C2.out.trans' c3)
            clear c3 q3 a0 a1 a2 a3 a4 a5 a6 a7 a8 a9 a10 a11 a12 a13
            obtain ⟨a0, a1, a2, a3, a4, a5, a6, a7, a8, a9, a10, a11, a12, a13⟩ := S3.out.cells
            have z3 := Blk.lt S3.out
            clear z2
            go_wp2
            clear r3
            rw [rounds_succ]
            go_wp2_with fail
            refine (H4.out _).mono ?_
            rintro e w4 ⟨rfl, c4⟩
            have q4 := c4.blk (Blk.new w3 #[.func (.func 27) #[] #[], .int .i64 130] 62) (fun h => h)
            have r4 := q4.cell 1
            simp at r4
            replace c4 := ((Chg.refl NoChg w3).alloc (.cells #[.func (.func 27) #[] #[], .int .i64 130] 62)).trans' c4
            have S4 := hide (S3.out.keep c4)
            have C4 := hide (C3.out.trans' c4)
            clear c4 q4 a0 a1 a2 a3 a4 a5 a6 a7 a8 a9 a10 a11 a12 a13
            obtain ⟨a0, a1, a2, a3, a4, a5, a6, a7, a8, a9, a10, a11, a12, a13⟩ := S4.out.cells
            have z4 := Blk.lt S4.out
            clear z3
            go_wp2
            clear r4
            rw [rounds_succ]
            go_wp2_with fail
            refine (H5.out _).mono ?_
            rintro e w5 ⟨rfl, c5⟩
            have q5 := c5.blk (Blk.new w4 #[.func (.func 28) #[] #[], .int .i64 130] 62) (fun h => h)
            have r5 := q5.cell 1
            simp at r5
            replace c5 := ((Chg.refl NoChg w4).alloc (.cells #[.func (.func 28) #[] #[], .int .i64 130] 62)).trans' c5
            have S5 := hide (S4.out.keep c5)
            have C5 := hide (C4.out.trans' c5)
            clear c5 q5 a0 a1 a2 a3 a4 a5 a6 a7 a8 a9 a10 a11 a12 a13
            obtain ⟨a0, a1, a2, a3, a4, a5, a6, a7, a8, a9, a10, a11, a12, a13⟩ := S5.out.cells
            have z5 := Blk.lt S5.out
            clear z4
            go_wp2
            go_ret
            exact ⟨rfl, C5.out⟩
          | true =>
            obtain ⟨a0, a1, a2, a3, a4, a5, a6, a7, a8, a9, a10, a11, a12, a13⟩ := S0.out.cells
            go_enter Tryz.func10, Tryz.ntmps10
            go_wp2
            refine wp_loop_rounds 6 ?_
            rw [rounds_succ]
            go_wp2_with fail
            refine (H1.out _).mono ?_
            rintro e w1 ⟨rfl, c1⟩
            have q1 := c1.blk (Blk.new (w.alloc (.cells #[.int .i64 s.id, .int .i64 s.par, .bool s.leaf, .int .u64 (s.real.f : Int), .int .u64 (s.real.l : Int), .int .u64 (s.real.r : Int), .int .u64 (s.share.f : Int), .int .u64 (s.share.l : Int), .int .u64 (s.share.r : Int), .int .u64 (s.upper.f : Int), .int .u64 (s.upper.l : Int), .int .u64 (s.upper.r : Int), .int .i64 s.pk, .int .i64 s.bt] 26)) #[.func (.func 24) #[] #[], .int .i64 130] 62) (fun h => h)
            have r1 := q1.cell 1
            simp at r1
            replace c1 := ((Chg.refl NoChg (w.alloc (.cells #[.int .i64 s.id, .int .i64 s.par, .bool s.leaf, .int .u64 (s.real.f : Int), .int .u64 (s.real.l : Int), .int .u64 (s.real.r : Int), .int .u64 (s.share.f : Int), .int .u64 (s.share.l : Int), .int .u64 (s.share.r : Int), .int .u64 (s.upper.f : Int), .int .u64 (s.upper.l : Int), .int .u64 (s.upper.r : Int), .int .i64 s.pk, .int .i64 s.bt] 26))).alloc (.cells #[.func (.func 24) #[] #[], .int .i64 130] 62)).trans' c1
            have S1 := hide (S0.out.keep c1)
            have C1 := hide (C0.out.trans' c1)
            clear c1 q1 a0 a1 a2 a3 a4 a5 a6 a7 a8 a9 a10 a11 a12 a13
            obtain ⟨a0, a1, a2, a3, a4, a5, a6, a7, a8, a9, a10, a11, a12, a13⟩ := S1.out.cells
            have z1 := Blk.lt S1.out
            go_wp2
            clear r1
            rw [rounds_succ]
            go_wp2_with fail
            refine (H2.out _).mono ?_
            rintro e w2 ⟨rfl, c2⟩
            have q2 := c2.blk (Blk.new w1 #[.func (.func 25) #[] #[], .int .i64 30] 62) (fun h => h)
            have r2 := q2.cell 1
            simp at r2
            replace c2 := ((Chg.refl NoChg w1).alloc (.cells #[.func (.func 25) #[] #[], .int .i64 30] 62)).trans' c2
            have S2 := hide (S1.out.keep c2)
            have C2 := hide (C1.out.trans' c2)
            clear c2 q2 a0 a1 a2 a3 a4 a5 a6 a7 a8 a9 a10 a11 a12 a13
            obtain ⟨a0, a1, a2, a3, a4, a5, a6, a7, a8, a9, a10, a11, a12, a13⟩ := S2.out.cells
            have z2 := Blk.lt S2.out
            clear z1
            go_wp2
            clear r2
            rw [rounds_succ]
            go_wp2_with fail
            refine (H3.out _).mono ?_
            rintro e w3 ⟨rfl, c3⟩
            have q3 := c3.blk (Blk.new w2 #[.func (.func 26) #[] #[], .int .i64 130] 62) (fun h => h)
            have r3 := q3.cell 1
            simp at r3
            replace c3 := ((Chg.refl NoChg w2).alloc (.cells #[.func (.func 26) #[] #[], .int .i64 130] 62)).trans' c3
            have S3 := hide (S2.out.keep c3)
            have C3 := hide (C2.out.trans' c3)
            clear c3 q3 a0 a1 a2 a3 a4 a5 a6 a7 a8 a9 a10 a11 a12 a13
            obtain ⟨a0, a1, a2, a3, a4, a5, a6, a7, a8, a9, a10, a11, a12, a13⟩ := S3.out.cells
            have z3 := Blk.lt S3.out
            clear z2
            go_wp2
            clear r3
            rw [rounds_succ]
            go_wp2_with fail
            refine (H4.out _).mono ?_
            rintro e w4 ⟨rfl, c4⟩
            have q4 := c4.blk (Blk.new w3 #[.func (.func 27) #[] #[], .int .i64 130] 62) (fun h => h)
            have r4 := q4.cell 1
            simp at r4
            replace c4 := ((Chg.refl NoChg w3).alloc (.cells #[.func (.func 27) #[] #[], .int .i64 130] 62)).trans' c4
            have S4 := hide (S3.out.keep c4)
            have C4 := hide (C3.out.trans' c4)
            clear c4 q4 a0 a1 a2 a3 a4 a5 a6 a7 a8 a9 a10 a11 a12 a13
            obtain ⟨a0, a1, a2, a3, a4, a5, a6, a7, a8, a9, a10, a11, a12, a13⟩ := S4.out.cells
            have z4 := Blk.lt S4.out
            clear z3
            go_wp2
            clear r4
            rw [rounds_succ]
            go_wp2_with fail
            refine (H5.out _).mono ?_
            rintro e w5 ⟨rfl, c5⟩
            have q5 := c5.blk (Blk.new w4 #[.func (.func 28) #[] #[], .int .i64 130] 62) (fun h => h)
            have r5 := q5.cell 1
            simp at r5
            replace c5 := ((Chg.refl NoChg w4).alloc (.cells #[.func (.func 28) #[] #[], .int .i64 130] 62)).trans' c5
            have S5 := hide (S4.out.keep c5)
            have C5 := hide (C4.out.trans' c5)
            clear c5 q5 a0 a1 a2 a3 a4 a5 a6 a7 a8 a9 a10 a11 a12 a13
            obtain ⟨a0, a1, a2, a3, a4, a5, a6, a7, a8, a9, a10, a11, a12, a13⟩ := S5.out.cells
            have z5 := Blk.lt S5.out
            clear z4
            go_wp2
            clear r5
            rw [rounds_succ]
            go_wp2
            go_ret
            exact ⟨rfl, C5.out⟩

end Go.Proofs.YtofgajlpdnokdaaGreatDoor
