/- spec: what is asked of a spec's curves. -/
import Derived.Test.YtofgajlpdnokdaaGreatDoorSpec
import Derived.Test.YtofgajlpdnokdaaGreatDoorSumsK
import Derived.Test.YtofgajlpdnokdaaGreatDoorBase
namespace Go.Proofs.YtofgajlpdnokdaaGreatDoor
set_option linter.unusedVariables false
open Go.RowKit
attribute [local go_sem] yieldC

/-- Where a spec lies. -/
def SpAt (w : World) (g : Nat) (s : Spc) : Prop := Blk w g #[.int .i64 s.id, .int .i64 s.par, .bool s.leaf, .int .u64 (s.real.f : Int), .int .u64 (s.real.l : Int), .int .u64 (s.real.r : Int), .int .u64 (s.share.f : Int), .int .u64 (s.share.l : Int), .int .u64 (s.share.r : Int), .int .u64 (s.upper.f : Int), .int .u64 (s.upper.l : Int), .int .u64 (s.upper.r : Int), .int .i64 s.pk, .int .i64 s.bt] 26
theorem SpAt.keep {w w' : World} {g : Nat} {s : Spc} (h : SpAt w g s) (c : Chg NoChg w w') : SpAt w' g s := c.blk h (fun h => h)
theorem SpAt.cells {w : World} {g : Nat} {s : Spc} (h : SpAt w g s) : w.cell? ⟨g, 0, none⟩ = some (.int .i64 s.id) ∧ w.cell? ⟨g, 1, none⟩ = some (.int .i64 s.par) ∧ w.cell? ⟨g, 2, none⟩ = some (.bool s.leaf) ∧ w.cell? ⟨g, 3, none⟩ = some (.int .u64 (s.real.f : Int)) ∧ w.cell? ⟨g, 4, none⟩ = some (.int .u64 (s.real.l : Int)) ∧ w.cell? ⟨g, 5, none⟩ = some (.int .u64 (s.real.r : Int)) ∧ w.cell? ⟨g, 6, none⟩ = some (.int .u64 (s.share.f : Int)) ∧ w.cell? ⟨g, 7, none⟩ = some (.int .u64 (s.share.l : Int)) ∧ w.cell? ⟨g, 8, none⟩ = some (.int .u64 (s.share.r : Int)) ∧ w.cell? ⟨g, 9, none⟩ = some (.int .u64 (s.upper.f : Int)) ∧ w.cell? ⟨g, 10, none⟩ = some (.int .u64 (s.upper.l : Int)) ∧ w.cell? ⟨g, 11, none⟩ = some (.int .u64 (s.upper.r : Int)) ∧ w.cell? ⟨g, 12, none⟩ = some (.int .i64 s.pk) ∧ w.cell? ⟨g, 13, none⟩ = some (.int .i64 s.bt) :=
  ⟨Blk.cell h 0, Blk.cell h 1, Blk.cell h 2, Blk.cell h 3, Blk.cell h 4, Blk.cell h 5, Blk.cell h 6, Blk.cell h 7, Blk.cell h 8, Blk.cell h 9, Blk.cell h 10, Blk.cell h 11, Blk.cell h 12, Blk.cell h 13⟩
theorem SpAt.new (w : World) (s : Spc) : SpAt (w.alloc (.cells #[.int .i64 s.id, .int .i64 s.par, .bool s.leaf, .int .u64 (s.real.f : Int), .int .u64 (s.real.l : Int), .int .u64 (s.real.r : Int), .int .u64 (s.share.f : Int), .int .u64 (s.share.l : Int), .int .u64 (s.share.r : Int), .int .u64 (s.upper.f : Int), .int .u64 (s.upper.l : Int), .int .u64 (s.upper.r : Int), .int .i64 s.pk, .int .i64 s.bt] 26)) w.heap.size s := Blk.new _ _ _

set_option maxRecDepth 100000 in
theorem pCurves_any (s : Spc) (w : World) : Calls Tryz.prog 25 #[.agg #[.int .i64 s.id, .int .i64 s.par, .bool s.leaf, .int .u64 (s.real.f : Int), .int .u64 (s.real.l : Int), .int .u64 (s.real.r : Int), .int .u64 (s.share.f : Int), .int .u64 (s.share.l : Int), .int .u64 (s.share.r : Int), .int .u64 (s.upper.f : Int), .int .u64 (s.upper.l : Int), .int .u64 (s.upper.r : Int), .int .i64 s.pk, .int .i64 s.bt]] w fun e w' => e = .returned (.bool (decide s.real.May && (decide s.share.May && decide s.upper.May))) ∧ Chg NoChg w w' := by
  have S0 := hide (SpAt.new w s)
  have C0 := hide ((Chg.refl NoChg w).alloc (.cells #[.int .i64 s.id, .int .i64 s.par, .bool s.leaf, .int .u64 (s.real.f : Int), .int .u64 (s.real.l : Int), .int .u64 (s.real.r : Int), .int .u64 (s.share.f : Int), .int .u64 (s.share.l : Int), .int .u64 (s.share.r : Int), .int .u64 (s.upper.f : Int), .int .u64 (s.upper.l : Int), .int .u64 (s.upper.r : Int), .int .i64 s.pk, .int .i64 s.bt] 26))
  have H1 := hide (cMay_any s.real)
  have H2 := hide (cMay_any s.share)
  have H3 := hide (cMay_any s.upper)
  generalize decide s.real.May = x at H1 ⊢
  generalize decide s.share.May = y at H2 ⊢
  generalize decide s.upper.May = z at H3 ⊢
  cases x with
  | false =>
    obtain ⟨a0, a1, a2, a3, a4, a5, a6, a7, a8, a9, a10, a11, a12, a13⟩ := S0.out.cells
    go_enter Tryz.func25, Tryz.ntmps25
    go_wp2_with fail
    refine (H1.out _).mono ?_
    rintro e w1 ⟨rfl, c1⟩
    have S1 := hide (S0.out.keep c1)
    have C1 := hide (C0.out.trans' c1)
    clear c1 a0 a1 a2 a3 a4 a5 a6 a7 a8 a9 a10 a11 a12 a13
    obtain ⟨a0, a1, a2, a3, a4, a5, a6, a7, a8, a9, a10, a11, a12, a13⟩ := S1.out.cells
    go_wp2
    go_ret
    exact ⟨rfl, C1.out⟩
  | true =>
    cases y with
    | false =>
      obtain ⟨a0, a1, a2, a3, a4, a5, a6, a7, a8, a9, a10, a11, a12, a13⟩ := S0.out.cells
      go_enter Tryz.func25, Tryz.ntmps25
      go_wp2_with fail
      refine (H1.out _).mono ?_
      rintro e w1 ⟨rfl, c1⟩
      have S1 := hide (S0.out.keep c1)
      have C1 := hide (C0.out.trans' c1)
      clear c1 a0 a1 a2 a3 a4 a5 a6 a7 a8 a9 a10 a11 a12 a13
      obtain ⟨a0, a1, a2, a3, a4, a5, a6, a7, a8, a9, a10, a11, a12, a13⟩ := S1.out.cells
      go_wp2_with fail
      refine (H2.out _).mono ?_
      rintro e w2 ⟨rfl, c2⟩
      have S2 := hide (S1.out.keep c2)
      have C2 := hide (C1.out.trans' c2)
      clear c2 a0 a1 a2 a3 a4 a5 a6 a7 a8 a9 a10 a11 a12 a13
      obtain ⟨a0, a1, a2, a3, a4, a5, a6, a7, a8, a9, a10, a11, a12, a13⟩ := S2.out.cells
      go_wp2
      go_ret
      exact ⟨rfl, C2.out⟩
    | true =>
      obtain ⟨a0, a1, a2, a3, a4, a5, a6, a7, a8, a9, a10, a11, a12, a13⟩ := S0.out.cells
      go_enter Tryz.func25, Tryz.ntmps25
      go_wp2_with fail
      refine (H1.out _).mono ?_
      rintro e w1 ⟨rfl, c1⟩
      have S1 := hide (S0.out.keep c1)
      have C1 := hide (C0.out.trans' c1)
      clear c1 a0 a1 a2 a3 a4 a5 a6 a7 a8 a9 a10 a11 a12 a13
      obtain ⟨a0, a1, a2, a3, a4, a5, a6, a7, a8, a9, a10, a11, a12, a13⟩ := S1.out.cells
      go_wp2_with fail
      refine (H2.out _).mono ?_
      rintro e w2 ⟨rfl, c2⟩
      have S2 := hide (S1.out.keep c2)
      have C2 := hide (C1.out.trans' c2)
      clear c2 a0 a1 a2 a3 a4 a5 a6 a7 a8 a9 a10 a11 a12 a13
      obtain ⟨a0, a1, a2, a3, a4, a5, a6, a7, a8, a9, a10, a11, a12, a13⟩ := S2.out.cells
      go_wp2_with fail
      refine (H3.out _).mono ?_
      rintro e w3 ⟨rfl, c3⟩
      have S3 := hide (S2.out.keep c3)
      have C3 := hide (C2.out.trans' c3)
      clear c3 a0 a1 a2 a3 a4 a5 a6 a7 a8 a9 a10 a11 a12 a13
      obtain ⟨a0, a1, a2, a3, a4, a5, a6, a7, a8, a9, a10, a11, a12, a13⟩ := S3.out.cells
      go_wp2
      go_ret
      exact ⟨rfl, C3.out⟩

def Crv.goes (c : Crv) : Bool := c.none || decide (0 < c.r)
set_option maxRecDepth 100000 in
theorem pGoes_any (c : Crv) (w : World) : Calls Tryz.prog 41 #[.agg #[.int .u64 (c.f : Int), .int .u64 (c.l : Int), .int .u64 (c.r : Int)]] w fun e w' => e = .returned (.bool c.goes) ∧ Chg NoChg w w' := by
  have B0 := hide (Blk.new w #[.int .u64 (c.f : Int), .int .u64 (c.l : Int), .int .u64 (c.r : Int)] 24)
  have H1 := hide (cNone_any c)
  unfold Crv.goes
  have hd : decide ((0 : Int) < (c.r : Int)) = decide (0 < c.r) := by simp
  generalize c.none = x at H1 ⊢
  cases x with
  | true =>
    go_enter Tryz.func41, Tryz.ntmps41
    go_wp2_with fail
    refine (H1.out _).mono ?_
    rintro e w1 ⟨rfl, c1⟩
    have C1 := hide (((Chg.refl NoChg w).alloc (.cells #[.int .u64 (c.f : Int), .int .u64 (c.l : Int), .int .u64 (c.r : Int)] 24)).trans' c1)
    clear c1
    go_wp2
    go_ret
    exact ⟨rfl, C1.out⟩
  | false =>
    rw [← hd]
    go_enter Tryz.func41, Tryz.ntmps41
    go_wp2_with fail
    refine (H1.out _).mono ?_
    rintro e w1 ⟨rfl, c1⟩
    have C1 := hide (((Chg.refl NoChg w).alloc (.cells #[.int .u64 (c.f : Int), .int .u64 (c.l : Int), .int .u64 (c.r : Int)] 24)).trans' c1)
    have q := (c1.blk B0.out (fun h => h)).cell 2
    simp at q
    clear c1
    go_wp2
    go_ret
    exact ⟨by simp, C1.out⟩

set_option maxRecDepth 100000 in
theorem pShared_any (s : Spc) (w : World) : Calls Tryz.prog 27 #[.agg #[.int .i64 s.id, .int .i64 s.par, .bool s.leaf, .int .u64 (s.real.f : Int), .int .u64 (s.real.l : Int), .int .u64 (s.real.r : Int), .int .u64 (s.share.f : Int), .int .u64 (s.share.l : Int), .int .u64 (s.share.r : Int), .int .u64 (s.upper.f : Int), .int .u64 (s.upper.l : Int), .int .u64 (s.upper.r : Int), .int .i64 s.pk, .int .i64 s.bt]] w fun e w' => e = .returned (.bool (s.share.goes && (s.upper.goes && (s.upper.none || !s.share.none)))) ∧ Chg NoChg w w' := by
  have S0 := hide (SpAt.new w s)
  have C0 := hide ((Chg.refl NoChg w).alloc (.cells #[.int .i64 s.id, .int .i64 s.par, .bool s.leaf, .int .u64 (s.real.f : Int), .int .u64 (s.real.l : Int), .int .u64 (s.real.r : Int), .int .u64 (s.share.f : Int), .int .u64 (s.share.l : Int), .int .u64 (s.share.r : Int), .int .u64 (s.upper.f : Int), .int .u64 (s.upper.l : Int), .int .u64 (s.upper.r : Int), .int .i64 s.pk, .int .i64 s.bt] 26))
  have H1 := hide (pGoes_any s.share)
  have H2 := hide (pGoes_any s.upper)
  have H3 := hide (cNone_any s.upper)
  have H4 := hide (cNone_any s.share)
  generalize s.share.goes = x at H1 ⊢
  generalize s.upper.goes = y at H2 ⊢
  generalize s.upper.none = z at H3 ⊢
  generalize s.share.none = u at H4 ⊢
  cases x with
  | false =>
    obtain ⟨a0, a1, a2, a3, a4, a5, a6, a7, a8, a9, a10, a11, a12, a13⟩ := S0.out.cells
    go_enter Tryz.func27, Tryz.ntmps27
    go_wp2_with fail
    refine (H1.out _).mono ?_
    rintro e w1 ⟨rfl, c1⟩
    have S1 := hide (S0.out.keep c1)
    have C1 := hide (C0.out.trans' c1)
    clear c1 a0 a1 a2 a3 a4 a5 a6 a7 a8 a9 a10 a11 a12 a13
    obtain ⟨a0, a1, a2, a3, a4, a5, a6, a7, a8, a9, a10, a11, a12, a13⟩ := S1.out.cells
    go_wp2
    go_ret
    exact ⟨rfl, C1.out⟩
  | true =>
    cases y with
    | false =>
      obtain ⟨a0, a1, a2, a3, a4, a5, a6, a7, a8, a9, a10, a11, a12, a13⟩ := S0.out.cells
      go_enter Tryz.func27, Tryz.ntmps27
      go_wp2_with fail
      refine (H1.out _).mono ?_
      rintro e w1 ⟨rfl, c1⟩
      have S1 := hide (S0.out.keep c1)
      have C1 := hide (C0.out.trans' c1)
      clear c1 a0 a1 a2 a3 a4 a5 a6 a7 a8 a9 a10 a11 a12 a13
      obtain ⟨a0, a1, a2, a3, a4, a5, a6, a7, a8, a9, a10, a11, a12, a13⟩ := S1.out.cells
      go_wp2_with fail
      refine (H2.out _).mono ?_
      rintro e w2 ⟨rfl, c2⟩
      have S2 := hide (S1.out.keep c2)
      have C2 := hide (C1.out.trans' c2)
      clear c2 a0 a1 a2 a3 a4 a5 a6 a7 a8 a9 a10 a11 a12 a13
      obtain ⟨a0, a1, a2, a3, a4, a5, a6, a7, a8, a9, a10, a11, a12, a13⟩ := S2.out.cells
      go_wp2
      go_ret
      exact ⟨rfl, C2.out⟩
    | true =>
      cases z with
      | true =>
        obtain ⟨a0, a1, a2, a3, a4, a5, a6, a7, a8, a9, a10, a11, a12, a13⟩ := S0.out.cells
        go_enter Tryz.func27, Tryz.ntmps27
        go_wp2_with fail
        refine (H1.out _).mono ?_
        rintro e w1 ⟨rfl, c1⟩
        have S1 := hide (S0.out.keep c1)
        have C1 := hide (C0.out.trans' c1)
        clear c1 a0 a1 a2 a3 a4 a5 a6 a7 a8 a9 a10 a11 a12 a13
        obtain ⟨a0, a1, a2, a3, a4, a5, a6, a7, a8, a9, a10, a11, a12, a13⟩ := S1.out.cells
        go_wp2_with fail
        refine (H2.out _).mono ?_
        rintro e w2 ⟨rfl, c2⟩
        have S2 := hide (S1.out.keep c2)
        have C2 := hide (C1.out.trans' c2)
        clear c2 a0 a1 a2 a3 a4 a5 a6 a7 a8 a9 a10 a11 a12 a13
        obtain ⟨a0, a1, a2, a3, a4, a5, a6, a7, a8, a9, a10, a11, a12, a13⟩ := S2.out.cells
        go_wp2_with fail
        refine (H3.out _).mono ?_
        rintro e w3 ⟨rfl, c3⟩
        have S3 := hide (S2.out.keep c3)
        have C3 := hide (C2.out.trans' c3)
        clear c3 a0 a1 a2 a3 a4 a5 a6 a7 a8 a9 a10 a11 a12 a13
        obtain ⟨a0, a1, a2, a3, a4, a5, a6, a7, a8, a9, a10, a11, a12, a13⟩ := S3.out.cells
        go_wp2
        go_ret
        exact ⟨rfl, C3.out⟩
      | false =>
        obtain ⟨a0, a1, a2, a3, a4, a5, a6, a7, a8, a9, a10, a11, a12, a13⟩ := S0.out.cells
        go_enter Tryz.func27, Tryz.ntmps27
        go_wp2_with fail
        refine (H1.out _).mono ?_
        rintro e w1 ⟨rfl, c1⟩
        have S1 := hide (S0.out.keep c1)
        have C1 := hide (C0.out.trans' c1)
        clear c1 a0 a1 a2 a3 a4 a5 a6 a7 a8 a9 a10 a11 a12 a13
        obtain ⟨a0, a1, a2, a3, a4, a5, a6, a7, a8, a9, a10, a11, a12, a13⟩ := S1.out.cells
        go_wp2_with fail
        refine (H2.out _).mono ?_
        rintro e w2 ⟨rfl, c2⟩
        have S2 := hide (S1.out.keep c2)
        have C2 := hide (C1.out.trans' c2)
        clear c2 a0 a1 a2 a3 a4 a5 a6 a7 a8 a9 a10 a11 a12 a13
        obtain ⟨a0, a1, a2, a3, a4, a5, a6, a7, a8, a9, a10, a11, a12, a13⟩ := S2.out.cells
        go_wp2_with fail
        refine (H3.out _).mono ?_
        rintro e w3 ⟨rfl, c3⟩
        have S3 := hide (S2.out.keep c3)
        have C3 := hide (C2.out.trans' c3)
        clear c3 a0 a1 a2 a3 a4 a5 a6 a7 a8 a9 a10 a11 a12 a13
        obtain ⟨a0, a1, a2, a3, a4, a5, a6, a7, a8, a9, a10, a11, a12, a13⟩ := S3.out.cells
        go_wp2_with fail
        refine (H4.out _).mono ?_
        rintro e w4 ⟨rfl, c4⟩
        have S4 := hide (S3.out.keep c4)
        have C4 := hide (C3.out.trans' c4)
        clear c4 a0 a1 a2 a3 a4 a5 a6 a7 a8 a9 a10 a11 a12 a13
        obtain ⟨a0, a1, a2, a3, a4, a5, a6, a7, a8, a9, a10, a11, a12, a13⟩ := S4.out.cells
        go_wp2
        go_ret
        exact ⟨rfl, C4.out⟩

def Spc.under (s : Spc) : Bool := s.real.none || (s.upper.none || (decide (s.real.r ≤ s.upper.r) && (s.real.leAt s.upper s.real.l && s.real.leAt s.upper s.upper.l)))

set_option maxRecDepth 100000 in
theorem pUnder_any (s : Spc) (hr : s.real.May) (hu : s.upper.May) (w : World) : Calls Tryz.prog 28 #[.agg #[.int .i64 s.id, .int .i64 s.par, .bool s.leaf, .int .u64 (s.real.f : Int), .int .u64 (s.real.l : Int), .int .u64 (s.real.r : Int), .int .u64 (s.share.f : Int), .int .u64 (s.share.l : Int), .int .u64 (s.share.r : Int), .int .u64 (s.upper.f : Int), .int .u64 (s.upper.l : Int), .int .u64 (s.upper.r : Int), .int .i64 s.pk, .int .i64 s.bt]] w fun e w' => e = .returned (.bool s.under) ∧ Chg NoChg w w' := by
  have S0 := hide (SpAt.new w s)
  have C0 := hide ((Chg.refl NoChg w).alloc (.cells #[.int .i64 s.id, .int .i64 s.par, .bool s.leaf, .int .u64 (s.real.f : Int), .int .u64 (s.real.l : Int), .int .u64 (s.real.r : Int), .int .u64 (s.share.f : Int), .int .u64 (s.share.l : Int), .int .u64 (s.share.r : Int), .int .u64 (s.upper.f : Int), .int .u64 (s.upper.l : Int), .int .u64 (s.upper.r : Int), .int .i64 s.pk, .int .i64 s.bt] 26))
  have H1 := hide (cNone_any s.real)
  have H2 := hide (cNone_any s.upper)
  have H3 := hide (sBelow_may s.real s.upper hr hu)
  unfold Spc.under
  clear hr hu
  generalize (decide (s.real.r ≤ s.upper.r) && (s.real.leAt s.upper s.real.l && s.real.leAt s.upper s.upper.l)) = z at H3 ⊢
  generalize s.real.none = x at H1 ⊢
  generalize s.upper.none = y at H2 ⊢
  cases x with
  | true =>
    obtain ⟨a0, a1, a2, a3, a4, a5, a6, a7, a8, a9, a10, a11, a12, a13⟩ := S0.out.cells
    go_enter Tryz.func28, Tryz.ntmps28
    go_wp2_with fail
    refine (H1.out _).mono ?_
    rintro e w1 ⟨rfl, c1⟩
    have S1 := hide (S0.out.keep c1)
    have C1 := hide (C0.out.trans' c1)
    clear c1 a0 a1 a2 a3 a4 a5 a6 a7 a8 a9 a10 a11 a12 a13
    obtain ⟨a0, a1, a2, a3, a4, a5, a6, a7, a8, a9, a10, a11, a12, a13⟩ := S1.out.cells
    go_wp2
    go_ret
    exact ⟨rfl, C1.out⟩
  | false =>
    cases y with
    | true =>
      obtain ⟨a0, a1, a2, a3, a4, a5, a6, a7, a8, a9, a10, a11, a12, a13⟩ := S0.out.cells
      go_enter Tryz.func28, Tryz.ntmps28
      go_wp2_with fail
      refine (H1.out _).mono ?_
      rintro e w1 ⟨rfl, c1⟩
      have S1 := hide (S0.out.keep c1)
      have C1 := hide (C0.out.trans' c1)
      clear c1 a0 a1 a2 a3 a4 a5 a6 a7 a8 a9 a10 a11 a12 a13
      obtain ⟨a0, a1, a2, a3, a4, a5, a6, a7, a8, a9, a10, a11, a12, a13⟩ := S1.out.cells
      go_wp2_with fail
      refine (H2.out _).mono ?_
      rintro e w2 ⟨rfl, c2⟩
      have S2 := hide (S1.out.keep c2)
      have C2 := hide (C1.out.trans' c2)
      clear c2 a0 a1 a2 a3 a4 a5 a6 a7 a8 a9 a10 a11 a12 a13
      obtain ⟨a0, a1, a2, a3, a4, a5, a6, a7, a8, a9, a10, a11, a12, a13⟩ := S2.out.cells
      go_wp2
      go_ret
      exact ⟨rfl, C2.out⟩
    | false =>
      obtain ⟨a0, a1, a2, a3, a4, a5, a6, a7, a8, a9, a10, a11, a12, a13⟩ := S0.out.cells
      go_enter Tryz.func28, Tryz.ntmps28
      go_wp2_with fail
      refine (H1.out _).mono ?_
      rintro e w1 ⟨rfl, c1⟩
      have S1 := hide (S0.out.keep c1)
      have C1 := hide (C0.out.trans' c1)
      clear c1 a0 a1 a2 a3 a4 a5 a6 a7 a8 a9 a10 a11 a12 a13
      obtain ⟨a0, a1, a2, a3, a4, a5, a6, a7, a8, a9, a10, a11, a12, a13⟩ := S1.out.cells
      go_wp2_with fail
      refine (H2.out _).mono ?_
      rintro e w2 ⟨rfl, c2⟩
      have S2 := hide (S1.out.keep c2)
      have C2 := hide (C1.out.trans' c2)
      clear c2 a0 a1 a2 a3 a4 a5 a6 a7 a8 a9 a10 a11 a12 a13
      obtain ⟨a0, a1, a2, a3, a4, a5, a6, a7, a8, a9, a10, a11, a12, a13⟩ := S2.out.cells
      go_wp2_with fail
      refine (H3.out _).mono ?_
      rintro e w3 ⟨rfl, c3⟩
      have S3 := hide (S2.out.keep c3)
      have C3 := hide (C2.out.trans' c3)
      clear c3 a0 a1 a2 a3 a4 a5 a6 a7 a8 a9 a10 a11 a12 a13
      obtain ⟨a0, a1, a2, a3, a4, a5, a6, a7, a8, a9, a10, a11, a12, a13⟩ := S3.out.cells
      go_wp2
      go_ret
      exact ⟨rfl, C3.out⟩

end Go.Proofs.YtofgajlpdnokdaaGreatDoor
