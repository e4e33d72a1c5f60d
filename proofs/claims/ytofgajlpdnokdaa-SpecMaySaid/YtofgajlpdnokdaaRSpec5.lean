/- The document: an inner class. -/
import Derived.Test.YtofgajlpdnokdaaRSpec2
import Derived.Deep.RegionHeld3
namespace Go.Proofs.Ytofgajlpdnokdaa
set_option linter.unusedVariables false
open Go.RowKit

set_option maxRecDepth 100000 in
set_option maxHeartbeats 8000000 in
theorem r13i_ft (s : Spc) (g0 : 1 ≤ s.id) (g1 : s.id ≤ 65535) (g2 : 0 ≤ s.par) (g3 : s.par ≤ 65535) (g4 : ¬ s.par = s.id) (m1 : s.real.May) (m2 : s.share.May) (m3 : s.upper.May) (hx : s.real.none = false) (hy : s.share.none = true) (w : World) : Calls Try.prog 5 #[.agg #[.int .i64 s.id, .int .i64 s.par, .bool false, .int .u64 (s.real.f : Int), .int .u64 (s.real.l : Int), .int .u64 (s.real.r : Int), .int .u64 (s.share.f : Int), .int .u64 (s.share.l : Int), .int .u64 (s.share.r : Int), .int .u64 (s.upper.f : Int), .int .u64 (s.upper.l : Int), .int .u64 (s.upper.r : Int), .int .i64 s.pk, .int .i64 s.bt]] w fun e w' => e = .returned (.int .i64 (s.restE false)) ∧ Chg NoChg w w' := by
  have g5 : (s.par == s.id) = false := by simpa using g4
  have M1 := hide (r03May_any s.real)
  have M2 := hide (r03May_any s.share)
  have M3 := hide (r03May_any s.upper)
  rw [crv_true m1] at M1
  rw [crv_true m2] at M2
  rw [crv_true m3] at M3
  have N1 := hide (r03None_any s.real)
  have N2 := hide (r03None_any s.share)
  have N3 := hide (r03None_any s.upper)
  have BB := hide (r04Below_may s.real s.upper m1 m3)
  rw [← below_same _ _ m1 m3] at BB
  have HX := hide hx
  have HY := hide hy
  rw [hx] at N1
  rw [hy] at N2
  clear g4 m1 m2 m3 hx hy
  have hs : s.shapedB false = false := by simp [Spc.shapedB, HX.out]
  have hE : s.restE false = 130 := restE_1 hs
  rw [hE]
  clear hE hs
  have S0 := hide (SpbAt.new w s false)
  have C0 := hide ((Chg.refl NoChg w).alloc (.cells #[.int .i64 s.id, .int .i64 s.par, .bool false, .int .u64 (s.real.f : Int), .int .u64 (s.real.l : Int), .int .u64 (s.real.r : Int), .int .u64 (s.share.f : Int), .int .u64 (s.share.l : Int), .int .u64 (s.share.r : Int), .int .u64 (s.upper.f : Int), .int .u64 (s.upper.l : Int), .int .u64 (s.upper.r : Int), .int .i64 s.pk, .int .i64 s.bt] 26))
  obtain ⟨a0, a1, a2, a3, a4, a5, a6, a7, a8, a9, a10, a11, a12, a13⟩ := S0.out.cells
  go_enter Try.func5, Try.ntmps5
  go_wp2_with fail
  refine (M1.out _).mono ?_
  rintro e w1 ⟨rfl, c1⟩
  have S1 := hide (S0.out.keep c1)
  have C1 := hide (C0.out.trans' c1)
  clear c1 a0 a1 a2 a3 a4 a5 a6 a7 a8 a9 a10 a11 a12 a13
  obtain ⟨a0, a1, a2, a3, a4, a5, a6, a7, a8, a9, a10, a11, a12, a13⟩ := S1.out.cells
  go_wp2_with fail
  refine (M2.out _).mono ?_
  rintro e w2 ⟨rfl, c2⟩
  have S2 := hide (S1.out.keep c2)
  have C2 := hide (C1.out.trans' c2)
  clear c2 a0 a1 a2 a3 a4 a5 a6 a7 a8 a9 a10 a11 a12 a13
  obtain ⟨a0, a1, a2, a3, a4, a5, a6, a7, a8, a9, a10, a11, a12, a13⟩ := S2.out.cells
  go_wp2_with fail
  refine (M3.out _).mono ?_
  rintro e w3 ⟨rfl, c3⟩
  have S3 := hide (S2.out.keep c3)
  have C3 := hide (C2.out.trans' c3)
  clear c3 a0 a1 a2 a3 a4 a5 a6 a7 a8 a9 a10 a11 a12 a13
  obtain ⟨a0, a1, a2, a3, a4, a5, a6, a7, a8, a9, a10, a11, a12, a13⟩ := S3.out.cells
  have KEEP := hide (fun (w' : World) (c : Chg NoChg w3 w') => S3.out.curves9 c)
  go_wp2
  go_region_held3 (fun w' : World => w'.cell? ⟨w.heap.size, 3, none⟩ = some (.int .u64 (s.real.f : Int)) ∧ w'.cell? ⟨w.heap.size, 4, none⟩ = some (.int .u64 (s.real.l : Int)) ∧ w'.cell? ⟨w.heap.size, 5, none⟩ = some (.int .u64 (s.real.r : Int)) ∧ w'.cell? ⟨w.heap.size, 6, none⟩ = some (.int .u64 (s.share.f : Int)) ∧ w'.cell? ⟨w.heap.size, 7, none⟩ = some (.int .u64 (s.share.l : Int)) ∧ w'.cell? ⟨w.heap.size, 8, none⟩ = some (.int .u64 (s.share.r : Int)) ∧ w'.cell? ⟨w.heap.size, 9, none⟩ = some (.int .u64 (s.upper.f : Int)) ∧ w'.cell? ⟨w.heap.size, 10, none⟩ = some (.int .u64 (s.upper.l : Int)) ∧ w'.cell? ⟨w.heap.size, 11, none⟩ = some (.int .u64 (s.upper.r : Int))) (exact KEEP.out _ (by (repeat' (first | (with_reducible exact Chg.refl _ _) | (with_reducible assumption) | (with_reducible refine Chg.alloc ?_ _) | (with_reducible refine Chg.drewN ?_ _) | (with_reducible refine Chg.drew ?_) | (with_reducible refine Chg.setCell ?_ _ ?_) | (apply Or.inl; with_reducible rfl) | (apply Or.inl; simp; done) | (apply Or.inr; simp; done) | (apply Or.inr; simp; omega))))) (first | (go_at_call 16; with_reducible refine (N1.out _).mono ?_; rintro e w4 ⟨rfl, c4⟩; replace c4 : Chg NoChg w3 w4 := Chg.trans' (by (repeat' (first | (with_reducible exact Chg.refl _ _) | (with_reducible assumption) | (with_reducible refine Chg.alloc ?_ _) | (with_reducible refine Chg.drewN ?_ _) | (with_reducible refine Chg.drew ?_) | (with_reducible refine Chg.setCell ?_ _ ?_) | (apply Or.inl; with_reducible rfl) | (apply Or.inl; simp; done) | (apply Or.inr; simp; done) | (apply Or.inr; simp; omega)))) c4) | (go_at_call 16; with_reducible refine (N2.out _).mono ?_; rintro e w5 ⟨rfl, c5⟩; replace c5 : Chg NoChg w3 w5 := Chg.trans' (by (repeat' (first | (with_reducible exact Chg.refl _ _) | (with_reducible assumption) | (with_reducible refine Chg.alloc ?_ _) | (with_reducible refine Chg.drewN ?_ _) | (with_reducible refine Chg.drew ?_) | (with_reducible refine Chg.setCell ?_ _ ?_) | (apply Or.inl; with_reducible rfl) | (apply Or.inl; simp; done) | (apply Or.inr; simp; done) | (apply Or.inr; simp; omega)))) c5) | (go_at_call 16; with_reducible refine (N3.out _).mono ?_; rintro e w6 ⟨rfl, c6⟩; replace c6 : Chg NoChg w3 w6 := Chg.trans' (by (repeat' (first | (with_reducible exact Chg.refl _ _) | (with_reducible assumption) | (with_reducible refine Chg.alloc ?_ _) | (with_reducible refine Chg.drewN ?_ _) | (with_reducible refine Chg.drew ?_) | (with_reducible refine Chg.setCell ?_ _ ?_) | (apply Or.inl; with_reducible rfl) | (apply Or.inl; simp; done) | (apply Or.inr; simp; done) | (apply Or.inr; simp; omega)))) c6))
  have S6 := hide (S3.out.keep c6)
  have C6 := hide (C3.out.trans' c6)
  clear c4 c5 c6 a0 a1 a2 a3 a4 a5 a6 a7 a8 a9 a10 a11 a12 a13
  obtain ⟨a0, a1, a2, a3, a4, a5, a6, a7, a8, a9, a10, a11, a12, a13⟩ := S6.out.cells
  go_wp2
  go_ret
  exact ⟨rfl, C6.out⟩

set_option maxRecDepth 100000 in
set_option maxHeartbeats 8000000 in
theorem r13i_ff (s : Spc) (g0 : 1 ≤ s.id) (g1 : s.id ≤ 65535) (g2 : 0 ≤ s.par) (g3 : s.par ≤ 65535) (g4 : ¬ s.par = s.id) (m1 : s.real.May) (m2 : s.share.May) (m3 : s.upper.May) (hx : s.real.none = false) (hy : s.share.none = false) (w : World) : Calls Try.prog 5 #[.agg #[.int .i64 s.id, .int .i64 s.par, .bool false, .int .u64 (s.real.f : Int), .int .u64 (s.real.l : Int), .int .u64 (s.real.r : Int), .int .u64 (s.share.f : Int), .int .u64 (s.share.l : Int), .int .u64 (s.share.r : Int), .int .u64 (s.upper.f : Int), .int .u64 (s.upper.l : Int), .int .u64 (s.upper.r : Int), .int .i64 s.pk, .int .i64 s.bt]] w fun e w' => e = .returned (.int .i64 (s.restE false)) ∧ Chg NoChg w w' := by
  have g5 : (s.par == s.id) = false := by simpa using g4
  have M1 := hide (r03May_any s.real)
  have M2 := hide (r03May_any s.share)
  have M3 := hide (r03May_any s.upper)
  rw [crv_true m1] at M1
  rw [crv_true m2] at M2
  rw [crv_true m3] at M3
  have N1 := hide (r03None_any s.real)
  have N2 := hide (r03None_any s.share)
  have N3 := hide (r03None_any s.upper)
  have BB := hide (r04Below_may s.real s.upper m1 m3)
  rw [← below_same _ _ m1 m3] at BB
  have HX := hide hx
  have HY := hide hy
  rw [hx] at N1
  rw [hy] at N2
  clear g4 m1 m2 m3 hx hy
  have hs : s.shapedB false = false := by simp [Spc.shapedB, HX.out]
  have hE : s.restE false = 130 := restE_1 hs
  rw [hE]
  clear hE hs
  have S0 := hide (SpbAt.new w s false)
  have C0 := hide ((Chg.refl NoChg w).alloc (.cells #[.int .i64 s.id, .int .i64 s.par, .bool false, .int .u64 (s.real.f : Int), .int .u64 (s.real.l : Int), .int .u64 (s.real.r : Int), .int .u64 (s.share.f : Int), .int .u64 (s.share.l : Int), .int .u64 (s.share.r : Int), .int .u64 (s.upper.f : Int), .int .u64 (s.upper.l : Int), .int .u64 (s.upper.r : Int), .int .i64 s.pk, .int .i64 s.bt] 26))
  obtain ⟨a0, a1, a2, a3, a4, a5, a6, a7, a8, a9, a10, a11, a12, a13⟩ := S0.out.cells
  go_enter Try.func5, Try.ntmps5
  go_wp2_with fail
  refine (M1.out _).mono ?_
  rintro e w1 ⟨rfl, c1⟩
  have S1 := hide (S0.out.keep c1)
  have C1 := hide (C0.out.trans' c1)
  clear c1 a0 a1 a2 a3 a4 a5 a6 a7 a8 a9 a10 a11 a12 a13
  obtain ⟨a0, a1, a2, a3, a4, a5, a6, a7, a8, a9, a10, a11, a12, a13⟩ := S1.out.cells
  go_wp2_with fail
  refine (M2.out _).mono ?_
  rintro e w2 ⟨rfl, c2⟩
  have S2 := hide (S1.out.keep c2)
  have C2 := hide (C1.out.trans' c2)
  clear c2 a0 a1 a2 a3 a4 a5 a6 a7 a8 a9 a10 a11 a12 a13
  obtain ⟨a0, a1, a2, a3, a4, a5, a6, a7, a8, a9, a10, a11, a12, a13⟩ := S2.out.cells
  go_wp2_with fail
  refine (M3.out _).mono ?_
  rintro e w3 ⟨rfl, c3⟩
  have S3 := hide (S2.out.keep c3)
  have C3 := hide (C2.out.trans' c3)
  clear c3 a0 a1 a2 a3 a4 a5 a6 a7 a8 a9 a10 a11 a12 a13
  obtain ⟨a0, a1, a2, a3, a4, a5, a6, a7, a8, a9, a10, a11, a12, a13⟩ := S3.out.cells
  have KEEP := hide (fun (w' : World) (c : Chg NoChg w3 w') => S3.out.curves9 c)
  go_wp2
  go_region_held3 (fun w' : World => w'.cell? ⟨w.heap.size, 3, none⟩ = some (.int .u64 (s.real.f : Int)) ∧ w'.cell? ⟨w.heap.size, 4, none⟩ = some (.int .u64 (s.real.l : Int)) ∧ w'.cell? ⟨w.heap.size, 5, none⟩ = some (.int .u64 (s.real.r : Int)) ∧ w'.cell? ⟨w.heap.size, 6, none⟩ = some (.int .u64 (s.share.f : Int)) ∧ w'.cell? ⟨w.heap.size, 7, none⟩ = some (.int .u64 (s.share.l : Int)) ∧ w'.cell? ⟨w.heap.size, 8, none⟩ = some (.int .u64 (s.share.r : Int)) ∧ w'.cell? ⟨w.heap.size, 9, none⟩ = some (.int .u64 (s.upper.f : Int)) ∧ w'.cell? ⟨w.heap.size, 10, none⟩ = some (.int .u64 (s.upper.l : Int)) ∧ w'.cell? ⟨w.heap.size, 11, none⟩ = some (.int .u64 (s.upper.r : Int))) (exact KEEP.out _ (by (repeat' (first | (with_reducible exact Chg.refl _ _) | (with_reducible assumption) | (with_reducible refine Chg.alloc ?_ _) | (with_reducible refine Chg.drewN ?_ _) | (with_reducible refine Chg.drew ?_) | (with_reducible refine Chg.setCell ?_ _ ?_) | (apply Or.inl; with_reducible rfl) | (apply Or.inl; simp; done) | (apply Or.inr; simp; done) | (apply Or.inr; simp; omega))))) (first | (go_at_call 16; with_reducible refine (N1.out _).mono ?_; rintro e w4 ⟨rfl, c4⟩; replace c4 : Chg NoChg w3 w4 := Chg.trans' (by (repeat' (first | (with_reducible exact Chg.refl _ _) | (with_reducible assumption) | (with_reducible refine Chg.alloc ?_ _) | (with_reducible refine Chg.drewN ?_ _) | (with_reducible refine Chg.drew ?_) | (with_reducible refine Chg.setCell ?_ _ ?_) | (apply Or.inl; with_reducible rfl) | (apply Or.inl; simp; done) | (apply Or.inr; simp; done) | (apply Or.inr; simp; omega)))) c4) | (go_at_call 16; with_reducible refine (N2.out _).mono ?_; rintro e w5 ⟨rfl, c5⟩; replace c5 : Chg NoChg w3 w5 := Chg.trans' (by (repeat' (first | (with_reducible exact Chg.refl _ _) | (with_reducible assumption) | (with_reducible refine Chg.alloc ?_ _) | (with_reducible refine Chg.drewN ?_ _) | (with_reducible refine Chg.drew ?_) | (with_reducible refine Chg.setCell ?_ _ ?_) | (apply Or.inl; with_reducible rfl) | (apply Or.inl; simp; done) | (apply Or.inr; simp; done) | (apply Or.inr; simp; omega)))) c5) | (go_at_call 16; with_reducible refine (N3.out _).mono ?_; rintro e w6 ⟨rfl, c6⟩; replace c6 : Chg NoChg w3 w6 := Chg.trans' (by (repeat' (first | (with_reducible exact Chg.refl _ _) | (with_reducible assumption) | (with_reducible refine Chg.alloc ?_ _) | (with_reducible refine Chg.drewN ?_ _) | (with_reducible refine Chg.drew ?_) | (with_reducible refine Chg.setCell ?_ _ ?_) | (apply Or.inl; with_reducible rfl) | (apply Or.inl; simp; done) | (apply Or.inr; simp; done) | (apply Or.inr; simp; omega)))) c6))
  have S6 := hide (S3.out.keep c6)
  have C6 := hide (C3.out.trans' c6)
  clear c4 c5 c6 a0 a1 a2 a3 a4 a5 a6 a7 a8 a9 a10 a11 a12 a13
  obtain ⟨a0, a1, a2, a3, a4, a5, a6, a7, a8, a9, a10, a11, a12, a13⟩ := S6.out.cells
  go_wp2
  go_ret
  exact ⟨rfl, C6.out⟩

set_option maxRecDepth 100000 in
set_option maxHeartbeats 8000000 in
theorem r13i_tt (s : Spc) (g0 : 1 ≤ s.id) (g1 : s.id ≤ 65535) (g2 : 0 ≤ s.par) (g3 : s.par ≤ 65535) (g4 : ¬ s.par = s.id) (m1 : s.real.May) (m2 : s.share.May) (m3 : s.upper.May) (hx : s.real.none = true) (hy : s.share.none = true) (w : World) : Calls Try.prog 5 #[.agg #[.int .i64 s.id, .int .i64 s.par, .bool false, .int .u64 (s.real.f : Int), .int .u64 (s.real.l : Int), .int .u64 (s.real.r : Int), .int .u64 (s.share.f : Int), .int .u64 (s.share.l : Int), .int .u64 (s.share.r : Int), .int .u64 (s.upper.f : Int), .int .u64 (s.upper.l : Int), .int .u64 (s.upper.r : Int), .int .i64 s.pk, .int .i64 s.bt]] w fun e w' => e = .returned (.int .i64 (s.restE false)) ∧ Chg NoChg w w' := by
  have g5 : (s.par == s.id) = false := by simpa using g4
  have M1 := hide (r03May_any s.real)
  have M2 := hide (r03May_any s.share)
  have M3 := hide (r03May_any s.upper)
  rw [crv_true m1] at M1
  rw [crv_true m2] at M2
  rw [crv_true m3] at M3
  have N1 := hide (r03None_any s.real)
  have N2 := hide (r03None_any s.share)
  have N3 := hide (r03None_any s.upper)
  have BB := hide (r04Below_may s.real s.upper m1 m3)
  rw [← below_same _ _ m1 m3] at BB
  have HX := hide hx
  have HY := hide hy
  rw [hx] at N1
  rw [hy] at N2
  clear g4 m1 m2 m3 hx hy
  have hs : s.shapedB false = false := by simp [Spc.shapedB, HY.out]
  have hE : s.restE false = 130 := restE_1 hs
  rw [hE]
  clear hE hs
  have S0 := hide (SpbAt.new w s false)
  have C0 := hide ((Chg.refl NoChg w).alloc (.cells #[.int .i64 s.id, .int .i64 s.par, .bool false, .int .u64 (s.real.f : Int), .int .u64 (s.real.l : Int), .int .u64 (s.real.r : Int), .int .u64 (s.share.f : Int), .int .u64 (s.share.l : Int), .int .u64 (s.share.r : Int), .int .u64 (s.upper.f : Int), .int .u64 (s.upper.l : Int), .int .u64 (s.upper.r : Int), .int .i64 s.pk, .int .i64 s.bt] 26))
  obtain ⟨a0, a1, a2, a3, a4, a5, a6, a7, a8, a9, a10, a11, a12, a13⟩ := S0.out.cells
  go_enter Try.func5, Try.ntmps5
  go_wp2_with fail
  refine (M1.out _).mono ?_
  rintro e w1 ⟨rfl, c1⟩
  have S1 := hide (S0.out.keep c1)
  have C1 := hide (C0.out.trans' c1)
  clear c1 a0 a1 a2 a3 a4 a5 a6 a7 a8 a9 a10 a11 a12 a13
  obtain ⟨a0, a1, a2, a3, a4, a5, a6, a7, a8, a9, a10, a11, a12, a13⟩ := S1.out.cells
  go_wp2_with fail
  refine (M2.out _).mono ?_
  rintro e w2 ⟨rfl, c2⟩
  have S2 := hide (S1.out.keep c2)
  have C2 := hide (C1.out.trans' c2)
  clear c2 a0 a1 a2 a3 a4 a5 a6 a7 a8 a9 a10 a11 a12 a13
  obtain ⟨a0, a1, a2, a3, a4, a5, a6, a7, a8, a9, a10, a11, a12, a13⟩ := S2.out.cells
  go_wp2_with fail
  refine (M3.out _).mono ?_
  rintro e w3 ⟨rfl, c3⟩
  have S3 := hide (S2.out.keep c3)
  have C3 := hide (C2.out.trans' c3)
  clear c3 a0 a1 a2 a3 a4 a5 a6 a7 a8 a9 a10 a11 a12 a13
  obtain ⟨a0, a1, a2, a3, a4, a5, a6, a7, a8, a9, a10, a11, a12, a13⟩ := S3.out.cells
  have KEEP := hide (fun (w' : World) (c : Chg NoChg w3 w') => S3.out.curves9 c)
  go_wp2
  go_region_held3 (fun w' : World => w'.cell? ⟨w.heap.size, 3, none⟩ = some (.int .u64 (s.real.f : Int)) ∧ w'.cell? ⟨w.heap.size, 4, none⟩ = some (.int .u64 (s.real.l : Int)) ∧ w'.cell? ⟨w.heap.size, 5, none⟩ = some (.int .u64 (s.real.r : Int)) ∧ w'.cell? ⟨w.heap.size, 6, none⟩ = some (.int .u64 (s.share.f : Int)) ∧ w'.cell? ⟨w.heap.size, 7, none⟩ = some (.int .u64 (s.share.l : Int)) ∧ w'.cell? ⟨w.heap.size, 8, none⟩ = some (.int .u64 (s.share.r : Int)) ∧ w'.cell? ⟨w.heap.size, 9, none⟩ = some (.int .u64 (s.upper.f : Int)) ∧ w'.cell? ⟨w.heap.size, 10, none⟩ = some (.int .u64 (s.upper.l : Int)) ∧ w'.cell? ⟨w.heap.size, 11, none⟩ = some (.int .u64 (s.upper.r : Int))) (exact KEEP.out _ (by (repeat' (first | (with_reducible exact Chg.refl _ _) | (with_reducible assumption) | (with_reducible refine Chg.alloc ?_ _) | (with_reducible refine Chg.drewN ?_ _) | (with_reducible refine Chg.drew ?_) | (with_reducible refine Chg.setCell ?_ _ ?_) | (apply Or.inl; with_reducible rfl) | (apply Or.inl; simp; done) | (apply Or.inr; simp; done) | (apply Or.inr; simp; omega))))) (first | (go_at_call 16; with_reducible refine (N1.out _).mono ?_; rintro e w4 ⟨rfl, c4⟩; replace c4 : Chg NoChg w3 w4 := Chg.trans' (by (repeat' (first | (with_reducible exact Chg.refl _ _) | (with_reducible assumption) | (with_reducible refine Chg.alloc ?_ _) | (with_reducible refine Chg.drewN ?_ _) | (with_reducible refine Chg.drew ?_) | (with_reducible refine Chg.setCell ?_ _ ?_) | (apply Or.inl; with_reducible rfl) | (apply Or.inl; simp; done) | (apply Or.inr; simp; done) | (apply Or.inr; simp; omega)))) c4) | (go_at_call 16; with_reducible refine (N2.out _).mono ?_; rintro e w5 ⟨rfl, c5⟩; replace c5 : Chg NoChg w3 w5 := Chg.trans' (by (repeat' (first | (with_reducible exact Chg.refl _ _) | (with_reducible assumption) | (with_reducible refine Chg.alloc ?_ _) | (with_reducible refine Chg.drewN ?_ _) | (with_reducible refine Chg.drew ?_) | (with_reducible refine Chg.setCell ?_ _ ?_) | (apply Or.inl; with_reducible rfl) | (apply Or.inl; simp; done) | (apply Or.inr; simp; done) | (apply Or.inr; simp; omega)))) c5) | (go_at_call 16; with_reducible refine (N3.out _).mono ?_; rintro e w6 ⟨rfl, c6⟩; replace c6 : Chg NoChg w3 w6 := Chg.trans' (by (repeat' (first | (with_reducible exact Chg.refl _ _) | (with_reducible assumption) | (with_reducible refine Chg.alloc ?_ _) | (with_reducible refine Chg.drewN ?_ _) | (with_reducible refine Chg.drew ?_) | (with_reducible refine Chg.setCell ?_ _ ?_) | (apply Or.inl; with_reducible rfl) | (apply Or.inl; simp; done) | (apply Or.inr; simp; done) | (apply Or.inr; simp; omega)))) c6))
  have S6 := hide (S3.out.keep c6)
  have C6 := hide (C3.out.trans' c6)
  clear c4 c5 c6 a0 a1 a2 a3 a4 a5 a6 a7 a8 a9 a10 a11 a12 a13
  obtain ⟨a0, a1, a2, a3, a4, a5, a6, a7, a8, a9, a10, a11, a12, a13⟩ := S6.out.cells
  go_wp2
  go_ret
  exact ⟨rfl, C6.out⟩

set_option maxRecDepth 100000 in
set_option maxHeartbeats 8000000 in
theorem r13i_tf (s : Spc) (g0 : 1 ≤ s.id) (g1 : s.id ≤ 65535) (g2 : 0 ≤ s.par) (g3 : s.par ≤ 65535) (g4 : ¬ s.par = s.id) (m1 : s.real.May) (m2 : s.share.May) (m3 : s.upper.May) (hx : s.real.none = true) (hy : s.share.none = false) (w : World) : Calls Try.prog 5 #[.agg #[.int .i64 s.id, .int .i64 s.par, .bool false, .int .u64 (s.real.f : Int), .int .u64 (s.real.l : Int), .int .u64 (s.real.r : Int), .int .u64 (s.share.f : Int), .int .u64 (s.share.l : Int), .int .u64 (s.share.r : Int), .int .u64 (s.upper.f : Int), .int .u64 (s.upper.l : Int), .int .u64 (s.upper.r : Int), .int .i64 s.pk, .int .i64 s.bt]] w fun e w' => e = .returned (.int .i64 (s.restE false)) ∧ Chg NoChg w w' := by
  have g5 : (s.par == s.id) = false := by simpa using g4
  have M1 := hide (r03May_any s.real)
  have M2 := hide (r03May_any s.share)
  have M3 := hide (r03May_any s.upper)
  rw [crv_true m1] at M1
  rw [crv_true m2] at M2
  rw [crv_true m3] at M3
  have N1 := hide (r03None_any s.real)
  have N2 := hide (r03None_any s.share)
  have N3 := hide (r03None_any s.upper)
  have BB := hide (r04Below_may s.real s.upper m1 m3)
  rw [← below_same _ _ m1 m3] at BB
  have HX := hide hx
  have HY := hide hy
  rw [hx] at N1
  rw [hy] at N2
  clear g4 m1 m2 m3 hx hy
  by_cases p0 : s.pk = 0
  case neg =>
    have hs : s.shapedB false = false := by simp [Spc.shapedB, p0]
    have g9 : (s.pk != 0) = true := by simpa using p0
    clear p0
    have hE : s.restE false = 130 := restE_1 hs
    rw [hE]
    clear hE hs
    have S0 := hide (SpbAt.new w s false)
    have C0 := hide ((Chg.refl NoChg w).alloc (.cells #[.int .i64 s.id, .int .i64 s.par, .bool false, .int .u64 (s.real.f : Int), .int .u64 (s.real.l : Int), .int .u64 (s.real.r : Int), .int .u64 (s.share.f : Int), .int .u64 (s.share.l : Int), .int .u64 (s.share.r : Int), .int .u64 (s.upper.f : Int), .int .u64 (s.upper.l : Int), .int .u64 (s.upper.r : Int), .int .i64 s.pk, .int .i64 s.bt] 26))
    obtain ⟨a0, a1, a2, a3, a4, a5, a6, a7, a8, a9, a10, a11, a12, a13⟩ := S0.out.cells
    go_enter Try.func5, Try.ntmps5
    go_wp2_with fail
    refine (M1.out _).mono ?_
    rintro e w1 ⟨rfl, c1⟩
    have S1 := hide (S0.out.keep c1)
    have C1 := hide (C0.out.trans' c1)
    clear c1 a0 a1 a2 a3 a4 a5 a6 a7 a8 a9 a10 a11 a12 a13
    obtain ⟨a0, a1, a2, a3, a4, a5, a6, a7, a8, a9, a10, a11, a12, a13⟩ := S1.out.cells
    go_wp2_with fail
    refine (M2.out _).mono ?_
    rintro e w2 ⟨rfl, c2⟩
    have S2 := hide (S1.out.keep c2)
    have C2 := hide (C1.out.trans' c2)
    clear c2 a0 a1 a2 a3 a4 a5 a6 a7 a8 a9 a10 a11 a12 a13
    obtain ⟨a0, a1, a2, a3, a4, a5, a6, a7, a8, a9, a10, a11, a12, a13⟩ := S2.out.cells
    go_wp2_with fail
    refine (M3.out _).mono ?_
    rintro e w3 ⟨rfl, c3⟩
    have S3 := hide (S2.out.keep c3)
    have C3 := hide (C2.out.trans' c3)
    clear c3 a0 a1 a2 a3 a4 a5 a6 a7 a8 a9 a10 a11 a12 a13
    obtain ⟨a0, a1, a2, a3, a4, a5, a6, a7, a8, a9, a10, a11, a12, a13⟩ := S3.out.cells
    have KEEP := hide (fun (w' : World) (c : Chg NoChg w3 w') => S3.out.curves9 c)
    go_wp2
    go_region_held3 (fun w' : World => w'.cell? ⟨w.heap.size, 3, none⟩ = some (.int .u64 (s.real.f : Int)) ∧ w'.cell? ⟨w.heap.size, 4, none⟩ = some (.int .u64 (s.real.l : Int)) ∧ w'.cell? ⟨w.heap.size, 5, none⟩ = some (.int .u64 (s.real.r : Int)) ∧ w'.cell? ⟨w.heap.size, 6, none⟩ = some (.int .u64 (s.share.f : Int)) ∧ w'.cell? ⟨w.heap.size, 7, none⟩ = some (.int .u64 (s.share.l : Int)) ∧ w'.cell? ⟨w.heap.size, 8, none⟩ = some (.int .u64 (s.share.r : Int)) ∧ w'.cell? ⟨w.heap.size, 9, none⟩ = some (.int .u64 (s.upper.f : Int)) ∧ w'.cell? ⟨w.heap.size, 10, none⟩ = some (.int .u64 (s.upper.l : Int)) ∧ w'.cell? ⟨w.heap.size, 11, none⟩ = some (.int .u64 (s.upper.r : Int))) (exact KEEP.out _ (by (repeat' (first | (with_reducible exact Chg.refl _ _) | (with_reducible assumption) | (with_reducible refine Chg.alloc ?_ _) | (with_reducible refine Chg.drewN ?_ _) | (with_reducible refine Chg.drew ?_) | (with_reducible refine Chg.setCell ?_ _ ?_) | (apply Or.inl; with_reducible rfl) | (apply Or.inl; simp; done) | (apply Or.inr; simp; done) | (apply Or.inr; simp; omega))))) (first | (go_at_call 16; with_reducible refine (N1.out _).mono ?_; rintro e w4 ⟨rfl, c4⟩; replace c4 : Chg NoChg w3 w4 := Chg.trans' (by (repeat' (first | (with_reducible exact Chg.refl _ _) | (with_reducible assumption) | (with_reducible refine Chg.alloc ?_ _) | (with_reducible refine Chg.drewN ?_ _) | (with_reducible refine Chg.drew ?_) | (with_reducible refine Chg.setCell ?_ _ ?_) | (apply Or.inl; with_reducible rfl) | (apply Or.inl; simp; done) | (apply Or.inr; simp; done) | (apply Or.inr; simp; omega)))) c4) | (go_at_call 16; with_reducible refine (N2.out _).mono ?_; rintro e w5 ⟨rfl, c5⟩; replace c5 : Chg NoChg w3 w5 := Chg.trans' (by (repeat' (first | (with_reducible exact Chg.refl _ _) | (with_reducible assumption) | (with_reducible refine Chg.alloc ?_ _) | (with_reducible refine Chg.drewN ?_ _) | (with_reducible refine Chg.drew ?_) | (with_reducible refine Chg.setCell ?_ _ ?_) | (apply Or.inl; with_reducible rfl) | (apply Or.inl; simp; done) | (apply Or.inr; simp; done) | (apply Or.inr; simp; omega)))) c5) | (go_at_call 16; with_reducible refine (N3.out _).mono ?_; rintro e w6 ⟨rfl, c6⟩; replace c6 : Chg NoChg w3 w6 := Chg.trans' (by (repeat' (first | (with_reducible exact Chg.refl _ _) | (with_reducible assumption) | (with_reducible refine Chg.alloc ?_ _) | (with_reducible refine Chg.drewN ?_ _) | (with_reducible refine Chg.drew ?_) | (with_reducible refine Chg.setCell ?_ _ ?_) | (apply Or.inl; with_reducible rfl) | (apply Or.inl; simp; done) | (apply Or.inr; simp; done) | (apply Or.inr; simp; omega)))) c6))
    have S6 := hide (S3.out.keep c6)
    have C6 := hide (C3.out.trans' c6)
    clear c4 c5 c6 a0 a1 a2 a3 a4 a5 a6 a7 a8 a9 a10 a11 a12 a13
    obtain ⟨a0, a1, a2, a3, a4, a5, a6, a7, a8, a9, a10, a11, a12, a13⟩ := S6.out.cells
    go_wp2
    go_ret
    exact ⟨rfl, C6.out⟩
  have f0 : (s.pk != 0) = false := by simpa using p0
  by_cases p1 : s.bt = 0
  case neg =>
    clear p0
    have hs : s.shapedB false = false := by simp [Spc.shapedB, p1]
    have g9 : (s.bt != 0) = true := by simpa using p1
    clear p1
    have hE : s.restE false = 130 := restE_1 hs
    rw [hE]
    clear hE hs
    have S0 := hide (SpbAt.new w s false)
    have C0 := hide ((Chg.refl NoChg w).alloc (.cells #[.int .i64 s.id, .int .i64 s.par, .bool false, .int .u64 (s.real.f : Int), .int .u64 (s.real.l : Int), .int .u64 (s.real.r : Int), .int .u64 (s.share.f : Int), .int .u64 (s.share.l : Int), .int .u64 (s.share.r : Int), .int .u64 (s.upper.f : Int), .int .u64 (s.upper.l : Int), .int .u64 (s.upper.r : Int), .int .i64 s.pk, .int .i64 s.bt] 26))
    obtain ⟨a0, a1, a2, a3, a4, a5, a6, a7, a8, a9, a10, a11, a12, a13⟩ := S0.out.cells
    go_enter Try.func5, Try.ntmps5
    go_wp2_with fail
    refine (M1.out _).mono ?_
    rintro e w1 ⟨rfl, c1⟩
    have S1 := hide (S0.out.keep c1)
    have C1 := hide (C0.out.trans' c1)
    clear c1 a0 a1 a2 a3 a4 a5 a6 a7 a8 a9 a10 a11 a12 a13
    obtain ⟨a0, a1, a2, a3, a4, a5, a6, a7, a8, a9, a10, a11, a12, a13⟩ := S1.out.cells
    go_wp2_with fail
    refine (M2.out _).mono ?_
    rintro e w2 ⟨rfl, c2⟩
    have S2 := hide (S1.out.keep c2)
    have C2 := hide (C1.out.trans' c2)
    clear c2 a0 a1 a2 a3 a4 a5 a6 a7 a8 a9 a10 a11 a12 a13
    obtain ⟨a0, a1, a2, a3, a4, a5, a6, a7, a8, a9, a10, a11, a12, a13⟩ := S2.out.cells
    go_wp2_with fail
    refine (M3.out _).mono ?_
    rintro e w3 ⟨rfl, c3⟩
    have S3 := hide (S2.out.keep c3)
    have C3 := hide (C2.out.trans' c3)
    clear c3 a0 a1 a2 a3 a4 a5 a6 a7 a8 a9 a10 a11 a12 a13
    obtain ⟨a0, a1, a2, a3, a4, a5, a6, a7, a8, a9, a10, a11, a12, a13⟩ := S3.out.cells
    have KEEP := hide (fun (w' : World) (c : Chg NoChg w3 w') => S3.out.curves9 c)
    go_wp2
    go_region_held3 (fun w' : World => w'.cell? ⟨w.heap.size, 3, none⟩ = some (.int .u64 (s.real.f : Int)) ∧ w'.cell? ⟨w.heap.size, 4, none⟩ = some (.int .u64 (s.real.l : Int)) ∧ w'.cell? ⟨w.heap.size, 5, none⟩ = some (.int .u64 (s.real.r : Int)) ∧ w'.cell? ⟨w.heap.size, 6, none⟩ = some (.int .u64 (s.share.f : Int)) ∧ w'.cell? ⟨w.heap.size, 7, none⟩ = some (.int .u64 (s.share.l : Int)) ∧ w'.cell? ⟨w.heap.size, 8, none⟩ = some (.int .u64 (s.share.r : Int)) ∧ w'.cell? ⟨w.heap.size, 9, none⟩ = some (.int .u64 (s.upper.f : Int)) ∧ w'.cell? ⟨w.heap.size, 10, none⟩ = some (.int .u64 (s.upper.l : Int)) ∧ w'.cell? ⟨w.heap.size, 11, none⟩ = some (.int .u64 (s.upper.r : Int))) (exact KEEP.out _ (by (repeat' (first | (with_reducible exact Chg.refl _ _) | (with_reducible assumption) | (with_reducible refine Chg.alloc ?_ _) | (with_reducible refine Chg.drewN ?_ _) | (with_reducible refine Chg.drew ?_) | (with_reducible refine Chg.setCell ?_ _ ?_) | (apply Or.inl; with_reducible rfl) | (apply Or.inl; simp; done) | (apply Or.inr; simp; done) | (apply Or.inr; simp; omega))))) (first | (go_at_call 16; with_reducible refine (N1.out _).mono ?_; rintro e w4 ⟨rfl, c4⟩; replace c4 : Chg NoChg w3 w4 := Chg.trans' (by (repeat' (first | (with_reducible exact Chg.refl _ _) | (with_reducible assumption) | (with_reducible refine Chg.alloc ?_ _) | (with_reducible refine Chg.drewN ?_ _) | (with_reducible refine Chg.drew ?_) | (with_reducible refine Chg.setCell ?_ _ ?_) | (apply Or.inl; with_reducible rfl) | (apply Or.inl; simp; done) | (apply Or.inr; simp; done) | (apply Or.inr; simp; omega)))) c4) | (go_at_call 16; with_reducible refine (N2.out _).mono ?_; rintro e w5 ⟨rfl, c5⟩; replace c5 : Chg NoChg w3 w5 := Chg.trans' (by (repeat' (first | (with_reducible exact Chg.refl _ _) | (with_reducible assumption) | (with_reducible refine Chg.alloc ?_ _) | (with_reducible refine Chg.drewN ?_ _) | (with_reducible refine Chg.drew ?_) | (with_reducible refine Chg.setCell ?_ _ ?_) | (apply Or.inl; with_reducible rfl) | (apply Or.inl; simp; done) | (apply Or.inr; simp; done) | (apply Or.inr; simp; omega)))) c5) | (go_at_call 16; with_reducible refine (N3.out _).mono ?_; rintro e w6 ⟨rfl, c6⟩; replace c6 : Chg NoChg w3 w6 := Chg.trans' (by (repeat' (first | (with_reducible exact Chg.refl _ _) | (with_reducible assumption) | (with_reducible refine Chg.alloc ?_ _) | (with_reducible refine Chg.drewN ?_ _) | (with_reducible refine Chg.drew ?_) | (with_reducible refine Chg.setCell ?_ _ ?_) | (apply Or.inl; with_reducible rfl) | (apply Or.inl; simp; done) | (apply Or.inr; simp; done) | (apply Or.inr; simp; omega)))) c6))
    have S6 := hide (S3.out.keep c6)
    have C6 := hide (C3.out.trans' c6)
    clear c4 c5 c6 a0 a1 a2 a3 a4 a5 a6 a7 a8 a9 a10 a11 a12 a13
    obtain ⟨a0, a1, a2, a3, a4, a5, a6, a7, a8, a9, a10, a11, a12, a13⟩ := S6.out.cells
    go_wp2
    go_ret
    exact ⟨rfl, C6.out⟩
  have f1 : (s.bt != 0) = false := by simpa using p1
  have HS := hide (show s.shapedB false = true by simp [Spc.shapedB, HX.out, HY.out, p0, p1])
  clear p0 p1
  by_cases q1 : s.share.r = 0
  · have hh : s.sharedB = false := by simp [Spc.sharedB, Crv.goes, HY.out, q1]
    have q2 : ((s.share.r : Int) == 0) = true := by simp [q1]
    clear q1
    have hE : s.restE false = 130 := restE_2 HS.out hh
    rw [hE]
    clear hE hh
    have S0 := hide (SpbAt.new w s false)
    have C0 := hide ((Chg.refl NoChg w).alloc (.cells #[.int .i64 s.id, .int .i64 s.par, .bool false, .int .u64 (s.real.f : Int), .int .u64 (s.real.l : Int), .int .u64 (s.real.r : Int), .int .u64 (s.share.f : Int), .int .u64 (s.share.l : Int), .int .u64 (s.share.r : Int), .int .u64 (s.upper.f : Int), .int .u64 (s.upper.l : Int), .int .u64 (s.upper.r : Int), .int .i64 s.pk, .int .i64 s.bt] 26))
    obtain ⟨a0, a1, a2, a3, a4, a5, a6, a7, a8, a9, a10, a11, a12, a13⟩ := S0.out.cells
    go_enter Try.func5, Try.ntmps5
    go_wp2_with fail
    refine (M1.out _).mono ?_
    rintro e w1 ⟨rfl, c1⟩
    have S1 := hide (S0.out.keep c1)
    have C1 := hide (C0.out.trans' c1)
    clear c1 a0 a1 a2 a3 a4 a5 a6 a7 a8 a9 a10 a11 a12 a13
    obtain ⟨a0, a1, a2, a3, a4, a5, a6, a7, a8, a9, a10, a11, a12, a13⟩ := S1.out.cells
    go_wp2_with fail
    refine (M2.out _).mono ?_
    rintro e w2 ⟨rfl, c2⟩
    have S2 := hide (S1.out.keep c2)
    have C2 := hide (C1.out.trans' c2)
    clear c2 a0 a1 a2 a3 a4 a5 a6 a7 a8 a9 a10 a11 a12 a13
    obtain ⟨a0, a1, a2, a3, a4, a5, a6, a7, a8, a9, a10, a11, a12, a13⟩ := S2.out.cells
    go_wp2_with fail
    refine (M3.out _).mono ?_
    rintro e w3 ⟨rfl, c3⟩
    have S3 := hide (S2.out.keep c3)
    have C3 := hide (C2.out.trans' c3)
    clear c3 a0 a1 a2 a3 a4 a5 a6 a7 a8 a9 a10 a11 a12 a13
    obtain ⟨a0, a1, a2, a3, a4, a5, a6, a7, a8, a9, a10, a11, a12, a13⟩ := S3.out.cells
    have KEEP := hide (fun (w' : World) (c : Chg NoChg w3 w') => S3.out.curves9 c)
    go_wp2
    go_region_held3 (fun w' : World => w'.cell? ⟨w.heap.size, 3, none⟩ = some (.int .u64 (s.real.f : Int)) ∧ w'.cell? ⟨w.heap.size, 4, none⟩ = some (.int .u64 (s.real.l : Int)) ∧ w'.cell? ⟨w.heap.size, 5, none⟩ = some (.int .u64 (s.real.r : Int)) ∧ w'.cell? ⟨w.heap.size, 6, none⟩ = some (.int .u64 (s.share.f : Int)) ∧ w'.cell? ⟨w.heap.size, 7, none⟩ = some (.int .u64 (s.share.l : Int)) ∧ w'.cell? ⟨w.heap.size, 8, none⟩ = some (.int .u64 (s.share.r : Int)) ∧ w'.cell? ⟨w.heap.size, 9, none⟩ = some (.int .u64 (s.upper.f : Int)) ∧ w'.cell? ⟨w.heap.size, 10, none⟩ = some (.int .u64 (s.upper.l : Int)) ∧ w'.cell? ⟨w.heap.size, 11, none⟩ = some (.int .u64 (s.upper.r : Int))) (exact KEEP.out _ (by (repeat' (first | (with_reducible exact Chg.refl _ _) | (with_reducible assumption) | (with_reducible refine Chg.alloc ?_ _) | (with_reducible refine Chg.drewN ?_ _) | (with_reducible refine Chg.drew ?_) | (with_reducible refine Chg.setCell ?_ _ ?_) | (apply Or.inl; with_reducible rfl) | (apply Or.inl; simp; done) | (apply Or.inr; simp; done) | (apply Or.inr; simp; omega))))) (first | (go_at_call 16; with_reducible refine (N1.out _).mono ?_; rintro e w4 ⟨rfl, c4⟩; replace c4 : Chg NoChg w3 w4 := Chg.trans' (by (repeat' (first | (with_reducible exact Chg.refl _ _) | (with_reducible assumption) | (with_reducible refine Chg.alloc ?_ _) | (with_reducible refine Chg.drewN ?_ _) | (with_reducible refine Chg.drew ?_) | (with_reducible refine Chg.setCell ?_ _ ?_) | (apply Or.inl; with_reducible rfl) | (apply Or.inl; simp; done) | (apply Or.inr; simp; done) | (apply Or.inr; simp; omega)))) c4) | (go_at_call 16; with_reducible refine (N2.out _).mono ?_; rintro e w5 ⟨rfl, c5⟩; replace c5 : Chg NoChg w3 w5 := Chg.trans' (by (repeat' (first | (with_reducible exact Chg.refl _ _) | (with_reducible assumption) | (with_reducible refine Chg.alloc ?_ _) | (with_reducible refine Chg.drewN ?_ _) | (with_reducible refine Chg.drew ?_) | (with_reducible refine Chg.setCell ?_ _ ?_) | (apply Or.inl; with_reducible rfl) | (apply Or.inl; simp; done) | (apply Or.inr; simp; done) | (apply Or.inr; simp; omega)))) c5) | (go_at_call 16; with_reducible refine (N3.out _).mono ?_; rintro e w6 ⟨rfl, c6⟩; replace c6 : Chg NoChg w3 w6 := Chg.trans' (by (repeat' (first | (with_reducible exact Chg.refl _ _) | (with_reducible assumption) | (with_reducible refine Chg.alloc ?_ _) | (with_reducible refine Chg.drewN ?_ _) | (with_reducible refine Chg.drew ?_) | (with_reducible refine Chg.setCell ?_ _ ?_) | (apply Or.inl; with_reducible rfl) | (apply Or.inl; simp; done) | (apply Or.inr; simp; done) | (apply Or.inr; simp; omega)))) c6))
    have S6 := hide (S3.out.keep c6)
    have C6 := hide (C3.out.trans' c6)
    clear c4 c5 c6 a0 a1 a2 a3 a4 a5 a6 a7 a8 a9 a10 a11 a12 a13
    obtain ⟨a0, a1, a2, a3, a4, a5, a6, a7, a8, a9, a10, a11, a12, a13⟩ := S6.out.cells
    go_wp2
    go_ret
    exact ⟨rfl, C6.out⟩
  have q2 : ((s.share.r : Int) == 0) = false := by simpa using q1
  have Q1 := hide q1
  clear q1
  cases hz : s.upper.none with
  | true =>
    rw [hz] at N3
    have HZ := hide hz
    clear hz
    have hh : s.sharedB = true := by
      have gs : s.share.goes = true := by have := Q1.out; simp [Crv.goes]; omega
      unfold Spc.sharedB
      rw [gs]
      simp [Crv.goes, HZ.out]
    have hu : s.under = true := by simp [Spc.under, HZ.out]
    have hE : s.restE false = 0 := restE_4 HS.out hh hu
    rw [hE]
    clear hE hh hu
    have S0 := hide (SpbAt.new w s false)
    have C0 := hide ((Chg.refl NoChg w).alloc (.cells #[.int .i64 s.id, .int .i64 s.par, .bool false, .int .u64 (s.real.f : Int), .int .u64 (s.real.l : Int), .int .u64 (s.real.r : Int), .int .u64 (s.share.f : Int), .int .u64 (s.share.l : Int), .int .u64 (s.share.r : Int), .int .u64 (s.upper.f : Int), .int .u64 (s.upper.l : Int), .int .u64 (s.upper.r : Int), .int .i64 s.pk, .int .i64 s.bt] 26))
    obtain ⟨a0, a1, a2, a3, a4, a5, a6, a7, a8, a9, a10, a11, a12, a13⟩ := S0.out.cells
    go_enter Try.func5, Try.ntmps5
    go_wp2_with fail
    refine (M1.out _).mono ?_
    rintro e w1 ⟨rfl, c1⟩
    have S1 := hide (S0.out.keep c1)
    have C1 := hide (C0.out.trans' c1)
    clear c1 a0 a1 a2 a3 a4 a5 a6 a7 a8 a9 a10 a11 a12 a13
    obtain ⟨a0, a1, a2, a3, a4, a5, a6, a7, a8, a9, a10, a11, a12, a13⟩ := S1.out.cells
    go_wp2_with fail
    refine (M2.out _).mono ?_
    rintro e w2 ⟨rfl, c2⟩
    have S2 := hide (S1.out.keep c2)
    have C2 := hide (C1.out.trans' c2)
    clear c2 a0 a1 a2 a3 a4 a5 a6 a7 a8 a9 a10 a11 a12 a13
    obtain ⟨a0, a1, a2, a3, a4, a5, a6, a7, a8, a9, a10, a11, a12, a13⟩ := S2.out.cells
    go_wp2_with fail
    refine (M3.out _).mono ?_
    rintro e w3 ⟨rfl, c3⟩
    have S3 := hide (S2.out.keep c3)
    have C3 := hide (C2.out.trans' c3)
    clear c3 a0 a1 a2 a3 a4 a5 a6 a7 a8 a9 a10 a11 a12 a13
    obtain ⟨a0, a1, a2, a3, a4, a5, a6, a7, a8, a9, a10, a11, a12, a13⟩ := S3.out.cells
    have KEEP := hide (fun (w' : World) (c : Chg NoChg w3 w') => S3.out.curves9 c)
    go_wp2
    go_region_held3 (fun w' : World => w'.cell? ⟨w.heap.size, 3, none⟩ = some (.int .u64 (s.real.f : Int)) ∧ w'.cell? ⟨w.heap.size, 4, none⟩ = some (.int .u64 (s.real.l : Int)) ∧ w'.cell? ⟨w.heap.size, 5, none⟩ = some (.int .u64 (s.real.r : Int)) ∧ w'.cell? ⟨w.heap.size, 6, none⟩ = some (.int .u64 (s.share.f : Int)) ∧ w'.cell? ⟨w.heap.size, 7, none⟩ = some (.int .u64 (s.share.l : Int)) ∧ w'.cell? ⟨w.heap.size, 8, none⟩ = some (.int .u64 (s.share.r : Int)) ∧ w'.cell? ⟨w.heap.size, 9, none⟩ = some (.int .u64 (s.upper.f : Int)) ∧ w'.cell? ⟨w.heap.size, 10, none⟩ = some (.int .u64 (s.upper.l : Int)) ∧ w'.cell? ⟨w.heap.size, 11, none⟩ = some (.int .u64 (s.upper.r : Int))) (exact KEEP.out _ (by (repeat' (first | (with_reducible exact Chg.refl _ _) | (with_reducible assumption) | (with_reducible refine Chg.alloc ?_ _) | (with_reducible refine Chg.drewN ?_ _) | (with_reducible refine Chg.drew ?_) | (with_reducible refine Chg.setCell ?_ _ ?_) | (apply Or.inl; with_reducible rfl) | (apply Or.inl; simp; done) | (apply Or.inr; simp; done) | (apply Or.inr; simp; omega))))) (first | (go_at_call 16; with_reducible refine (N1.out _).mono ?_; rintro e w4 ⟨rfl, c4⟩; replace c4 : Chg NoChg w3 w4 := Chg.trans' (by (repeat' (first | (with_reducible exact Chg.refl _ _) | (with_reducible assumption) | (with_reducible refine Chg.alloc ?_ _) | (with_reducible refine Chg.drewN ?_ _) | (with_reducible refine Chg.drew ?_) | (with_reducible refine Chg.setCell ?_ _ ?_) | (apply Or.inl; with_reducible rfl) | (apply Or.inl; simp; done) | (apply Or.inr; simp; done) | (apply Or.inr; simp; omega)))) c4) | (go_at_call 16; with_reducible refine (N2.out _).mono ?_; rintro e w5 ⟨rfl, c5⟩; replace c5 : Chg NoChg w3 w5 := Chg.trans' (by (repeat' (first | (with_reducible exact Chg.refl _ _) | (with_reducible assumption) | (with_reducible refine Chg.alloc ?_ _) | (with_reducible refine Chg.drewN ?_ _) | (with_reducible refine Chg.drew ?_) | (with_reducible refine Chg.setCell ?_ _ ?_) | (apply Or.inl; with_reducible rfl) | (apply Or.inl; simp; done) | (apply Or.inr; simp; done) | (apply Or.inr; simp; omega)))) c5) | (go_at_call 16; with_reducible refine (N3.out _).mono ?_; rintro e w6 ⟨rfl, c6⟩; replace c6 : Chg NoChg w3 w6 := Chg.trans' (by (repeat' (first | (with_reducible exact Chg.refl _ _) | (with_reducible assumption) | (with_reducible refine Chg.alloc ?_ _) | (with_reducible refine Chg.drewN ?_ _) | (with_reducible refine Chg.drew ?_) | (with_reducible refine Chg.setCell ?_ _ ?_) | (apply Or.inl; with_reducible rfl) | (apply Or.inl; simp; done) | (apply Or.inr; simp; done) | (apply Or.inr; simp; omega)))) c6))
    have S6 := hide (S3.out.keep c6)
    have C6 := hide (C3.out.trans' c6)
    clear c4 c5 c6 a0 a1 a2 a3 a4 a5 a6 a7 a8 a9 a10 a11 a12 a13
    obtain ⟨a0, a1, a2, a3, a4, a5, a6, a7, a8, a9, a10, a11, a12, a13⟩ := S6.out.cells
    go_wp2
    go_ret
    exact ⟨rfl, C6.out⟩
  | false =>
    rw [hz] at N3
    have HZ := hide hz
    clear hz
    by_cases q3 : s.upper.r = 0
    · have hh : s.sharedB = false := by simp [Spc.sharedB, Crv.goes, HZ.out, q3]
      have q4 : ((s.upper.r : Int) == 0) = true := by simp [q3]
      clear q3
      have hE : s.restE false = 130 := restE_2 HS.out hh
      rw [hE]
      clear hE hh
      have S0 := hide (SpbAt.new w s false)
      have C0 := hide ((Chg.refl NoChg w).alloc (.cells #[.int .i64 s.id, .int .i64 s.par, .bool false, .int .u64 (s.real.f : Int), .int .u64 (s.real.l : Int), .int .u64 (s.real.r : Int), .int .u64 (s.share.f : Int), .int .u64 (s.share.l : Int), .int .u64 (s.share.r : Int), .int .u64 (s.upper.f : Int), .int .u64 (s.upper.l : Int), .int .u64 (s.upper.r : Int), .int .i64 s.pk, .int .i64 s.bt] 26))
      obtain ⟨a0, a1, a2, a3, a4, a5, a6, a7, a8, a9, a10, a11, a12, a13⟩ := S0.out.cells
      go_enter Try.func5, Try.ntmps5
      go_wp2_with fail
      refine (M1.out _).mono ?_
      rintro e w1 ⟨rfl, c1⟩
      have S1 := hide (S0.out.keep c1)
      have C1 := hide (C0.out.trans' c1)
      clear c1 a0 a1 a2 a3 a4 a5 a6 a7 a8 a9 a10 a11 a12 a13
      obtain ⟨a0, a1, a2, a3, a4, a5, a6, a7, a8, a9, a10, a11, a12, a13⟩ := S1.out.cells
      go_wp2_with fail
      refine (M2.out _).mono ?_
      rintro e w2 ⟨rfl, c2⟩
      have S2 := hide (S1.out.keep c2)
      have C2 := hide (C1.out.trans' c2)
      clear c2 a0 a1 a2 a3 a4 a5 a6 a7 a8 a9 a10 a11 a12 a13
      obtain ⟨a0, a1, a2, a3, a4, a5, a6, a7, a8, a9, a10, a11, a12, a13⟩ := S2.out.cells
      go_wp2_with fail
      refine (M3.out _).mono ?_
      rintro e w3 ⟨rfl, c3⟩
      have S3 := hide (S2.out.keep c3)
      have C3 := hide (C2.out.trans' c3)
      clear c3 a0 a1 a2 a3 a4 a5 a6 a7 a8 a9 a10 a11 a12 a13
      obtain ⟨a0, a1, a2, a3, a4, a5, a6, a7, a8, a9, a10, a11, a12, a13⟩ := S3.out.cells
      have KEEP := hide (fun (w' : World) (c : Chg NoChg w3 w') => S3.out.curves9 c)
      go_wp2
      go_region_held3 (fun w' : World => w'.cell? ⟨w.heap.size, 3, none⟩ = some (.int .u64 (s.real.f : Int)) ∧ w'.cell? ⟨w.heap.size, 4, none⟩ = some (.int .u64 (s.real.l : Int)) ∧ w'.cell? ⟨w.heap.size, 5, none⟩ = some (.int .u64 (s.real.r : Int)) ∧ w'.cell? ⟨w.heap.size, 6, none⟩ = some (.int .u64 (s.share.f : Int)) ∧ w'.cell? ⟨w.heap.size, 7, none⟩ = some (.int .u64 (s.share.l : Int)) ∧ w'.cell? ⟨w.heap.size, 8, none⟩ = some (.int .u64 (s.share.r : Int)) ∧ w'.cell? ⟨w.heap.size, 9, none⟩ = some (.int .u64 (s.upper.f : Int)) ∧ w'.cell? ⟨w.heap.size, 10, none⟩ = some (.int .u64 (s.upper.l : Int)) ∧ w'.cell? ⟨w.heap.size, 11, none⟩ = some (.int .u64 (s.upper.r : Int))) (exact KEEP.out _ (by (repeat' (first | (with_reducible exact Chg.refl _ _) | (with_reducible assumption) | (with_reducible refine Chg.alloc ?_ _) | (with_reducible refine Chg.drewN ?_ _) | (with_reducible refine Chg.drew ?_) | (with_reducible refine Chg.setCell ?_ _ ?_) | (apply Or.inl; with_reducible rfl) | (apply Or.inl; simp; done) | (apply Or.inr; simp; done) | (apply Or.inr; simp; omega))))) (first | (go_at_call 16; with_reducible refine (N1.out _).mono ?_; rintro e w4 ⟨rfl, c4⟩; replace c4 : Chg NoChg w3 w4 := Chg.trans' (by (repeat' (first | (with_reducible exact Chg.refl _ _) | (with_reducible assumption) | (with_reducible refine Chg.alloc ?_ _) | (with_reducible refine Chg.drewN ?_ _) | (with_reducible refine Chg.drew ?_) | (with_reducible refine Chg.setCell ?_ _ ?_) | (apply Or.inl; with_reducible rfl) | (apply Or.inl; simp; done) | (apply Or.inr; simp; done) | (apply Or.inr; simp; omega)))) c4) | (go_at_call 16; with_reducible refine (N2.out _).mono ?_; rintro e w5 ⟨rfl, c5⟩; replace c5 : Chg NoChg w3 w5 := Chg.trans' (by (repeat' (first | (with_reducible exact Chg.refl _ _) | (with_reducible assumption) | (with_reducible refine Chg.alloc ?_ _) | (with_reducible refine Chg.drewN ?_ _) | (with_reducible refine Chg.drew ?_) | (with_reducible refine Chg.setCell ?_ _ ?_) | (apply Or.inl; with_reducible rfl) | (apply Or.inl; simp; done) | (apply Or.inr; simp; done) | (apply Or.inr; simp; omega)))) c5) | (go_at_call 16; with_reducible refine (N3.out _).mono ?_; rintro e w6 ⟨rfl, c6⟩; replace c6 : Chg NoChg w3 w6 := Chg.trans' (by (repeat' (first | (with_reducible exact Chg.refl _ _) | (with_reducible assumption) | (with_reducible refine Chg.alloc ?_ _) | (with_reducible refine Chg.drewN ?_ _) | (with_reducible refine Chg.drew ?_) | (with_reducible refine Chg.setCell ?_ _ ?_) | (apply Or.inl; with_reducible rfl) | (apply Or.inl; simp; done) | (apply Or.inr; simp; done) | (apply Or.inr; simp; omega)))) c6))
      have S6 := hide (S3.out.keep c6)
      have C6 := hide (C3.out.trans' c6)
      clear c4 c5 c6 a0 a1 a2 a3 a4 a5 a6 a7 a8 a9 a10 a11 a12 a13
      obtain ⟨a0, a1, a2, a3, a4, a5, a6, a7, a8, a9, a10, a11, a12, a13⟩ := S6.out.cells
      go_wp2
      go_ret
      exact ⟨rfl, C6.out⟩
    have q4 : ((s.upper.r : Int) == 0) = false := by simpa using q3
    have Q3 := hide q3
    clear q3
    have hh : s.sharedB = true := by
      have gs : s.share.goes = true := by have := Q1.out; simp [Crv.goes]; omega
      have gu : s.upper.goes = true := by have := Q3.out; simp [Crv.goes]; omega
      simp [Spc.sharedB, gs, gu, HY.out]
    have hu : s.under = true := by simp [Spc.under, HX.out]
    have hE : s.restE false = 0 := restE_4 HS.out hh hu
    rw [hE]
    clear hE hh hu
    have S0 := hide (SpbAt.new w s false)
    have C0 := hide ((Chg.refl NoChg w).alloc (.cells #[.int .i64 s.id, .int .i64 s.par, .bool false, .int .u64 (s.real.f : Int), .int .u64 (s.real.l : Int), .int .u64 (s.real.r : Int), .int .u64 (s.share.f : Int), .int .u64 (s.share.l : Int), .int .u64 (s.share.r : Int), .int .u64 (s.upper.f : Int), .int .u64 (s.upper.l : Int), .int .u64 (s.upper.r : Int), .int .i64 s.pk, .int .i64 s.bt] 26))
    obtain ⟨a0, a1, a2, a3, a4, a5, a6, a7, a8, a9, a10, a11, a12, a13⟩ := S0.out.cells
    go_enter Try.func5, Try.ntmps5
    go_wp2_with fail
    refine (M1.out _).mono ?_
    rintro e w1 ⟨rfl, c1⟩
    have S1 := hide (S0.out.keep c1)
    have C1 := hide (C0.out.trans' c1)
    clear c1 a0 a1 a2 a3 a4 a5 a6 a7 a8 a9 a10 a11 a12 a13
    obtain ⟨a0, a1, a2, a3, a4, a5, a6, a7, a8, a9, a10, a11, a12, a13⟩ := S1.out.cells
    go_wp2_with fail
    refine (M2.out _).mono ?_
    rintro e w2 ⟨rfl, c2⟩
    have S2 := hide (S1.out.keep c2)
    have C2 := hide (C1.out.trans' c2)
    clear c2 a0 a1 a2 a3 a4 a5 a6 a7 a8 a9 a10 a11 a12 a13
    obtain ⟨a0, a1, a2, a3, a4, a5, a6, a7, a8, a9, a10, a11, a12, a13⟩ := S2.out.cells
    go_wp2_with fail
    refine (M3.out _).mono ?_
    rintro e w3 ⟨rfl, c3⟩
    have S3 := hide (S2.out.keep c3)
    have C3 := hide (C2.out.trans' c3)
    clear c3 a0 a1 a2 a3 a4 a5 a6 a7 a8 a9 a10 a11 a12 a13
    obtain ⟨a0, a1, a2, a3, a4, a5, a6, a7, a8, a9, a10, a11, a12, a13⟩ := S3.out.cells
    have KEEP := hide (fun (w' : World) (c : Chg NoChg w3 w') => S3.out.curves9 c)
    go_wp2
    go_region_held3 (fun w' : World => w'.cell? ⟨w.heap.size, 3, none⟩ = some (.int .u64 (s.real.f : Int)) ∧ w'.cell? ⟨w.heap.size, 4, none⟩ = some (.int .u64 (s.real.l : Int)) ∧ w'.cell? ⟨w.heap.size, 5, none⟩ = some (.int .u64 (s.real.r : Int)) ∧ w'.cell? ⟨w.heap.size, 6, none⟩ = some (.int .u64 (s.share.f : Int)) ∧ w'.cell? ⟨w.heap.size, 7, none⟩ = some (.int .u64 (s.share.l : Int)) ∧ w'.cell? ⟨w.heap.size, 8, none⟩ = some (.int .u64 (s.share.r : Int)) ∧ w'.cell? ⟨w.heap.size, 9, none⟩ = some (.int .u64 (s.upper.f : Int)) ∧ w'.cell? ⟨w.heap.size, 10, none⟩ = some (.int .u64 (s.upper.l : Int)) ∧ w'.cell? ⟨w.heap.size, 11, none⟩ = some (.int .u64 (s.upper.r : Int))) (exact KEEP.out _ (by (repeat' (first | (with_reducible exact Chg.refl _ _) | (with_reducible assumption) | (with_reducible refine Chg.alloc ?_ _) | (with_reducible refine Chg.drewN ?_ _) | (with_reducible refine Chg.drew ?_) | (with_reducible refine Chg.setCell ?_ _ ?_) | (apply Or.inl; with_reducible rfl) | (apply Or.inl; simp; done) | (apply Or.inr; simp; done) | (apply Or.inr; simp; omega))))) (first | (go_at_call 16; with_reducible refine (N1.out _).mono ?_; rintro e w4 ⟨rfl, c4⟩; replace c4 : Chg NoChg w3 w4 := Chg.trans' (by (repeat' (first | (with_reducible exact Chg.refl _ _) | (with_reducible assumption) | (with_reducible refine Chg.alloc ?_ _) | (with_reducible refine Chg.drewN ?_ _) | (with_reducible refine Chg.drew ?_) | (with_reducible refine Chg.setCell ?_ _ ?_) | (apply Or.inl; with_reducible rfl) | (apply Or.inl; simp; done) | (apply Or.inr; simp; done) | (apply Or.inr; simp; omega)))) c4) | (go_at_call 16; with_reducible refine (N2.out _).mono ?_; rintro e w5 ⟨rfl, c5⟩; replace c5 : Chg NoChg w3 w5 := Chg.trans' (by (repeat' (first | (with_reducible exact Chg.refl _ _) | (with_reducible assumption) | (with_reducible refine Chg.alloc ?_ _) | (with_reducible refine Chg.drewN ?_ _) | (with_reducible refine Chg.drew ?_) | (with_reducible refine Chg.setCell ?_ _ ?_) | (apply Or.inl; with_reducible rfl) | (apply Or.inl; simp; done) | (apply Or.inr; simp; done) | (apply Or.inr; simp; omega)))) c5) | (go_at_call 16; with_reducible refine (N3.out _).mono ?_; rintro e w6 ⟨rfl, c6⟩; replace c6 : Chg NoChg w3 w6 := Chg.trans' (by (repeat' (first | (with_reducible exact Chg.refl _ _) | (with_reducible assumption) | (with_reducible refine Chg.alloc ?_ _) | (with_reducible refine Chg.drewN ?_ _) | (with_reducible refine Chg.drew ?_) | (with_reducible refine Chg.setCell ?_ _ ?_) | (apply Or.inl; with_reducible rfl) | (apply Or.inl; simp; done) | (apply Or.inr; simp; done) | (apply Or.inr; simp; omega)))) c6))
    have S6 := hide (S3.out.keep c6)
    have C6 := hide (C3.out.trans' c6)
    clear c4 c5 c6 a0 a1 a2 a3 a4 a5 a6 a7 a8 a9 a10 a11 a12 a13
    obtain ⟨a0, a1, a2, a3, a4, a5, a6, a7, a8, a9, a10, a11, a12, a13⟩ := S6.out.cells
    go_wp2
    go_ret
    exact ⟨rfl, C6.out⟩
end Go.Proofs.Ytofgajlpdnokdaa
