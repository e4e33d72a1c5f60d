/- What nobody made: hier, fair. -/
import Derived.Test.YtpfkahpnfpockaaGreatSchedNil
import Derived.Test.YtpfkahpnfpockaaGreatPlan
import Derived.Laws.Externs
import Derived.Outline
import Derived.Deep.RegionHeld3
import Derived.Laws.FloatArith
import Derived.Laws.ComplexArith
namespace Go.Proofs.YtpfkahpnfpockaaGreat
set_option linter.unusedVariables false
open Go.RowKit

theorem yNone_nil (w : World) : Calls Tryz.prog 100 #[.pointer none] w fun e w' => e = .returned (.bool true) ∧ w = w' := by
  go_enter Tryz.func100, Tryz.ntmps100
  go_wp2
  go_ret
  exact ⟨rfl, rfl⟩

set_option maxRecDepth 100000 in
theorem yGet_nil (i : Int) (w : World) : Calls Tryz.prog 42 #[.pointer none, .int .i64 i] w fun e w' => e = .returned (.tuple #[.agg #[.int .i64 0, .int .i64 0, .bool false, .int .u64 0, .int .u64 0, .int .u64 0, .int .u64 0, .int .u64 0, .int .u64 0, .int .u64 0, .int .u64 0, .int .u64 0, .int .i64 0, .int .i64 0], .bool false]) ∧ Chg NoChg w w' := by
  go_enter Tryz.func42, Tryz.ntmps42
  go_wp2_with fail
  refine (yNone_nil _).mono ?_
  rintro e w1 ⟨rfl, rfl⟩
  go_wp2
  refine bodyPost_ret (v := .tuple #[.agg #[.int .i64 0, .int .i64 0, .bool false, .int .u64 0, .int .u64 0, .int .u64 0, .int .u64 0, .int .u64 0, .int .u64 0, .int .u64 0, .int .u64 0, .int .u64 0, .int .i64 0, .int .i64 0], .bool false]) (by simp [results, Tryz.results42, go_sem]) rfl ⟨rfl, ?_⟩
  (repeat' (first | (with_reducible exact Chg.refl _ _) | (with_reducible assumption) | (with_reducible refine Chg.alloc ?_ _) | (with_reducible refine Chg.drewN ?_ _) | (with_reducible refine Chg.drew ?_) | (with_reducible refine Chg.setCell ?_ _ ?_) | (apply Or.inl; with_reducible rfl) | (apply Or.inl; simp; done) | (apply Or.inr; simp; done) | (apply Or.inr; simp; omega)))

theorem yUnder_nil (i : Int) (w : World) : Calls Tryz.prog 46 #[.pointer none, .int .i64 i] w fun e w' => e = .returned (.slice none 0 0) ∧ Chg NoChg w w' := by
  go_enter Tryz.func46, Tryz.ntmps46
  go_wp2_with fail
  refine (yNone_nil _).mono ?_
  rintro e w1 ⟨rfl, rfl⟩
  go_wp2
  refine bodyPost_ret (v := .slice none 0 0) (by simp [results, Tryz.results46, go_sem]) rfl ⟨rfl, ?_⟩
  (repeat' (first | (with_reducible exact Chg.refl _ _) | (with_reducible assumption) | (with_reducible refine Chg.alloc ?_ _) | (with_reducible refine Chg.drewN ?_ _) | (with_reducible refine Chg.drew ?_) | (with_reducible refine Chg.setCell ?_ _ ?_) | (apply Or.inl; with_reducible rfl) | (apply Or.inl; simp; done) | (apply Or.inr; simp; done) | (apply Or.inr; simp; omega)))

theorem slIFi_nil (f : Fn) (a b : Array Value) (w : World) : Calls Tryz.prog 155 #[.slice none 0 0, .func f a b] w fun e w' => e = .returned (.int .i64 (-1)) ∧ Chg NoChg w w' := by
  go_enter Tryz.func155, Tryz.ntmps155
  go_wp2
  refine wp_loop_rounds 1 ?_
  rw [rounds_succ]
  go_wp2
  go_ret
  refine ⟨rfl, ?_⟩
  (repeat' (first | (with_reducible exact Chg.refl _ _) | (with_reducible assumption) | (with_reducible refine Chg.alloc ?_ _) | (with_reducible refine Chg.drewN ?_ _) | (with_reducible refine Chg.drew ?_) | (with_reducible refine Chg.setCell ?_ _ ?_) | (apply Or.inl; with_reducible rfl) | (apply Or.inl; simp; done) | (apply Or.inr; simp; done) | (apply Or.inr; simp; omega)))

theorem slCFi_nil (f : Fn) (a b : Array Value) (w : World) : Calls Tryz.prog 79 #[.slice none 0 0, .func f a b] w fun e w' => e = .returned (.bool false) ∧ Chg NoChg w w' := by
  go_enter Tryz.func79, Tryz.ntmps79
  go_wp2_with fail
  refine (slIFi_nil _ _ _ _).mono ?_
  rintro e w1 ⟨rfl, c1⟩
  go_wp2
  go_ret
  exact ⟨rfl, c1⟩

theorem hNone_nil (w : World) : Calls Tryz.prog 144 #[.pointer none] w fun e w' => e = .returned (.bool true) ∧ w = w' := by
  go_enter Tryz.func144, Tryz.ntmps144
  go_wp2
  go_ret
  exact ⟨rfl, rfl⟩

theorem hEngine_nil (w : World) : Calls Tryz.prog 65 #[.pointer none] w fun e w' => e = .returned (.pointer none) ∧ w = w' := by
  go_enter Tryz.func65, Tryz.ntmps65
  go_wp2_with fail
  refine (hNone_nil _).mono ?_
  rintro e w1 ⟨rfl, rfl⟩
  go_wp2
  go_ret
  exact ⟨rfl, rfl⟩

set_option maxRecDepth 100000 in
theorem fEven_nil (i : Int) (w : World) : Calls Tryz.prog 21 #[.pointer none, .int .i64 i] w fun e w' => e = .returned (.bool (decide (i = 0))) ∧ Chg NoChg w w' := by
  by_cases hi : i = 0
  · subst hi
    go_enter Tryz.func21, Tryz.ntmps21
    go_wp2_with fail
    refine (yGet_nil 0 _).mono ?_
    rintro e w2 ⟨rfl, c2⟩
    have C2 := hide (((Chg.refl NoChg w).alloc _).trans' c2)
    have X := c2.blk (Blk.new w #[.pointer none] 30) (fun h => h)
    have xl := X.lt
    have x0 := X.cell 0
    simp at x0
    clear c2 X
    go_wp2_with fail
    refine (yUnder_nil 0 _).mono ?_
    rintro e w3 ⟨rfl, c3⟩
    have C3 := hide ((C2.out.alloc (.cells #[.int .i64 0, .int .i64 0, .bool false, .int .u64 0, .int .u64 0, .int .u64 0, .int .u64 0, .int .u64 0, .int .u64 0, .int .u64 0, .int .u64 0, .int .u64 0, .int .i64 0, .int .i64 0] 26)).trans' c3)
    clear c3
    go_wp2_with fail
    refine (slCFi_nil _ _ _ _).mono ?_
    rintro e w4 ⟨rfl, c4⟩
    have C4 := hide (C3.out.trans' c4)
    clear c4
    go_wp2
    go_ret
    refine ⟨rfl, C4.out⟩
  · have hj : decide (i = 0) = false := by simpa using hi
    have hk : (i == 0) = false := by simpa using hi
    have hl : (i != 0) = true := by simpa using hi
    rw [hj]
    go_enter Tryz.func21, Tryz.ntmps21
    go_wp2_with fail
    refine (yGet_nil i _).mono ?_
    rintro e w2 ⟨rfl, c2⟩
    have C2 := hide (((Chg.refl NoChg w).alloc _).trans' c2)
    clear c2
    go_wp2
    go_ret
    refine ⟨rfl, ?_⟩
    have c2 := C2.out
    (repeat' (first | (with_reducible exact Chg.refl _ _) | (with_reducible assumption) | (with_reducible refine Chg.alloc ?_ _) | (with_reducible refine Chg.drewN ?_ _) | (with_reducible refine Chg.drew ?_) | (with_reducible refine Chg.setCell ?_ _ ?_) | (apply Or.inl; with_reducible rfl) | (apply Or.inl; simp; done) | (apply Or.inr; simp; done) | (apply Or.inr; simp; omega)))

set_option maxRecDepth 100000 in
theorem fRace_nil (i : Int) (t : Int) (w : World) : Calls Tryz.prog 19 #[.pointer none, .int .i64 i, .int .u64 t] w fun e w' => e = .returned (.agg #[.int .i64 0, .int .i64 0]) ∧ Chg NoChg w w' := by
  go_enter Tryz.func19, Tryz.ntmps19
  go_wp2
  go_quiet ((go_at_call 65; exact quiet_same (hEngine_nil _)))
  go_wp2
  refine bodyPost_ret (v := .agg #[.int .i64 0, .int .i64 0]) (by simp [results, Tryz.results19, go_sem]) rfl ⟨rfl, ?_⟩
  (repeat' (first | (with_reducible exact Chg.refl _ _) | (with_reducible assumption) | (with_reducible refine Chg.alloc ?_ _) | (with_reducible refine Chg.drewN ?_ _) | (with_reducible refine Chg.drew ?_) | (with_reducible refine Chg.setCell ?_ _ ?_) | (apply Or.inl; with_reducible rfl) | (apply Or.inl; simp; done) | (apply Or.inr; simp; done) | (apply Or.inr; simp; omega)))

theorem fVain_nil (t : Int) (w : World) : Calls Tryz.prog 20 #[.pointer none, .int .u64 t] w fun e w' => e = .returned (.int .i64 0) ∧ Chg NoChg w w' := by
  go_enter Tryz.func20, Tryz.ntmps20
  go_wp2_with fail
  refine (hEngine_nil _).mono ?_
  rintro e w1 ⟨rfl, rfl⟩
  go_wp2
  go_ret
  refine ⟨rfl, ?_⟩
  (repeat' (first | (with_reducible exact Chg.refl _ _) | (with_reducible assumption) | (with_reducible refine Chg.alloc ?_ _) | (with_reducible refine Chg.drewN ?_ _) | (with_reducible refine Chg.drew ?_) | (with_reducible refine Chg.setCell ?_ _ ?_) | (apply Or.inl; with_reducible rfl) | (apply Or.inl; simp; done) | (apply Or.inr; simp; done) | (apply Or.inr; simp; omega)))

theorem zsShares_nil (i : Int) (w : World) : Calls Tryz.prog 8 #[.pointer none, .int .i64 i] w fun e w' => e = .returned (.tuple #[.int .u64 0, .int .u64 0, .bool false]) ∧ w = w' := by
  go_enter Tryz.func8, Tryz.ntmps8
  go_wp2_with fail
  refine (zsNone_yes (.inl rfl)).mono ?_
  rintro e w1 ⟨rfl, rfl⟩
  go_wp2
  go_ret3
  exact ⟨rfl, rfl⟩

theorem fTotal_nil (i : Int) (w : World) : Calls Tryz.prog 63 #[.pointer none, .int .i64 i] w fun e w' => e = .returned (.int .u64 0) ∧ w = w' := by
  go_enter Tryz.func63, Tryz.ntmps63
  go_wp2_with fail
  refine (zsShares_nil i _).mono ?_
  rintro e w1 ⟨rfl, rfl⟩
  go_wp2
  go_ret
  exact ⟨rfl, rfl⟩

set_option maxRecDepth 100000 in
theorem fSlopes_nil (a b : Int) (w : World) : Calls Tryz.prog 62 #[.pointer none, .int .i64 a, .int .i64 b] w fun e w' => e = .returned (.complex .f64 0 0) ∧ Chg NoChg w w' := by
  go_enter Tryz.func62, Tryz.ntmps62
  go_wp2_with fail
  refine (zsClasses_no (.inl rfl)).mono ?_
  rintro e w1 ⟨rfl, c1⟩
  have C1 := hide c1
  clear c1
  go_wp2_with fail
  refine (yGet_nil a _).mono ?_
  rintro e w2 ⟨rfl, c2⟩
  have C2 := hide (C1.out.trans' c2)
  clear c2
  go_wp2_with fail
  refine (yGet_nil b _).mono ?_
  rintro e w3 ⟨rfl, c3⟩
  have C3 := hide ((C2.out.alloc _).trans' c3)
  have X := c3.blk (Blk.new w2 #[.int .i64 0, .int .i64 0, .bool false, .int .u64 0, .int .u64 0, .int .u64 0, .int .u64 0, .int .u64 0, .int .u64 0, .int .u64 0, .int .u64 0, .int .u64 0, .int .i64 0, .int .i64 0] 26) (fun h => h)
  have xl := X.lt
  have x8 := X.cell 8
  simp at x8
  clear c3 X
  go_wp2
  have f0 : floatOfInt .f64 0 = 0 := by kernel_rfl
  rw [f0]
  go_ret
  refine ⟨rfl, ?_⟩
  have c3 := C3.out
  (repeat' (first | (with_reducible exact Chg.refl _ _) | (with_reducible assumption) | (with_reducible refine Chg.alloc ?_ _) | (with_reducible refine Chg.drewN ?_ _) | (with_reducible refine Chg.drew ?_) | (with_reducible refine Chg.setCell ?_ _ ?_) | (apply Or.inl; with_reducible rfl) | (apply Or.inl; simp; done) | (apply Or.inr; simp; done) | (apply Or.inr; simp; omega)))

theorem and0 : bits .and .u64 0 4294967295 = 0 := by decide
theorem shr0 : (0 : Int) / 4294967296 = 0 := by decide
theorem wrap0 : IntKind.u64.wrap 0 = 0 := by decide

theorem bMul64_zero (x y : Int) (h : x = 0 ∨ y = 0) (w : World) : Calls Tryz.prog 157 #[.int .u64 x, .int .u64 y] w fun e w' => e = .returned (.tuple #[.int .u64 0, .int .u64 0]) ∧ w = w' := by
  have h1 := and0
  have h2 := shr0
  have h3 := wrap0
  rcases h with rfl | rfl
  · go_enter Tryz.func157, Tryz.ntmps157
    go_wp2
    try simp only [h1, h2, h3, Int.zero_mul, Int.mul_zero, Int.add_zero, Int.zero_add, Int.zero_ediv]
    go_ret2
    exact ⟨rfl, rfl⟩
  · go_enter Tryz.func157, Tryz.ntmps157
    go_wp2
    try simp only [h1, h2, h3, Int.zero_mul, Int.mul_zero, Int.add_zero, Int.zero_add, Int.zero_ediv]
    go_ret2
    exact ⟨rfl, rfl⟩

theorem fGained_zero (w : World) : Calls Tryz.prog 142 #[.int .u64 0, .int .u64 0] w fun e w' => e = .returned (.int .u64 0) ∧ w = w' := by
  go_enter Tryz.func142, Tryz.ntmps142
  go_wp2
  go_ret
  exact ⟨rfl, rfl⟩

set_option maxRecDepth 100000 in
theorem fLess_zero (w : World) : Calls Tryz.prog 84 #[.agg #[.int .u64 0, .int .u64 0], .agg #[.int .u64 0, .int .u64 0]] w fun e w' => e = .returned (.bool false) ∧ (w.alloc (.cells #[.int .u64 0, .int .u64 0] 102)).alloc (.cells #[.int .u64 0, .int .u64 0] 102) = w' := by
  go_enter Tryz.func84, Tryz.ntmps84
  go_wp2
  go_ret
  exact ⟨rfl, rfl⟩

theorem sub64_zero (w : World) : (callFunc 207 #[.int .u64 0, .int .u64 0, .int .u64 0]).run Tryz.prog w = .ok (.value (.tuple #[.int .u64 0, .int .u64 0])) w := by
  kernel_rfl

set_option maxRecDepth 100000 in
theorem fMinus_zero (w : World) : Calls Tryz.prog 143 #[.agg #[.int .u64 0, .int .u64 0], .agg #[.int .u64 0, .int .u64 0]] w fun e w' => e = .returned (.agg #[.int .u64 0, .int .u64 0]) ∧ ((w.alloc (.cells #[.int .u64 0, .int .u64 0] 102)).alloc (.cells #[.int .u64 0, .int .u64 0] 102)).alloc (.cells #[.int .u64 0, .int .u64 0] 102) = w' := by
  have A := hide sub64_zero
  go_enter Tryz.func143, Tryz.ntmps143
  go_wp2_with (simp only [A.out])
  refine bodyPost_ret (v := .agg #[.int .u64 0, .int .u64 0]) (by simp [results, Tryz.results143, go_sem]) rfl ⟨rfl, rfl⟩

theorem add64_zero (w : World) : (callFunc 158 #[.int .u64 0, .int .u64 0, .int .u64 0]).run Tryz.prog w = .ok (.value (.tuple #[.int .u64 0, .int .u64 0])) w := by
  rw [run_callFunc_extern Tryz.func158 (by kernel_rfl) (by kernel_rfl) (by kernel_rfl) (e := add64Entry) (by kernel_rfl), run_add64 0 0 0 (by decide) (by decide) (by decide) (by decide)]
  rfl

set_option maxRecDepth 100000 in
theorem fTimes_zero (l n : Int) (h : l = 0 ∨ n = 0) (w : World) : Calls Tryz.prog 83 #[.agg #[.int .u64 0, .int .u64 l], .int .u64 n] w fun e w' => e = .returned (.agg #[.int .u64 0, .int .u64 0]) ∧ (w.alloc (.cells #[.int .u64 0, .int .u64 l] 102)).alloc (.cells #[.int .u64 0, .int .u64 0] 102) = w' := by
  have M1 := hide (bMul64_zero 0 n (.inl rfl))
  have M2 := hide (bMul64_zero l n h)
  have A := hide (add64_zero)
  clear h
  go_enter Tryz.func83, Tryz.ntmps83
  go_wp2_with fail
  refine (M1.out _).mono ?_
  rintro e w1 ⟨rfl, rfl⟩
  go_wp2_with fail
  refine (M2.out _).mono ?_
  rintro e w2 ⟨rfl, rfl⟩
  go_wp2_with (simp only [A.out])
  refine bodyPost_ret (v := .agg #[.int .u64 0, .int .u64 0]) (by simp [results, Tryz.results83, go_sem]) rfl ⟨rfl, ?_⟩
  rfl

set_option maxRecDepth 100000 in
theorem fBegin_nil (a b : Int) (w : World) : Calls Tryz.prog 17 #[.pointer none, .int .i64 a, .int .i64 b] w fun e w' => e = .returned (.agg #[.int .i64 a, .int .i64 b, .int .u64 0, .int .u64 0, .int .u64 0, .int .u64 0]) ∧ Chg NoChg w w' := by
  go_enter Tryz.func17, Tryz.ntmps17
  go_wp2_with fail
  refine (fSlopes_nil a b _).mono ?_
  rintro e w1 ⟨rfl, c1⟩
  have C1 := hide (((Chg.refl NoChg w).alloc _).trans' c1)
  have X := c1.blk (Blk.new w #[.int .i64 0, .int .i64 0, .int .u64 0, .int .u64 0, .int .u64 0, .int .u64 0] 57) (fun h => h)
  have xl := X.lt
  have x0 := X.cell
  have xf := X.frozen
  have X := hide X
  clear c1
  go_wp2_with fail
  refine (fTotal_nil a _).mono ?_
  rintro e w2 ⟨rfl, rfl⟩
  go_wp2_with fail
  refine (fTotal_nil b _).mono ?_
  rintro e w2 ⟨rfl, rfl⟩
  have fc := fun (w : World) => (by kernel_rfl : (convert 100 22 (.float .f64 0)).run Tryz.prog w = .ok (.int .u64 0) w)
  go_wp2
  refine bodyPost_ret (v := .agg #[.int .i64 a, .int .i64 b, .int .u64 0, .int .u64 0, .int .u64 0, .int .u64 0]) (by simp [results, Tryz.results17, go_sem, x0]) rfl ⟨rfl, ?_⟩
  have c1 := C1.out
  (repeat' (first | (with_reducible exact Chg.refl _ _) | (with_reducible assumption) | (with_reducible refine Chg.alloc ?_ _) | (with_reducible refine Chg.drewN ?_ _) | (with_reducible refine Chg.drew ?_) | (with_reducible refine Chg.setCell ?_ _ ?_) | (apply Or.inl; with_reducible rfl) | (apply Or.inl; simp; done) | (apply Or.inr; simp; done) | (apply Or.inr; simp; omega)))

theorem pair_keep (a b : Int) (w w' : World) (c : Chg NoChg (w.alloc (.cells #[.int .i64 a, .int .i64 b, .int .u64 0, .int .u64 0, .int .u64 0, .int .u64 0] 57)) w') : w'.cell? ⟨w.heap.size, 0, none⟩ = some (.int .i64 a) ∧ w'.cell? ⟨w.heap.size, 1, none⟩ = some (.int .i64 b) ∧ w'.cell? ⟨w.heap.size, 2, none⟩ = some (.int .u64 0) ∧ w'.cell? ⟨w.heap.size, 3, none⟩ = some (.int .u64 0) ∧ w'.cell? ⟨w.heap.size, 4, none⟩ = some (.int .u64 0) ∧ w'.cell? ⟨w.heap.size, 5, none⟩ = some (.int .u64 0) := by
  have X := c.blk (Blk.new w #[.int .i64 a, .int .i64 b, .int .u64 0, .int .u64 0, .int .u64 0, .int .u64 0] 57) (fun h => h)
  exact ⟨X.cell 0, X.cell 1, X.cell 2, X.cell 3, X.cell 4, X.cell 5⟩

set_option maxRecDepth 100000 in
set_option maxHeartbeats 2000000 in
theorem fdiffer_nil (a b : Int) (w : World) : Calls Tryz.prog 64 #[.pointer none, .agg #[.int .i64 a, .int .i64 b, .int .u64 0, .int .u64 0, .int .u64 0, .int .u64 0]] w fun e w' => e = .returned (.agg #[.int .u64 0, .int .u64 0]) ∧ Chg NoChg w w' := by
  have KEEP := hide (pair_keep a b w)
  go_enter Tryz.func64, Tryz.ntmps64
  go_wp2
  go_region_held3 (fun w' : World => w'.cell? ⟨w.heap.size, 0, none⟩ = some (.int .i64 a) ∧ w'.cell? ⟨w.heap.size, 1, none⟩ = some (.int .i64 b) ∧ w'.cell? ⟨w.heap.size, 2, none⟩ = some (.int .u64 0) ∧ w'.cell? ⟨w.heap.size, 3, none⟩ = some (.int .u64 0) ∧ w'.cell? ⟨w.heap.size, 4, none⟩ = some (.int .u64 0) ∧ w'.cell? ⟨w.heap.size, 5, none⟩ = some (.int .u64 0)) (exact KEEP.out _ (by (repeat' (first | (with_reducible exact Chg.refl _ _) | (with_reducible assumption) | (with_reducible refine Chg.alloc ?_ _) | (with_reducible refine Chg.drewN ?_ _) | (with_reducible refine Chg.drew ?_) | (with_reducible refine Chg.setCell ?_ _ ?_) | (apply Or.inl; with_reducible rfl) | (apply Or.inl; simp; done) | (apply Or.inr; simp; done) | (apply Or.inr; simp; omega))))) (first | (go_at_call 63; refine (fTotal_nil _ _).mono ?_; rintro e w2 ⟨rfl, rfl⟩) | (go_at_call 142; refine (fGained_zero _).mono ?_; rintro e w2 ⟨rfl, rfl⟩) | (go_at_call 83; refine (fTimes_zero _ _ (.inl rfl) _).mono ?_; rintro e w2 ⟨rfl, rfl⟩))
  all_goals go_wp2
  all_goals go_region_held3 (fun w' : World => w'.cell? ⟨w.heap.size, 0, none⟩ = some (.int .i64 a) ∧ w'.cell? ⟨w.heap.size, 1, none⟩ = some (.int .i64 b) ∧ w'.cell? ⟨w.heap.size, 2, none⟩ = some (.int .u64 0) ∧ w'.cell? ⟨w.heap.size, 3, none⟩ = some (.int .u64 0) ∧ w'.cell? ⟨w.heap.size, 4, none⟩ = some (.int .u64 0) ∧ w'.cell? ⟨w.heap.size, 5, none⟩ = some (.int .u64 0)) (exact KEEP.out _ (by (repeat' (first | (with_reducible exact Chg.refl _ _) | (with_reducible assumption) | (with_reducible refine Chg.alloc ?_ _) | (with_reducible refine Chg.drewN ?_ _) | (with_reducible refine Chg.drew ?_) | (with_reducible refine Chg.setCell ?_ _ ?_) | (apply Or.inl; with_reducible rfl) | (apply Or.inl; simp; done) | (apply Or.inr; simp; done) | (apply Or.inr; simp; omega))))) (first | (go_at_call 63; refine (fTotal_nil _ _).mono ?_; rintro e w2 ⟨rfl, rfl⟩) | (go_at_call 142; refine (fGained_zero _).mono ?_; rintro e w2 ⟨rfl, rfl⟩) | (go_at_call 83; refine (fTimes_zero _ _ (.inl rfl) _).mono ?_; rintro e w2 ⟨rfl, rfl⟩))
  all_goals go_wp2_with fail
  all_goals
    refine (fLess_zero _).mono ?_
    rintro e w9 ⟨rfl, rfl⟩
    go_wp2_with fail
    refine (fMinus_zero _).mono ?_
    rintro e w10 ⟨rfl, rfl⟩
    go_wp2
    refine bodyPost_ret (v := .agg #[.int .u64 0, .int .u64 0]) (by simp [results, Tryz.results64, go_sem]) rfl ⟨rfl, ?_⟩
    (repeat' (first | (with_reducible exact Chg.refl _ _) | (with_reducible assumption) | (with_reducible refine Chg.alloc ?_ _) | (with_reducible refine Chg.drewN ?_ _) | (with_reducible refine Chg.drew ?_) | (with_reducible refine Chg.setCell ?_ _ ?_) | (apply Or.inl; with_reducible rfl) | (apply Or.inl; simp; done) | (apply Or.inr; simp; done) | (apply Or.inr; simp; omega)))

end Go.Proofs.YtpfkahpnfpockaaGreat
