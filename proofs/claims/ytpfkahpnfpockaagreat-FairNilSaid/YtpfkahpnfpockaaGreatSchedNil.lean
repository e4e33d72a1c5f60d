/- What nobody made: sched. -/
import Derived.Test.YtpfkahpnfpockaaGreatNilI
namespace Go.Proofs.YtpfkahpnfpockaaGreat
set_option linter.unusedVariables false
open Go.RowKit

theorem zsNone_yes {w : World} {v : Value} (h : NoOneI 0 w v) : Calls Tryz.prog 23 #[v] w fun e w' => e = .returned (.bool true) ∧ w = w' := by
  rcases h with rfl | ⟨b, rfl, hb⟩
  · go_enter Tryz.func23, Tryz.ntmps23
    go_wp2
    go_ret
    exact ⟨rfl, rfl⟩
  · go_enter Tryz.func23, Tryz.ntmps23
    go_wp2
    go_ret
    exact ⟨rfl, rfl⟩

set_option maxRecDepth 100000 in
theorem zsNext_no {w : World} {v : Value} (h : NoOneI 0 w v) (t : Int) : Calls Tryz.prog 5 #[v, .int .u64 t] w fun e w' => e = .returned (.tuple #[.agg #[.int .u64 0, .int .i64 0, .int .i64 0, .int .u64 0, .int .u8 0, .int .u64 0], .bool false]) ∧ Chg NoChg w w' := by
  have hh := h
  rcases h with rfl | ⟨b, rfl, hb⟩
  · have N := hide (fun (w' : World) (c : Chg NoChg w w') => zsNone_yes (hh.keep c))
    clear hh
    go_enter Tryz.func5, Tryz.ntmps5
    go_wp2_with fail
    refine (N.out _ (by (repeat' (first | (with_reducible exact Chg.refl _ _) | (with_reducible assumption) | (with_reducible refine Chg.alloc ?_ _) | (with_reducible refine Chg.drewN ?_ _) | (with_reducible refine Chg.drew ?_) | (with_reducible refine Chg.setCell ?_ _ ?_) | (apply Or.inl; with_reducible rfl) | (apply Or.inl; simp; done) | (apply Or.inr; simp; done) | (apply Or.inr; simp; omega))))).mono ?_
    rintro e w1 ⟨rfl, rfl⟩
    go_wp2
    refine bodyPost_ret (v := .tuple #[.agg #[.int .u64 0, .int .i64 0, .int .i64 0, .int .u64 0, .int .u8 0, .int .u64 0], .bool false]) (by simp [results, Tryz.results5, go_sem]) rfl ⟨rfl, ?_⟩
    (repeat' (first | (with_reducible exact Chg.refl _ _) | (with_reducible assumption) | (with_reducible refine Chg.alloc ?_ _) | (with_reducible refine Chg.drewN ?_ _) | (with_reducible refine Chg.drew ?_) | (with_reducible refine Chg.setCell ?_ _ ?_) | (apply Or.inl; with_reducible rfl) | (apply Or.inl; simp; done) | (apply Or.inr; simp; done) | (apply Or.inr; simp; omega)))
  · have N := hide (fun (w' : World) (c : Chg NoChg w w') => zsNone_yes (hh.keep c))
    clear hh hb
    go_enter Tryz.func5, Tryz.ntmps5
    go_wp2_with fail
    refine (N.out _ (by (repeat' (first | (with_reducible exact Chg.refl _ _) | (with_reducible assumption) | (with_reducible refine Chg.alloc ?_ _) | (with_reducible refine Chg.drewN ?_ _) | (with_reducible refine Chg.drew ?_) | (with_reducible refine Chg.setCell ?_ _ ?_) | (apply Or.inl; with_reducible rfl) | (apply Or.inl; simp; done) | (apply Or.inr; simp; done) | (apply Or.inr; simp; omega))))).mono ?_
    rintro e w1 ⟨rfl, rfl⟩
    go_wp2
    refine bodyPost_ret (v := .tuple #[.agg #[.int .u64 0, .int .i64 0, .int .i64 0, .int .u64 0, .int .u8 0, .int .u64 0], .bool false]) (by simp [results, Tryz.results5, go_sem]) rfl ⟨rfl, ?_⟩
    (repeat' (first | (with_reducible exact Chg.refl _ _) | (with_reducible assumption) | (with_reducible refine Chg.alloc ?_ _) | (with_reducible refine Chg.drewN ?_ _) | (with_reducible refine Chg.drew ?_) | (with_reducible refine Chg.setCell ?_ _ ?_) | (apply Or.inl; with_reducible rfl) | (apply Or.inl; simp; done) | (apply Or.inr; simp; done) | (apply Or.inr; simp; omega)))

set_option maxRecDepth 100000 in
theorem zsWaiting_no {w : World} {v : Value} (h : NoOneI 0 w v) (i : Int) : Calls Tryz.prog 6 #[v, .int .i64 i] w fun e w' => e = .returned (.tuple #[.int .i64 0, .int .i64 0]) ∧ Chg NoChg w w' := by
  have N := hide (fun (w' : World) (c : Chg NoChg w w') => zsNone_yes (h.keep c))
  clear h
  go_enter Tryz.func6, Tryz.ntmps6
  go_wp2_with fail
  refine (N.out _ (by (repeat' (first | (with_reducible exact Chg.refl _ _) | (with_reducible assumption) | (with_reducible refine Chg.alloc ?_ _) | (with_reducible refine Chg.drewN ?_ _) | (with_reducible refine Chg.drew ?_) | (with_reducible refine Chg.setCell ?_ _ ?_) | (apply Or.inl; with_reducible rfl) | (apply Or.inl; simp; done) | (apply Or.inr; simp; done) | (apply Or.inr; simp; omega))))).mono ?_
  rintro e w1 ⟨rfl, rfl⟩
  go_wp2
  refine bodyPost_ret (v := .tuple #[.int .i64 0, .int .i64 0]) (by simp [results, Tryz.results6, go_sem]) rfl ⟨rfl, ?_⟩
  (repeat' (first | (with_reducible exact Chg.refl _ _) | (with_reducible assumption) | (with_reducible refine Chg.alloc ?_ _) | (with_reducible refine Chg.drewN ?_ _) | (with_reducible refine Chg.drew ?_) | (with_reducible refine Chg.setCell ?_ _ ?_) | (apply Or.inl; with_reducible rfl) | (apply Or.inl; simp; done) | (apply Or.inr; simp; done) | (apply Or.inr; simp; omega)))

set_option maxRecDepth 100000 in
theorem zsTicks_no {w : World} {v : Value} (h : NoOneI 0 w v) (i : Int) : Calls Tryz.prog 7 #[v, .int .i64 i] w fun e w' => e = .returned (.tuple #[.int .u64 9223372036854775808, .int .u64 9223372036854775808, .int .u64 9223372036854775808]) ∧ Chg NoChg w w' := by
  have N := hide (fun (w' : World) (c : Chg NoChg w w') => zsNone_yes (h.keep c))
  clear h
  go_enter Tryz.func7, Tryz.ntmps7
  go_wp2_with fail
  refine (N.out _ (by (repeat' (first | (with_reducible exact Chg.refl _ _) | (with_reducible assumption) | (with_reducible refine Chg.alloc ?_ _) | (with_reducible refine Chg.drewN ?_ _) | (with_reducible refine Chg.drew ?_) | (with_reducible refine Chg.setCell ?_ _ ?_) | (apply Or.inl; with_reducible rfl) | (apply Or.inl; simp; done) | (apply Or.inr; simp; done) | (apply Or.inr; simp; omega))))).mono ?_
  rintro e w1 ⟨rfl, rfl⟩
  go_wp2
  refine bodyPost_ret (v := .tuple #[.int .u64 9223372036854775808, .int .u64 9223372036854775808, .int .u64 9223372036854775808]) (by simp [results, Tryz.results7, go_sem]) rfl ⟨rfl, ?_⟩
  (repeat' (first | (with_reducible exact Chg.refl _ _) | (with_reducible assumption) | (with_reducible refine Chg.alloc ?_ _) | (with_reducible refine Chg.drewN ?_ _) | (with_reducible refine Chg.drew ?_) | (with_reducible refine Chg.setCell ?_ _ ?_) | (apply Or.inl; with_reducible rfl) | (apply Or.inl; simp; done) | (apply Or.inr; simp; done) | (apply Or.inr; simp; omega)))

set_option maxRecDepth 100000 in
theorem zsShares_no {w : World} {v : Value} (h : NoOneI 0 w v) (i : Int) : Calls Tryz.prog 8 #[v, .int .i64 i] w fun e w' => e = .returned (.tuple #[.int .u64 0, .int .u64 0, .bool false]) ∧ Chg NoChg w w' := by
  have N := hide (fun (w' : World) (c : Chg NoChg w w') => zsNone_yes (h.keep c))
  clear h
  go_enter Tryz.func8, Tryz.ntmps8
  go_wp2_with fail
  refine (N.out _ (by (repeat' (first | (with_reducible exact Chg.refl _ _) | (with_reducible assumption) | (with_reducible refine Chg.alloc ?_ _) | (with_reducible refine Chg.drewN ?_ _) | (with_reducible refine Chg.drew ?_) | (with_reducible refine Chg.setCell ?_ _ ?_) | (apply Or.inl; with_reducible rfl) | (apply Or.inl; simp; done) | (apply Or.inr; simp; done) | (apply Or.inr; simp; omega))))).mono ?_
  rintro e w1 ⟨rfl, rfl⟩
  go_wp2
  refine bodyPost_ret (v := .tuple #[.int .u64 0, .int .u64 0, .bool false]) (by simp [results, Tryz.results8, go_sem]) rfl ⟨rfl, ?_⟩
  (repeat' (first | (with_reducible exact Chg.refl _ _) | (with_reducible assumption) | (with_reducible refine Chg.alloc ?_ _) | (with_reducible refine Chg.drewN ?_ _) | (with_reducible refine Chg.drew ?_) | (with_reducible refine Chg.setCell ?_ _ ?_) | (apply Or.inl; with_reducible rfl) | (apply Or.inl; simp; done) | (apply Or.inr; simp; done) | (apply Or.inr; simp; omega)))

set_option maxRecDepth 100000 in
theorem zsAdd_no {w : World} {v : Value} (h : NoOneI 0 w v) (s : SpecR) : Calls Tryz.prog 9 #[v, .agg #[.int .i64 s.id, .int .i64 s.par, .bool s.leaf, .int .u64 s.rf, .int .u64 s.rl, .int .u64 s.rr, .int .u64 s.sf, .int .u64 s.sl, .int .u64 s.sr, .int .u64 s.uf, .int .u64 s.ul, .int .u64 s.ur, .int .i64 s.pk, .int .i64 s.bt]] w fun e w' => e = .returned (.int .i64 1) ∧ Chg NoChg w w' := by
  have N := hide (fun (w' : World) (c : Chg NoChg w w') => zsNone_yes (h.keep c))
  clear h
  go_enter Tryz.func9, Tryz.ntmps9
  go_wp2_with fail
  refine (N.out _ (by (repeat' (first | (with_reducible exact Chg.refl _ _) | (with_reducible assumption) | (with_reducible refine Chg.alloc ?_ _) | (with_reducible refine Chg.drewN ?_ _) | (with_reducible refine Chg.drew ?_) | (with_reducible refine Chg.setCell ?_ _ ?_) | (apply Or.inl; with_reducible rfl) | (apply Or.inl; simp; done) | (apply Or.inr; simp; done) | (apply Or.inr; simp; omega))))).mono ?_
  rintro e w1 ⟨rfl, rfl⟩
  go_wp2
  refine bodyPost_ret (v := .int .i64 1) (by simp [results, Tryz.results9, go_sem]) rfl ⟨rfl, ?_⟩
  (repeat' (first | (with_reducible exact Chg.refl _ _) | (with_reducible assumption) | (with_reducible refine Chg.alloc ?_ _) | (with_reducible refine Chg.drewN ?_ _) | (with_reducible refine Chg.drew ?_) | (with_reducible refine Chg.setCell ?_ _ ?_) | (apply Or.inl; with_reducible rfl) | (apply Or.inl; simp; done) | (apply Or.inr; simp; done) | (apply Or.inr; simp; omega)))

set_option maxRecDepth 100000 in
theorem zsChange_no {w : World} {v : Value} (h : NoOneI 0 w v) (s : SpecR) : Calls Tryz.prog 10 #[v, .agg #[.int .i64 s.id, .int .i64 s.par, .bool s.leaf, .int .u64 s.rf, .int .u64 s.rl, .int .u64 s.rr, .int .u64 s.sf, .int .u64 s.sl, .int .u64 s.sr, .int .u64 s.uf, .int .u64 s.ul, .int .u64 s.ur, .int .i64 s.pk, .int .i64 s.bt]] w fun e w' => e = .returned (.int .i64 1) ∧ Chg NoChg w w' := by
  have N := hide (fun (w' : World) (c : Chg NoChg w w') => zsNone_yes (h.keep c))
  clear h
  go_enter Tryz.func10, Tryz.ntmps10
  go_wp2_with fail
  refine (N.out _ (by (repeat' (first | (with_reducible exact Chg.refl _ _) | (with_reducible assumption) | (with_reducible refine Chg.alloc ?_ _) | (with_reducible refine Chg.drewN ?_ _) | (with_reducible refine Chg.drew ?_) | (with_reducible refine Chg.setCell ?_ _ ?_) | (apply Or.inl; with_reducible rfl) | (apply Or.inl; simp; done) | (apply Or.inr; simp; done) | (apply Or.inr; simp; omega))))).mono ?_
  rintro e w1 ⟨rfl, rfl⟩
  go_wp2
  refine bodyPost_ret (v := .int .i64 1) (by simp [results, Tryz.results10, go_sem]) rfl ⟨rfl, ?_⟩
  (repeat' (first | (with_reducible exact Chg.refl _ _) | (with_reducible assumption) | (with_reducible refine Chg.alloc ?_ _) | (with_reducible refine Chg.drewN ?_ _) | (with_reducible refine Chg.drew ?_) | (with_reducible refine Chg.setCell ?_ _ ?_) | (apply Or.inl; with_reducible rfl) | (apply Or.inl; simp; done) | (apply Or.inr; simp; done) | (apply Or.inr; simp; omega)))

set_option maxRecDepth 100000 in
theorem zsDrop_no {w : World} {v : Value} (h : NoOneI 0 w v) (i : Int) : Calls Tryz.prog 11 #[v, .int .i64 i] w fun e w' => e = .returned (.int .i64 1) ∧ Chg NoChg w w' := by
  have N := hide (fun (w' : World) (c : Chg NoChg w w') => zsNone_yes (h.keep c))
  clear h
  go_enter Tryz.func11, Tryz.ntmps11
  go_wp2_with fail
  refine (N.out _ (by (repeat' (first | (with_reducible exact Chg.refl _ _) | (with_reducible assumption) | (with_reducible refine Chg.alloc ?_ _) | (with_reducible refine Chg.drewN ?_ _) | (with_reducible refine Chg.drew ?_) | (with_reducible refine Chg.setCell ?_ _ ?_) | (apply Or.inl; with_reducible rfl) | (apply Or.inl; simp; done) | (apply Or.inr; simp; done) | (apply Or.inr; simp; omega))))).mono ?_
  rintro e w1 ⟨rfl, rfl⟩
  go_wp2
  refine bodyPost_ret (v := .int .i64 1) (by simp [results, Tryz.results11, go_sem]) rfl ⟨rfl, ?_⟩
  (repeat' (first | (with_reducible exact Chg.refl _ _) | (with_reducible assumption) | (with_reducible refine Chg.alloc ?_ _) | (with_reducible refine Chg.drewN ?_ _) | (with_reducible refine Chg.drew ?_) | (with_reducible refine Chg.setCell ?_ _ ?_) | (apply Or.inl; with_reducible rfl) | (apply Or.inl; simp; done) | (apply Or.inr; simp; done) | (apply Or.inr; simp; omega)))

set_option maxRecDepth 100000 in
theorem zsPush_no {w : World} {v : Value} (h : NoOneI 0 w v) (p : PktR) (t : Int) : Calls Tryz.prog 12 #[v, .agg #[.int .u64 p.id, .int .i64 p.cls, .int .i64 p.len, .int .u64 p.at_], .int .u64 t] w fun e w' => e = .returned (.int .i64 1) ∧ Chg NoChg w w' := by
  have N := hide (fun (w' : World) (c : Chg NoChg w w') => zsNone_yes (h.keep c))
  clear h
  go_enter Tryz.func12, Tryz.ntmps12
  go_wp2_with fail
  refine (N.out _ (by (repeat' (first | (with_reducible exact Chg.refl _ _) | (with_reducible assumption) | (with_reducible refine Chg.alloc ?_ _) | (with_reducible refine Chg.drewN ?_ _) | (with_reducible refine Chg.drew ?_) | (with_reducible refine Chg.setCell ?_ _ ?_) | (apply Or.inl; with_reducible rfl) | (apply Or.inl; simp; done) | (apply Or.inr; simp; done) | (apply Or.inr; simp; omega))))).mono ?_
  rintro e w1 ⟨rfl, rfl⟩
  go_wp2
  refine bodyPost_ret (v := .int .i64 1) (by simp [results, Tryz.results12, go_sem]) rfl ⟨rfl, ?_⟩
  (repeat' (first | (with_reducible exact Chg.refl _ _) | (with_reducible assumption) | (with_reducible refine Chg.alloc ?_ _) | (with_reducible refine Chg.drewN ?_ _) | (with_reducible refine Chg.drew ?_) | (with_reducible refine Chg.setCell ?_ _ ?_) | (apply Or.inl; with_reducible rfl) | (apply Or.inl; simp; done) | (apply Or.inr; simp; done) | (apply Or.inr; simp; omega)))

set_option maxRecDepth 100000 in
theorem zsTick_no {w : World} {v : Value} (h : NoOneI 0 w v)  : Calls Tryz.prog 13 #[v] w fun e w' => e = .returned (.int .u64 9223372036854775808) ∧ Chg NoChg w w' := by
  have N := hide (fun (w' : World) (c : Chg NoChg w w') => zsNone_yes (h.keep c))
  clear h
  go_enter Tryz.func13, Tryz.ntmps13
  go_wp2_with fail
  refine (N.out _ (by (repeat' (first | (with_reducible exact Chg.refl _ _) | (with_reducible assumption) | (with_reducible refine Chg.alloc ?_ _) | (with_reducible refine Chg.drewN ?_ _) | (with_reducible refine Chg.drew ?_) | (with_reducible refine Chg.setCell ?_ _ ?_) | (apply Or.inl; with_reducible rfl) | (apply Or.inl; simp; done) | (apply Or.inr; simp; done) | (apply Or.inr; simp; omega))))).mono ?_
  rintro e w1 ⟨rfl, rfl⟩
  go_wp2
  refine bodyPost_ret (v := .int .u64 9223372036854775808) (by simp [results, Tryz.results13, go_sem]) rfl ⟨rfl, ?_⟩
  (repeat' (first | (with_reducible exact Chg.refl _ _) | (with_reducible assumption) | (with_reducible refine Chg.alloc ?_ _) | (with_reducible refine Chg.drewN ?_ _) | (with_reducible refine Chg.drew ?_) | (with_reducible refine Chg.setCell ?_ _ ?_) | (apply Or.inl; with_reducible rfl) | (apply Or.inl; simp; done) | (apply Or.inr; simp; done) | (apply Or.inr; simp; omega)))

set_option maxRecDepth 100000 in
theorem zsClasses_no {w : World} {v : Value} (h : NoOneI 0 w v)  : Calls Tryz.prog 14 #[v] w fun e w' => e = .returned (.pointer none) ∧ Chg NoChg w w' := by
  have N := hide (fun (w' : World) (c : Chg NoChg w w') => zsNone_yes (h.keep c))
  clear h
  go_enter Tryz.func14, Tryz.ntmps14
  go_wp2_with fail
  refine (N.out _ (by (repeat' (first | (with_reducible exact Chg.refl _ _) | (with_reducible assumption) | (with_reducible refine Chg.alloc ?_ _) | (with_reducible refine Chg.drewN ?_ _) | (with_reducible refine Chg.drew ?_) | (with_reducible refine Chg.setCell ?_ _ ?_) | (apply Or.inl; with_reducible rfl) | (apply Or.inl; simp; done) | (apply Or.inr; simp; done) | (apply Or.inr; simp; omega))))).mono ?_
  rintro e w1 ⟨rfl, rfl⟩
  go_wp2
  refine bodyPost_ret (v := .pointer none) (by simp [results, Tryz.results14, go_sem]) rfl ⟨rfl, ?_⟩
  (repeat' (first | (with_reducible exact Chg.refl _ _) | (with_reducible assumption) | (with_reducible refine Chg.alloc ?_ _) | (with_reducible refine Chg.drewN ?_ _) | (with_reducible refine Chg.drew ?_) | (with_reducible refine Chg.setCell ?_ _ ?_) | (apply Or.inl; with_reducible rfl) | (apply Or.inl; simp; done) | (apply Or.inr; simp; done) | (apply Or.inr; simp; omega)))

set_option maxRecDepth 100000 in
theorem zsOwed_no {w : World} {v : Value} (h : NoOneI 0 w v)  : Calls Tryz.prog 15 #[v] w fun e w' => e = .returned (.bool false) ∧ Chg NoChg w w' := by
  have N := hide (fun (w' : World) (c : Chg NoChg w w') => zsNone_yes (h.keep c))
  clear h
  go_enter Tryz.func15, Tryz.ntmps15
  go_wp2_with fail
  refine (N.out _ (by (repeat' (first | (with_reducible exact Chg.refl _ _) | (with_reducible assumption) | (with_reducible refine Chg.alloc ?_ _) | (with_reducible refine Chg.drewN ?_ _) | (with_reducible refine Chg.drew ?_) | (with_reducible refine Chg.setCell ?_ _ ?_) | (apply Or.inl; with_reducible rfl) | (apply Or.inl; simp; done) | (apply Or.inr; simp; done) | (apply Or.inr; simp; omega))))).mono ?_
  rintro e w1 ⟨rfl, rfl⟩
  go_wp2
  refine bodyPost_ret (v := .bool false) (by simp [results, Tryz.results15, go_sem]) rfl ⟨rfl, ?_⟩
  (repeat' (first | (with_reducible exact Chg.refl _ _) | (with_reducible assumption) | (with_reducible refine Chg.alloc ?_ _) | (with_reducible refine Chg.drewN ?_ _) | (with_reducible refine Chg.drew ?_) | (with_reducible refine Chg.setCell ?_ _ ?_) | (apply Or.inl; with_reducible rfl) | (apply Or.inl; simp; done) | (apply Or.inr; simp; done) | (apply Or.inr; simp; omega)))

theorem zsCopy_nil (w : World) : Calls Tryz.prog 16 #[.pointer none] w fun e w' => e = .returned (.pointer none) ∧ w = w' := by
  go_enter Tryz.func16, Tryz.ntmps16
  go_wp2
  go_ret
  exact ⟨rfl, rfl⟩

end Go.Proofs.YtpfkahpnfpockaaGreat
