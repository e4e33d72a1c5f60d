/- What nobody made: bound. -/
import Derived.Test.YtokfjablgkgffaaGreatNil
namespace Go.Proofs.YtokfjablgkgffaaGreat
set_option linter.unusedVariables false
open Go.RowKit

theorem bNone_yes {w : World} {v : Value} (h : NoOne 0 w v) : Calls Tryz.prog 149 #[v] w fun e w' => e = .returned (.bool true) ∧ w = w' := by
  rcases h with rfl | ⟨b, rfl, hb⟩
  · go_enter Tryz.func149, Tryz.ntmps149
    go_wp2
    go_ret
    exact ⟨rfl, rfl⟩
  · go_enter Tryz.func149, Tryz.ntmps149
    go_wp2
    go_ret
    exact ⟨rfl, rfl⟩

set_option maxRecDepth 100000 in
theorem bTold_no {w : World} {v : Value} (h : NoOne 0 w v) (i : Int) (fv : Value) : Calls Tryz.prog 145 #[v, .int .i64 i, fv] w fun e w' => e = .returned (.int .i64 1) ∧ Chg NoChg w w' := by
  have N := hide (fun (w' : World) (c : Chg NoChg w w') => bNone_yes (h.keep c))
  clear h
  go_enter Tryz.func145, Tryz.ntmps145
  go_wp2_with fail
  refine (N.out _ (by (repeat' (first | (with_reducible exact Chg.refl _ _) | (with_reducible assumption) | (with_reducible refine Chg.alloc ?_ _) | (with_reducible refine Chg.drewN ?_ _) | (with_reducible refine Chg.drew ?_) | (with_reducible refine Chg.setCell ?_ _ ?_) | (apply Or.inl; with_reducible rfl) | (apply Or.inl; simp; done) | (apply Or.inr; simp; done) | (apply Or.inr; simp; omega))))).mono ?_
  rintro e w1 ⟨rfl, rfl⟩
  go_wp2
  refine bodyPost_ret (v := .int .i64 1) (by simp [results, Tryz.results145, go_sem]) rfl ⟨rfl, ?_⟩
  (repeat' (first | (with_reducible exact Chg.refl _ _) | (with_reducible assumption) | (with_reducible refine Chg.alloc ?_ _) | (with_reducible refine Chg.drewN ?_ _) | (with_reducible refine Chg.drew ?_) | (with_reducible refine Chg.setCell ?_ _ ?_) | (apply Or.inl; with_reducible rfl) | (apply Or.inl; simp; done) | (apply Or.inr; simp; done) | (apply Or.inr; simp; omega)))

set_option maxRecDepth 100000 in
theorem bArrive_no {w : World} {v : Value} (h : NoOne 0 w v) (p : PktR) : Calls Tryz.prog 55 #[v, .agg #[.int .u64 p.id, .int .i64 p.cls, .int .i64 p.len, .int .u64 p.at_]] w fun e w' => e = .returned (.int .i64 1) ∧ Chg NoChg w w' := by
  have N := hide (fun (w' : World) (c : Chg NoChg w w') => bNone_yes (h.keep c))
  clear h
  go_enter Tryz.func55, Tryz.ntmps55
  go_wp2_with fail
  refine (N.out _ (by (repeat' (first | (with_reducible exact Chg.refl _ _) | (with_reducible assumption) | (with_reducible refine Chg.alloc ?_ _) | (with_reducible refine Chg.drewN ?_ _) | (with_reducible refine Chg.drew ?_) | (with_reducible refine Chg.setCell ?_ _ ?_) | (apply Or.inl; with_reducible rfl) | (apply Or.inl; simp; done) | (apply Or.inr; simp; done) | (apply Or.inr; simp; omega))))).mono ?_
  rintro e w1 ⟨rfl, rfl⟩
  go_wp2
  refine bodyPost_ret (v := .int .i64 1) (by simp [results, Tryz.results55, go_sem]) rfl ⟨rfl, ?_⟩
  (repeat' (first | (with_reducible exact Chg.refl _ _) | (with_reducible assumption) | (with_reducible refine Chg.alloc ?_ _) | (with_reducible refine Chg.drewN ?_ _) | (with_reducible refine Chg.drew ?_) | (with_reducible refine Chg.setCell ?_ _ ?_) | (apply Or.inl; with_reducible rfl) | (apply Or.inl; simp; done) | (apply Or.inr; simp; done) | (apply Or.inr; simp; omega)))

set_option maxRecDepth 100000 in
theorem bAdvance_no {w : World} {v : Value} (h : NoOne 0 w v) (t : Int) : Calls Tryz.prog 56 #[v, .int .u64 t] w fun e w' => e = .returned (.int .i64 1) ∧ Chg NoChg w w' := by
  have N := hide (fun (w' : World) (c : Chg NoChg w w') => bNone_yes (h.keep c))
  clear h
  go_enter Tryz.func56, Tryz.ntmps56
  go_wp2_with fail
  refine (N.out _ (by (repeat' (first | (with_reducible exact Chg.refl _ _) | (with_reducible assumption) | (with_reducible refine Chg.alloc ?_ _) | (with_reducible refine Chg.drewN ?_ _) | (with_reducible refine Chg.drew ?_) | (with_reducible refine Chg.setCell ?_ _ ?_) | (apply Or.inl; with_reducible rfl) | (apply Or.inl; simp; done) | (apply Or.inr; simp; done) | (apply Or.inr; simp; omega))))).mono ?_
  rintro e w1 ⟨rfl, rfl⟩
  go_wp2
  refine bodyPost_ret (v := .int .i64 1) (by simp [results, Tryz.results56, go_sem]) rfl ⟨rfl, ?_⟩
  (repeat' (first | (with_reducible exact Chg.refl _ _) | (with_reducible assumption) | (with_reducible refine Chg.alloc ?_ _) | (with_reducible refine Chg.drewN ?_ _) | (with_reducible refine Chg.drew ?_) | (with_reducible refine Chg.setCell ?_ _ ?_) | (apply Or.inl; with_reducible rfl) | (apply Or.inl; simp; done) | (apply Or.inr; simp; done) | (apply Or.inr; simp; omega)))

set_option maxRecDepth 100000 in
theorem bHost_no {w : World} {v : Value} (h : NoOne 0 w v)  : Calls Tryz.prog 57 #[v] w fun e w' => e = .returned (.pointer none) ∧ Chg NoChg w w' := by
  have N := hide (fun (w' : World) (c : Chg NoChg w w') => bNone_yes (h.keep c))
  clear h
  go_enter Tryz.func57, Tryz.ntmps57
  go_wp2_with fail
  refine (N.out _ (by (repeat' (first | (with_reducible exact Chg.refl _ _) | (with_reducible assumption) | (with_reducible refine Chg.alloc ?_ _) | (with_reducible refine Chg.drewN ?_ _) | (with_reducible refine Chg.drew ?_) | (with_reducible refine Chg.setCell ?_ _ ?_) | (apply Or.inl; with_reducible rfl) | (apply Or.inl; simp; done) | (apply Or.inr; simp; done) | (apply Or.inr; simp; omega))))).mono ?_
  rintro e w1 ⟨rfl, rfl⟩
  go_wp2
  refine bodyPost_ret (v := .pointer none) (by simp [results, Tryz.results57, go_sem]) rfl ⟨rfl, ?_⟩
  (repeat' (first | (with_reducible exact Chg.refl _ _) | (with_reducible assumption) | (with_reducible refine Chg.alloc ?_ _) | (with_reducible refine Chg.drewN ?_ _) | (with_reducible refine Chg.drew ?_) | (with_reducible refine Chg.setCell ?_ _ ?_) | (apply Or.inl; with_reducible rfl) | (apply Or.inl; simp; done) | (apply Or.inr; simp; done) | (apply Or.inr; simp; omega)))

set_option maxRecDepth 100000 in
theorem bWakes_no {w : World} {v : Value} (h : NoOne 0 w v) (i : Int) : Calls Tryz.prog 58 #[v, .int .i64 i] w fun e w' => e = .returned (.slice none 0 0) ∧ Chg NoChg w w' := by
  have N := hide (fun (w' : World) (c : Chg NoChg w w') => bNone_yes (h.keep c))
  clear h
  go_enter Tryz.func58, Tryz.ntmps58
  go_wp2_with fail
  refine (N.out _ (by (repeat' (first | (with_reducible exact Chg.refl _ _) | (with_reducible assumption) | (with_reducible refine Chg.alloc ?_ _) | (with_reducible refine Chg.drewN ?_ _) | (with_reducible refine Chg.drew ?_) | (with_reducible refine Chg.setCell ?_ _ ?_) | (apply Or.inl; with_reducible rfl) | (apply Or.inl; simp; done) | (apply Or.inr; simp; done) | (apply Or.inr; simp; omega))))).mono ?_
  rintro e w1 ⟨rfl, rfl⟩
  go_wp2
  refine bodyPost_ret (v := .slice none 0 0) (by simp [results, Tryz.results58, go_sem]) rfl ⟨rfl, ?_⟩
  (repeat' (first | (with_reducible exact Chg.refl _ _) | (with_reducible assumption) | (with_reducible refine Chg.alloc ?_ _) | (with_reducible refine Chg.drewN ?_ _) | (with_reducible refine Chg.drew ?_) | (with_reducible refine Chg.setCell ?_ _ ?_) | (apply Or.inl; with_reducible rfl) | (apply Or.inl; simp; done) | (apply Or.inr; simp; done) | (apply Or.inr; simp; omega)))

set_option maxRecDepth 100000 in
theorem bReport_no {w : World} {v : Value} (h : NoOne 0 w v)  : Calls Tryz.prog 59 #[v] w fun e w' => e = .returned (.agg #[.int .i64 0, .int .i64 0, .int .i64 0]) ∧ Chg NoChg w w' := by
  have N := hide (fun (w' : World) (c : Chg NoChg w w') => bNone_yes (h.keep c))
  clear h
  go_enter Tryz.func59, Tryz.ntmps59
  go_wp2_with fail
  refine (N.out _ (by (repeat' (first | (with_reducible exact Chg.refl _ _) | (with_reducible assumption) | (with_reducible refine Chg.alloc ?_ _) | (with_reducible refine Chg.drewN ?_ _) | (with_reducible refine Chg.drew ?_) | (with_reducible refine Chg.setCell ?_ _ ?_) | (apply Or.inl; with_reducible rfl) | (apply Or.inl; simp; done) | (apply Or.inr; simp; done) | (apply Or.inr; simp; omega))))).mono ?_
  rintro e w1 ⟨rfl, rfl⟩
  go_wp2
  refine bodyPost_ret (v := .agg #[.int .i64 0, .int .i64 0, .int .i64 0]) (by simp [results, Tryz.results59, go_sem]) rfl ⟨rfl, ?_⟩
  (repeat' (first | (with_reducible exact Chg.refl _ _) | (with_reducible assumption) | (with_reducible refine Chg.alloc ?_ _) | (with_reducible refine Chg.drewN ?_ _) | (with_reducible refine Chg.drew ?_) | (with_reducible refine Chg.setCell ?_ _ ?_) | (apply Or.inl; with_reducible rfl) | (apply Or.inl; simp; done) | (apply Or.inr; simp; done) | (apply Or.inr; simp; omega)))

set_option maxRecDepth 100000 in
theorem bWidth_no {w : World} {v : Value} (h : NoOne 0 w v)  : Calls Tryz.prog 60 #[v] w fun e w' => e = .returned (.int .u64 0) ∧ Chg NoChg w w' := by
  have N := hide (fun (w' : World) (c : Chg NoChg w w') => bNone_yes (h.keep c))
  clear h
  go_enter Tryz.func60, Tryz.ntmps60
  go_wp2_with fail
  refine (N.out _ (by (repeat' (first | (with_reducible exact Chg.refl _ _) | (with_reducible assumption) | (with_reducible refine Chg.alloc ?_ _) | (with_reducible refine Chg.drewN ?_ _) | (with_reducible refine Chg.drew ?_) | (with_reducible refine Chg.setCell ?_ _ ?_) | (apply Or.inl; with_reducible rfl) | (apply Or.inl; simp; done) | (apply Or.inr; simp; done) | (apply Or.inr; simp; omega))))).mono ?_
  rintro e w1 ⟨rfl, rfl⟩
  go_wp2
  refine bodyPost_ret (v := .int .u64 0) (by simp [results, Tryz.results60, go_sem]) rfl ⟨rfl, ?_⟩
  (repeat' (first | (with_reducible exact Chg.refl _ _) | (with_reducible assumption) | (with_reducible refine Chg.alloc ?_ _) | (with_reducible refine Chg.drewN ?_ _) | (with_reducible refine Chg.drew ?_) | (with_reducible refine Chg.setCell ?_ _ ?_) | (apply Or.inl; with_reducible rfl) | (apply Or.inl; simp; done) | (apply Or.inr; simp; done) | (apply Or.inr; simp; omega)))

set_option maxRecDepth 100000 in
theorem bAdd_no {w : World} {v : Value} (h : NoOne 0 w v) (s : SpecR) : Calls Tryz.prog 52 #[v, .agg #[.int .i64 s.id, .int .i64 s.par, .bool s.leaf, .int .u64 s.rf, .int .u64 s.rl, .int .u64 s.rr, .int .u64 s.sf, .int .u64 s.sl, .int .u64 s.sr, .int .u64 s.uf, .int .u64 s.ul, .int .u64 s.ur, .int .i64 s.pk, .int .i64 s.bt]] w fun e w' => e = .returned (.int .i64 1) ∧ Chg NoChg w w' := by
  have hh := h
  rcases h with rfl | ⟨b, rfl, hb⟩
  · have N := hide (fun (w' : World) (fv : Value) (c : Chg NoChg w w') => bTold_no (hh.keep c) s.id fv)
    clear hh
    go_enter Tryz.func52, Tryz.ntmps52
    go_wp2_with fail
    refine (N.out _ _ (by (repeat' (first | (with_reducible exact Chg.refl _ _) | (with_reducible assumption) | (with_reducible refine Chg.alloc ?_ _) | (with_reducible refine Chg.drewN ?_ _) | (with_reducible refine Chg.drew ?_) | (with_reducible refine Chg.setCell ?_ _ ?_) | (apply Or.inl; with_reducible rfl) | (apply Or.inl; simp; done) | (apply Or.inr; simp; done) | (apply Or.inr; simp; omega))))).mono ?_
    rintro e w1 ⟨rfl, c1⟩
    have C1 := hide c1
    clear c1
    go_wp2
    refine bodyPost_ret (v := .int .i64 1) (by simp [results, Tryz.results52, go_sem]) rfl ⟨rfl, ?_⟩
    refine Chg.trans' ?_ C1.out
    (repeat' (first | (with_reducible exact Chg.refl _ _) | (with_reducible assumption) | (with_reducible refine Chg.alloc ?_ _) | (with_reducible refine Chg.drewN ?_ _) | (with_reducible refine Chg.drew ?_) | (with_reducible refine Chg.setCell ?_ _ ?_) | (apply Or.inl; with_reducible rfl) | (apply Or.inl; simp; done) | (apply Or.inr; simp; done) | (apply Or.inr; simp; omega)))
  · have N := hide (fun (w' : World) (fv : Value) (c : Chg NoChg w w') => bTold_no (hh.keep c) s.id fv)
    clear hh hb
    go_enter Tryz.func52, Tryz.ntmps52
    go_wp2_with fail
    refine (N.out _ _ (by (repeat' (first | (with_reducible exact Chg.refl _ _) | (with_reducible assumption) | (with_reducible refine Chg.alloc ?_ _) | (with_reducible refine Chg.drewN ?_ _) | (with_reducible refine Chg.drew ?_) | (with_reducible refine Chg.setCell ?_ _ ?_) | (apply Or.inl; with_reducible rfl) | (apply Or.inl; simp; done) | (apply Or.inr; simp; done) | (apply Or.inr; simp; omega))))).mono ?_
    rintro e w1 ⟨rfl, c1⟩
    have C1 := hide c1
    clear c1
    go_wp2
    refine bodyPost_ret (v := .int .i64 1) (by simp [results, Tryz.results52, go_sem]) rfl ⟨rfl, ?_⟩
    refine Chg.trans' ?_ C1.out
    (repeat' (first | (with_reducible exact Chg.refl _ _) | (with_reducible assumption) | (with_reducible refine Chg.alloc ?_ _) | (with_reducible refine Chg.drewN ?_ _) | (with_reducible refine Chg.drew ?_) | (with_reducible refine Chg.setCell ?_ _ ?_) | (apply Or.inl; with_reducible rfl) | (apply Or.inl; simp; done) | (apply Or.inr; simp; done) | (apply Or.inr; simp; omega)))

set_option maxRecDepth 100000 in
theorem bChange_no {w : World} {v : Value} (h : NoOne 0 w v) (s : SpecR) : Calls Tryz.prog 53 #[v, .agg #[.int .i64 s.id, .int .i64 s.par, .bool s.leaf, .int .u64 s.rf, .int .u64 s.rl, .int .u64 s.rr, .int .u64 s.sf, .int .u64 s.sl, .int .u64 s.sr, .int .u64 s.uf, .int .u64 s.ul, .int .u64 s.ur, .int .i64 s.pk, .int .i64 s.bt]] w fun e w' => e = .returned (.int .i64 1) ∧ Chg NoChg w w' := by
  have hh := h
  rcases h with rfl | ⟨b, rfl, hb⟩
  · have N := hide (fun (w' : World) (fv : Value) (c : Chg NoChg w w') => bTold_no (hh.keep c) s.id fv)
    clear hh
    go_enter Tryz.func53, Tryz.ntmps53
    go_wp2_with fail
    refine (N.out _ _ (by (repeat' (first | (with_reducible exact Chg.refl _ _) | (with_reducible assumption) | (with_reducible refine Chg.alloc ?_ _) | (with_reducible refine Chg.drewN ?_ _) | (with_reducible refine Chg.drew ?_) | (with_reducible refine Chg.setCell ?_ _ ?_) | (apply Or.inl; with_reducible rfl) | (apply Or.inl; simp; done) | (apply Or.inr; simp; done) | (apply Or.inr; simp; omega))))).mono ?_
    rintro e w1 ⟨rfl, c1⟩
    have C1 := hide c1
    clear c1
    go_wp2
    refine bodyPost_ret (v := .int .i64 1) (by simp [results, Tryz.results53, go_sem]) rfl ⟨rfl, ?_⟩
    refine Chg.trans' ?_ C1.out
    (repeat' (first | (with_reducible exact Chg.refl _ _) | (with_reducible assumption) | (with_reducible refine Chg.alloc ?_ _) | (with_reducible refine Chg.drewN ?_ _) | (with_reducible refine Chg.drew ?_) | (with_reducible refine Chg.setCell ?_ _ ?_) | (apply Or.inl; with_reducible rfl) | (apply Or.inl; simp; done) | (apply Or.inr; simp; done) | (apply Or.inr; simp; omega)))
  · have N := hide (fun (w' : World) (fv : Value) (c : Chg NoChg w w') => bTold_no (hh.keep c) s.id fv)
    clear hh hb
    go_enter Tryz.func53, Tryz.ntmps53
    go_wp2_with fail
    refine (N.out _ _ (by (repeat' (first | (with_reducible exact Chg.refl _ _) | (with_reducible assumption) | (with_reducible refine Chg.alloc ?_ _) | (with_reducible refine Chg.drewN ?_ _) | (with_reducible refine Chg.drew ?_) | (with_reducible refine Chg.setCell ?_ _ ?_) | (apply Or.inl; with_reducible rfl) | (apply Or.inl; simp; done) | (apply Or.inr; simp; done) | (apply Or.inr; simp; omega))))).mono ?_
    rintro e w1 ⟨rfl, c1⟩
    have C1 := hide c1
    clear c1
    go_wp2
    refine bodyPost_ret (v := .int .i64 1) (by simp [results, Tryz.results53, go_sem]) rfl ⟨rfl, ?_⟩
    refine Chg.trans' ?_ C1.out
    (repeat' (first | (with_reducible exact Chg.refl _ _) | (with_reducible assumption) | (with_reducible refine Chg.alloc ?_ _) | (with_reducible refine Chg.drewN ?_ _) | (with_reducible refine Chg.drew ?_) | (with_reducible refine Chg.setCell ?_ _ ?_) | (apply Or.inl; with_reducible rfl) | (apply Or.inl; simp; done) | (apply Or.inr; simp; done) | (apply Or.inr; simp; omega)))

set_option maxRecDepth 100000 in
theorem bDrop_no {w : World} {v : Value} (h : NoOne 0 w v) (i : Int) : Calls Tryz.prog 54 #[v, .int .i64 i] w fun e w' => e = .returned (.int .i64 1) ∧ Chg NoChg w w' := by
  have hh := h
  rcases h with rfl | ⟨b, rfl, hb⟩
  · have N := hide (fun (w' : World) (fv : Value) (c : Chg NoChg w w') => bTold_no (hh.keep c) i fv)
    clear hh
    go_enter Tryz.func54, Tryz.ntmps54
    go_wp2_with fail
    refine (N.out _ _ (by (repeat' (first | (with_reducible exact Chg.refl _ _) | (with_reducible assumption) | (with_reducible refine Chg.alloc ?_ _) | (with_reducible refine Chg.drewN ?_ _) | (with_reducible refine Chg.drew ?_) | (with_reducible refine Chg.setCell ?_ _ ?_) | (apply Or.inl; with_reducible rfl) | (apply Or.inl; simp; done) | (apply Or.inr; simp; done) | (apply Or.inr; simp; omega))))).mono ?_
    rintro e w1 ⟨rfl, c1⟩
    have C1 := hide c1
    clear c1
    go_wp2
    refine bodyPost_ret (v := .int .i64 1) (by simp [results, Tryz.results54, go_sem]) rfl ⟨rfl, ?_⟩
    refine Chg.trans' ?_ C1.out
    (repeat' (first | (with_reducible exact Chg.refl _ _) | (with_reducible assumption) | (with_reducible refine Chg.alloc ?_ _) | (with_reducible refine Chg.drewN ?_ _) | (with_reducible refine Chg.drew ?_) | (with_reducible refine Chg.setCell ?_ _ ?_) | (apply Or.inl; with_reducible rfl) | (apply Or.inl; simp; done) | (apply Or.inr; simp; done) | (apply Or.inr; simp; omega)))
  · have N := hide (fun (w' : World) (fv : Value) (c : Chg NoChg w w') => bTold_no (hh.keep c) i fv)
    clear hh hb
    go_enter Tryz.func54, Tryz.ntmps54
    go_wp2_with fail
    refine (N.out _ _ (by (repeat' (first | (with_reducible exact Chg.refl _ _) | (with_reducible assumption) | (with_reducible refine Chg.alloc ?_ _) | (with_reducible refine Chg.drewN ?_ _) | (with_reducible refine Chg.drew ?_) | (with_reducible refine Chg.setCell ?_ _ ?_) | (apply Or.inl; with_reducible rfl) | (apply Or.inl; simp; done) | (apply Or.inr; simp; done) | (apply Or.inr; simp; omega))))).mono ?_
    rintro e w1 ⟨rfl, c1⟩
    have C1 := hide c1
    clear c1
    go_wp2
    refine bodyPost_ret (v := .int .i64 1) (by simp [results, Tryz.results54, go_sem]) rfl ⟨rfl, ?_⟩
    refine Chg.trans' ?_ C1.out
    (repeat' (first | (with_reducible exact Chg.refl _ _) | (with_reducible assumption) | (with_reducible refine Chg.alloc ?_ _) | (with_reducible refine Chg.drewN ?_ _) | (with_reducible refine Chg.drew ?_) | (with_reducible refine Chg.setCell ?_ _ ?_) | (apply Or.inl; with_reducible rfl) | (apply Or.inl; simp; done) | (apply Or.inr; simp; done) | (apply Or.inr; simp; omega)))

end Go.Proofs.YtokfjablgkgffaaGreat
