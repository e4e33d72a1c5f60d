/- What nobody made: alter. -/
import Derived.Test.YtokfjablgkgffaaGreatNil
import Derived.Test.YtokfjablgkgffaaGreatPlan
namespace Go.Proofs.YtokfjablgkgffaaGreat
set_option linter.unusedVariables false
open Go.RowKit

theorem hNone_yes {w : World} {v : Value} (h : NoOne 0 w v) : Calls Tryz.prog 128 #[v] w fun e w' => e = .returned (.bool true) ∧ w = w' := by
  rcases h with rfl | ⟨b, rfl, hb⟩
  · go_enter Tryz.func128, Tryz.ntmps128
    go_wp2
    go_ret
    exact ⟨rfl, rfl⟩
  · go_enter Tryz.func128, Tryz.ntmps128
    go_wp2
    go_ret
    exact ⟨rfl, rfl⟩

set_option maxRecDepth 100000 in
theorem hTried_no {w : World} {v : Value} (h : NoOne 0 w v) (fa fb : Fn) (x1 y1 x2 y2 : Array Value) : Calls Tryz.prog 130 #[v, .func fa x1 y1, .func fb x2 y2] w fun e w' => e = .returned (.int .i64 1) ∧ Chg NoChg w w' := by
  have hh := h
  rcases h with rfl | ⟨b, rfl, hb⟩
  · have N := hide (fun (w' : World) (c : Chg NoChg w w') => hNone_yes (hh.keep c))
    clear hh
    go_enter Tryz.func130, Tryz.ntmps130
    go_wp2_with fail
    refine (N.out _ (by (repeat' (first | (with_reducible exact Chg.refl _ _) | (with_reducible assumption) | (with_reducible refine Chg.alloc ?_ _) | (with_reducible refine Chg.drewN ?_ _) | (with_reducible refine Chg.drew ?_) | (with_reducible refine Chg.setCell ?_ _ ?_) | (apply Or.inl; with_reducible rfl) | (apply Or.inl; simp; done) | (apply Or.inr; simp; done) | (apply Or.inr; simp; omega))))).mono ?_
    rintro e w1 ⟨rfl, rfl⟩
    go_wp2
    refine bodyPost_ret (v := .int .i64 1) (by simp [results, Tryz.results130, go_sem]) rfl ⟨rfl, ?_⟩
    (repeat' (first | (with_reducible exact Chg.refl _ _) | (with_reducible assumption) | (with_reducible refine Chg.alloc ?_ _) | (with_reducible refine Chg.drewN ?_ _) | (with_reducible refine Chg.drew ?_) | (with_reducible refine Chg.setCell ?_ _ ?_) | (apply Or.inl; with_reducible rfl) | (apply Or.inl; simp; done) | (apply Or.inr; simp; done) | (apply Or.inr; simp; omega)))
  · have N := hide (fun (w' : World) (c : Chg NoChg w w') => hNone_yes (hh.keep c))
    clear hh hb
    go_enter Tryz.func130, Tryz.ntmps130
    go_wp2_with fail
    refine (N.out _ (by (repeat' (first | (with_reducible exact Chg.refl _ _) | (with_reducible assumption) | (with_reducible refine Chg.alloc ?_ _) | (with_reducible refine Chg.drewN ?_ _) | (with_reducible refine Chg.drew ?_) | (with_reducible refine Chg.setCell ?_ _ ?_) | (apply Or.inl; with_reducible rfl) | (apply Or.inl; simp; done) | (apply Or.inr; simp; done) | (apply Or.inr; simp; omega))))).mono ?_
    rintro e w1 ⟨rfl, rfl⟩
    go_wp2
    refine bodyPost_ret (v := .int .i64 1) (by simp [results, Tryz.results130, go_sem]) rfl ⟨rfl, ?_⟩
    (repeat' (first | (with_reducible exact Chg.refl _ _) | (with_reducible assumption) | (with_reducible refine Chg.alloc ?_ _) | (with_reducible refine Chg.drewN ?_ _) | (with_reducible refine Chg.drew ?_) | (with_reducible refine Chg.setCell ?_ _ ?_) | (apply Or.inl; with_reducible rfl) | (apply Or.inl; simp; done) | (apply Or.inr; simp; done) | (apply Or.inr; simp; omega)))

set_option maxRecDepth 100000 in
theorem hStep_no {w : World} {v : Value} (h : NoOne 0 w v) (t : Int) : Calls Tryz.prog 41 #[v, .int .u64 t] w fun e w' => e = .returned (.tuple #[.agg #[.int .u8 0, .int .u64 0, .int .i64 0, .int .i64 0, .int .u64 0, .int .u8 0, .int .u64 0, .int .u64 0, .int .u64 0], .bool false]) ∧ Chg NoChg w w' := by
  have N := hide (fun (w' : World) (c : Chg NoChg w w') => hNone_yes (h.keep c))
  clear h
  go_enter Tryz.func41, Tryz.ntmps41
  go_wp2_with fail
  refine (N.out _ (by (repeat' (first | (with_reducible exact Chg.refl _ _) | (with_reducible assumption) | (with_reducible refine Chg.alloc ?_ _) | (with_reducible refine Chg.drewN ?_ _) | (with_reducible refine Chg.drew ?_) | (with_reducible refine Chg.setCell ?_ _ ?_) | (apply Or.inl; with_reducible rfl) | (apply Or.inl; simp; done) | (apply Or.inr; simp; done) | (apply Or.inr; simp; omega))))).mono ?_
  rintro e w1 ⟨rfl, rfl⟩
  go_wp2
  refine bodyPost_ret (v := .tuple #[.agg #[.int .u8 0, .int .u64 0, .int .i64 0, .int .i64 0, .int .u64 0, .int .u8 0, .int .u64 0, .int .u64 0, .int .u64 0], .bool false]) (by simp [results, Tryz.results41, go_sem]) rfl ⟨rfl, ?_⟩
  (repeat' (first | (with_reducible exact Chg.refl _ _) | (with_reducible assumption) | (with_reducible refine Chg.alloc ?_ _) | (with_reducible refine Chg.drewN ?_ _) | (with_reducible refine Chg.drew ?_) | (with_reducible refine Chg.setCell ?_ _ ?_) | (apply Or.inl; with_reducible rfl) | (apply Or.inl; simp; done) | (apply Or.inr; simp; done) | (apply Or.inr; simp; omega)))

set_option maxRecDepth 100000 in
theorem hArrive_no {w : World} {v : Value} (h : NoOne 0 w v) (p : PktR) : Calls Tryz.prog 45 #[v, .agg #[.int .u64 p.id, .int .i64 p.cls, .int .i64 p.len, .int .u64 p.at_]] w fun e w' => e = .returned (.int .i64 1) ∧ Chg NoChg w w' := by
  have N := hide (fun (w' : World) (c : Chg NoChg w w') => hNone_yes (h.keep c))
  clear h
  go_enter Tryz.func45, Tryz.ntmps45
  go_wp2_with fail
  refine (N.out _ (by (repeat' (first | (with_reducible exact Chg.refl _ _) | (with_reducible assumption) | (with_reducible refine Chg.alloc ?_ _) | (with_reducible refine Chg.drewN ?_ _) | (with_reducible refine Chg.drew ?_) | (with_reducible refine Chg.setCell ?_ _ ?_) | (apply Or.inl; with_reducible rfl) | (apply Or.inl; simp; done) | (apply Or.inr; simp; done) | (apply Or.inr; simp; omega))))).mono ?_
  rintro e w1 ⟨rfl, rfl⟩
  go_wp2
  refine bodyPost_ret (v := .int .i64 1) (by simp [results, Tryz.results45, go_sem]) rfl ⟨rfl, ?_⟩
  (repeat' (first | (with_reducible exact Chg.refl _ _) | (with_reducible assumption) | (with_reducible refine Chg.alloc ?_ _) | (with_reducible refine Chg.drewN ?_ _) | (with_reducible refine Chg.drew ?_) | (with_reducible refine Chg.setCell ?_ _ ?_) | (apply Or.inl; with_reducible rfl) | (apply Or.inl; simp; done) | (apply Or.inr; simp; done) | (apply Or.inr; simp; omega)))

set_option maxRecDepth 100000 in
theorem hAdvance_no {w : World} {v : Value} (h : NoOne 0 w v) (t : Int) : Calls Tryz.prog 46 #[v, .int .u64 t] w fun e w' => e = .returned (.int .i64 1) ∧ Chg NoChg w w' := by
  have N := hide (fun (w' : World) (c : Chg NoChg w w') => hNone_yes (h.keep c))
  clear h
  go_enter Tryz.func46, Tryz.ntmps46
  go_wp2_with fail
  refine (N.out _ (by (repeat' (first | (with_reducible exact Chg.refl _ _) | (with_reducible assumption) | (with_reducible refine Chg.alloc ?_ _) | (with_reducible refine Chg.drewN ?_ _) | (with_reducible refine Chg.drew ?_) | (with_reducible refine Chg.setCell ?_ _ ?_) | (apply Or.inl; with_reducible rfl) | (apply Or.inl; simp; done) | (apply Or.inr; simp; done) | (apply Or.inr; simp; omega))))).mono ?_
  rintro e w1 ⟨rfl, rfl⟩
  go_wp2
  refine bodyPost_ret (v := .int .i64 1) (by simp [results, Tryz.results46, go_sem]) rfl ⟨rfl, ?_⟩
  (repeat' (first | (with_reducible exact Chg.refl _ _) | (with_reducible assumption) | (with_reducible refine Chg.alloc ?_ _) | (with_reducible refine Chg.drewN ?_ _) | (with_reducible refine Chg.drew ?_) | (with_reducible refine Chg.setCell ?_ _ ?_) | (apply Or.inl; with_reducible rfl) | (apply Or.inl; simp; done) | (apply Or.inr; simp; done) | (apply Or.inr; simp; omega)))

set_option maxRecDepth 100000 in
theorem hNow_no {w : World} {v : Value} (h : NoOne 0 w v)  : Calls Tryz.prog 47 #[v] w fun e w' => e = .returned (.int .u64 0) ∧ Chg NoChg w w' := by
  have N := hide (fun (w' : World) (c : Chg NoChg w w') => hNone_yes (h.keep c))
  clear h
  go_enter Tryz.func47, Tryz.ntmps47
  go_wp2_with fail
  refine (N.out _ (by (repeat' (first | (with_reducible exact Chg.refl _ _) | (with_reducible assumption) | (with_reducible refine Chg.alloc ?_ _) | (with_reducible refine Chg.drewN ?_ _) | (with_reducible refine Chg.drew ?_) | (with_reducible refine Chg.setCell ?_ _ ?_) | (apply Or.inl; with_reducible rfl) | (apply Or.inl; simp; done) | (apply Or.inr; simp; done) | (apply Or.inr; simp; omega))))).mono ?_
  rintro e w1 ⟨rfl, rfl⟩
  go_wp2
  refine bodyPost_ret (v := .int .u64 0) (by simp [results, Tryz.results47, go_sem]) rfl ⟨rfl, ?_⟩
  (repeat' (first | (with_reducible exact Chg.refl _ _) | (with_reducible assumption) | (with_reducible refine Chg.alloc ?_ _) | (with_reducible refine Chg.drewN ?_ _) | (with_reducible refine Chg.drew ?_) | (with_reducible refine Chg.setCell ?_ _ ?_) | (apply Or.inl; with_reducible rfl) | (apply Or.inl; simp; done) | (apply Or.inr; simp; done) | (apply Or.inr; simp; omega)))

set_option maxRecDepth 100000 in
theorem hEngine_no {w : World} {v : Value} (h : NoOne 0 w v)  : Calls Tryz.prog 48 #[v] w fun e w' => e = .returned (.pointer none) ∧ Chg NoChg w w' := by
  have N := hide (fun (w' : World) (c : Chg NoChg w w') => hNone_yes (h.keep c))
  clear h
  go_enter Tryz.func48, Tryz.ntmps48
  go_wp2_with fail
  refine (N.out _ (by (repeat' (first | (with_reducible exact Chg.refl _ _) | (with_reducible assumption) | (with_reducible refine Chg.alloc ?_ _) | (with_reducible refine Chg.drewN ?_ _) | (with_reducible refine Chg.drew ?_) | (with_reducible refine Chg.setCell ?_ _ ?_) | (apply Or.inl; with_reducible rfl) | (apply Or.inl; simp; done) | (apply Or.inr; simp; done) | (apply Or.inr; simp; omega))))).mono ?_
  rintro e w1 ⟨rfl, rfl⟩
  go_wp2
  refine bodyPost_ret (v := .pointer none) (by simp [results, Tryz.results48, go_sem]) rfl ⟨rfl, ?_⟩
  (repeat' (first | (with_reducible exact Chg.refl _ _) | (with_reducible assumption) | (with_reducible refine Chg.alloc ?_ _) | (with_reducible refine Chg.drewN ?_ _) | (with_reducible refine Chg.drew ?_) | (with_reducible refine Chg.setCell ?_ _ ?_) | (apply Or.inl; with_reducible rfl) | (apply Or.inl; simp; done) | (apply Or.inr; simp; done) | (apply Or.inr; simp; omega)))

set_option maxRecDepth 100000 in
theorem hGhosts_no {w : World} {v : Value} (h : NoOne 0 w v)  : Calls Tryz.prog 49 #[v] w fun e w' => e = .returned (.slice none 0 0) ∧ Chg NoChg w w' := by
  have N := hide (fun (w' : World) (c : Chg NoChg w w') => hNone_yes (h.keep c))
  clear h
  go_enter Tryz.func49, Tryz.ntmps49
  go_wp2_with fail
  refine (N.out _ (by (repeat' (first | (with_reducible exact Chg.refl _ _) | (with_reducible assumption) | (with_reducible refine Chg.alloc ?_ _) | (with_reducible refine Chg.drewN ?_ _) | (with_reducible refine Chg.drew ?_) | (with_reducible refine Chg.setCell ?_ _ ?_) | (apply Or.inl; with_reducible rfl) | (apply Or.inl; simp; done) | (apply Or.inr; simp; done) | (apply Or.inr; simp; omega))))).mono ?_
  rintro e w1 ⟨rfl, rfl⟩
  go_wp2
  refine bodyPost_ret (v := .slice none 0 0) (by simp [results, Tryz.results49, go_sem]) rfl ⟨rfl, ?_⟩
  (repeat' (first | (with_reducible exact Chg.refl _ _) | (with_reducible assumption) | (with_reducible refine Chg.alloc ?_ _) | (with_reducible refine Chg.drewN ?_ _) | (with_reducible refine Chg.drew ?_) | (with_reducible refine Chg.setCell ?_ _ ?_) | (apply Or.inl; with_reducible rfl) | (apply Or.inl; simp; done) | (apply Or.inr; simp; done) | (apply Or.inr; simp; omega)))

set_option maxRecDepth 100000 in
theorem hFits_no {w : World} {v : Value} (h : NoOne 0 w v) (f l r : Int) : Calls Tryz.prog 50 #[v, .agg #[.int .u64 f, .int .u64 l, .int .u64 r]] w fun e w' => e = .returned (.bool false) ∧ Chg NoChg w w' := by
  have N := hide (fun (w' : World) (c : Chg NoChg w w') => hNone_yes (h.keep c))
  clear h
  go_enter Tryz.func50, Tryz.ntmps50
  go_wp2
  go_quiet ((go_at_call 128; exact quiet_same (N.out _ (by (repeat' (first | (with_reducible exact Chg.refl _ _) | (with_reducible assumption) | (with_reducible refine Chg.alloc ?_ _) | (with_reducible refine Chg.drewN ?_ _) | (with_reducible refine Chg.drew ?_) | (with_reducible refine Chg.setCell ?_ _ ?_) | (apply Or.inl; with_reducible rfl) | (apply Or.inl; simp; done) | (apply Or.inr; simp; done) | (apply Or.inr; simp; omega)))))))
  go_wp2
  go_ret
  refine ⟨rfl, ?_⟩
  (repeat' (first | (with_reducible exact Chg.refl _ _) | (with_reducible assumption) | (with_reducible refine Chg.alloc ?_ _) | (with_reducible refine Chg.drewN ?_ _) | (with_reducible refine Chg.drew ?_) | (with_reducible refine Chg.setCell ?_ _ ?_) | (apply Or.inl; with_reducible rfl) | (apply Or.inl; simp; done) | (apply Or.inr; simp; done) | (apply Or.inr; simp; omega)))

theorem hCopy_nil (w : World) : Calls Tryz.prog 51 #[.pointer none] w fun e w' => e = .returned (.pointer none) ∧ w = w' := by
  go_enter Tryz.func51, Tryz.ntmps51
  go_wp2
  go_ret
  exact ⟨rfl, rfl⟩

set_option maxRecDepth 100000 in
theorem hAdd_no {w : World} {v : Value} (h : NoOne 0 w v) (s : SpecR) : Calls Tryz.prog 42 #[v, .agg #[.int .i64 s.id, .int .i64 s.par, .bool s.leaf, .int .u64 s.rf, .int .u64 s.rl, .int .u64 s.rr, .int .u64 s.sf, .int .u64 s.sl, .int .u64 s.sr, .int .u64 s.uf, .int .u64 s.ul, .int .u64 s.ur, .int .i64 s.pk, .int .i64 s.bt]] w fun e w' => e = .returned (.int .i64 1) ∧ Chg NoChg w w' := by
  have hh := h
  rcases h with rfl | ⟨b, rfl, hb⟩
  · have N := hide (fun (w' : World) (fa fb : Fn) (x1 y1 x2 y2 : Array Value) (c : Chg NoChg w w') => hTried_no (hh.keep c) fa fb x1 y1 x2 y2)
    clear hh
    go_enter Tryz.func42, Tryz.ntmps42
    go_wp2_with fail
    refine (N.out _ _ _ _ _ _ _ (by (repeat' (first | (with_reducible exact Chg.refl _ _) | (with_reducible assumption) | (with_reducible refine Chg.alloc ?_ _) | (with_reducible refine Chg.drewN ?_ _) | (with_reducible refine Chg.drew ?_) | (with_reducible refine Chg.setCell ?_ _ ?_) | (apply Or.inl; with_reducible rfl) | (apply Or.inl; simp; done) | (apply Or.inr; simp; done) | (apply Or.inr; simp; omega))))).mono ?_
    rintro e w1 ⟨rfl, c1⟩
    have C1 := hide c1
    clear c1
    go_wp2
    refine bodyPost_ret (v := .int .i64 1) (by simp [results, Tryz.results42, go_sem]) rfl ⟨rfl, ?_⟩
    refine Chg.trans' ?_ C1.out
    (repeat' (first | (with_reducible exact Chg.refl _ _) | (with_reducible assumption) | (with_reducible refine Chg.alloc ?_ _) | (with_reducible refine Chg.drewN ?_ _) | (with_reducible refine Chg.drew ?_) | (with_reducible refine Chg.setCell ?_ _ ?_) | (apply Or.inl; with_reducible rfl) | (apply Or.inl; simp; done) | (apply Or.inr; simp; done) | (apply Or.inr; simp; omega)))
  · have N := hide (fun (w' : World) (fa fb : Fn) (x1 y1 x2 y2 : Array Value) (c : Chg NoChg w w') => hTried_no (hh.keep c) fa fb x1 y1 x2 y2)
    clear hh hb
    go_enter Tryz.func42, Tryz.ntmps42
    go_wp2_with fail
    refine (N.out _ _ _ _ _ _ _ (by (repeat' (first | (with_reducible exact Chg.refl _ _) | (with_reducible assumption) | (with_reducible refine Chg.alloc ?_ _) | (with_reducible refine Chg.drewN ?_ _) | (with_reducible refine Chg.drew ?_) | (with_reducible refine Chg.setCell ?_ _ ?_) | (apply Or.inl; with_reducible rfl) | (apply Or.inl; simp; done) | (apply Or.inr; simp; done) | (apply Or.inr; simp; omega))))).mono ?_
    rintro e w1 ⟨rfl, c1⟩
    have C1 := hide c1
    clear c1
    go_wp2
    refine bodyPost_ret (v := .int .i64 1) (by simp [results, Tryz.results42, go_sem]) rfl ⟨rfl, ?_⟩
    refine Chg.trans' ?_ C1.out
    (repeat' (first | (with_reducible exact Chg.refl _ _) | (with_reducible assumption) | (with_reducible refine Chg.alloc ?_ _) | (with_reducible refine Chg.drewN ?_ _) | (with_reducible refine Chg.drew ?_) | (with_reducible refine Chg.setCell ?_ _ ?_) | (apply Or.inl; with_reducible rfl) | (apply Or.inl; simp; done) | (apply Or.inr; simp; done) | (apply Or.inr; simp; omega)))

set_option maxRecDepth 100000 in
theorem hChange_no {w : World} {v : Value} (h : NoOne 0 w v) (s : SpecR) : Calls Tryz.prog 43 #[v, .agg #[.int .i64 s.id, .int .i64 s.par, .bool s.leaf, .int .u64 s.rf, .int .u64 s.rl, .int .u64 s.rr, .int .u64 s.sf, .int .u64 s.sl, .int .u64 s.sr, .int .u64 s.uf, .int .u64 s.ul, .int .u64 s.ur, .int .i64 s.pk, .int .i64 s.bt]] w fun e w' => e = .returned (.int .i64 1) ∧ Chg NoChg w w' := by
  have hh := h
  rcases h with rfl | ⟨b, rfl, hb⟩
  · have N := hide (fun (w' : World) (fa fb : Fn) (x1 y1 x2 y2 : Array Value) (c : Chg NoChg w w') => hTried_no (hh.keep c) fa fb x1 y1 x2 y2)
    clear hh
    go_enter Tryz.func43, Tryz.ntmps43
    go_wp2_with fail
    refine (N.out _ _ _ _ _ _ _ (by (repeat' (first | (with_reducible exact Chg.refl _ _) | (with_reducible assumption) | (with_reducible refine Chg.alloc ?_ _) | (with_reducible refine Chg.drewN ?_ _) | (with_reducible refine Chg.drew ?_) | (with_reducible refine Chg.setCell ?_ _ ?_) | (apply Or.inl; with_reducible rfl) | (apply Or.inl; simp; done) | (apply Or.inr; simp; done) | (apply Or.inr; simp; omega))))).mono ?_
    rintro e w1 ⟨rfl, c1⟩
    have C1 := hide c1
    clear c1
    go_wp2
    refine bodyPost_ret (v := .int .i64 1) (by simp [results, Tryz.results43, go_sem]) rfl ⟨rfl, ?_⟩
    refine Chg.trans' ?_ C1.out
    (repeat' (first | (with_reducible exact Chg.refl _ _) | (with_reducible assumption) | (with_reducible refine Chg.alloc ?_ _) | (with_reducible refine Chg.drewN ?_ _) | (with_reducible refine Chg.drew ?_) | (with_reducible refine Chg.setCell ?_ _ ?_) | (apply Or.inl; with_reducible rfl) | (apply Or.inl; simp; done) | (apply Or.inr; simp; done) | (apply Or.inr; simp; omega)))
  · have N := hide (fun (w' : World) (fa fb : Fn) (x1 y1 x2 y2 : Array Value) (c : Chg NoChg w w') => hTried_no (hh.keep c) fa fb x1 y1 x2 y2)
    clear hh hb
    go_enter Tryz.func43, Tryz.ntmps43
    go_wp2_with fail
    refine (N.out _ _ _ _ _ _ _ (by (repeat' (first | (with_reducible exact Chg.refl _ _) | (with_reducible assumption) | (with_reducible refine Chg.alloc ?_ _) | (with_reducible refine Chg.drewN ?_ _) | (with_reducible refine Chg.drew ?_) | (with_reducible refine Chg.setCell ?_ _ ?_) | (apply Or.inl; with_reducible rfl) | (apply Or.inl; simp; done) | (apply Or.inr; simp; done) | (apply Or.inr; simp; omega))))).mono ?_
    rintro e w1 ⟨rfl, c1⟩
    have C1 := hide c1
    clear c1
    go_wp2
    refine bodyPost_ret (v := .int .i64 1) (by simp [results, Tryz.results43, go_sem]) rfl ⟨rfl, ?_⟩
    refine Chg.trans' ?_ C1.out
    (repeat' (first | (with_reducible exact Chg.refl _ _) | (with_reducible assumption) | (with_reducible refine Chg.alloc ?_ _) | (with_reducible refine Chg.drewN ?_ _) | (with_reducible refine Chg.drew ?_) | (with_reducible refine Chg.setCell ?_ _ ?_) | (apply Or.inl; with_reducible rfl) | (apply Or.inl; simp; done) | (apply Or.inr; simp; done) | (apply Or.inr; simp; omega)))

set_option maxRecDepth 100000 in
theorem hDrop_no {w : World} {v : Value} (h : NoOne 0 w v) (i : Int) : Calls Tryz.prog 44 #[v, .int .i64 i] w fun e w' => e = .returned (.int .i64 1) ∧ Chg NoChg w w' := by
  have hh := h
  rcases h with rfl | ⟨b, rfl, hb⟩
  · have N := hide (fun (w' : World) (fa fb : Fn) (x1 y1 x2 y2 : Array Value) (c : Chg NoChg w w') => hTried_no (hh.keep c) fa fb x1 y1 x2 y2)
    clear hh
    go_enter Tryz.func44, Tryz.ntmps44
    go_wp2_with fail
    refine (N.out _ _ _ _ _ _ _ (by (repeat' (first | (with_reducible exact Chg.refl _ _) | (with_reducible assumption) | (with_reducible refine Chg.alloc ?_ _) | (with_reducible refine Chg.drewN ?_ _) | (with_reducible refine Chg.drew ?_) | (with_reducible refine Chg.setCell ?_ _ ?_) | (apply Or.inl; with_reducible rfl) | (apply Or.inl; simp; done) | (apply Or.inr; simp; done) | (apply Or.inr; simp; omega))))).mono ?_
    rintro e w1 ⟨rfl, c1⟩
    have C1 := hide c1
    clear c1
    go_wp2
    refine bodyPost_ret (v := .int .i64 1) (by simp [results, Tryz.results44, go_sem]) rfl ⟨rfl, ?_⟩
    refine Chg.trans' ?_ C1.out
    (repeat' (first | (with_reducible exact Chg.refl _ _) | (with_reducible assumption) | (with_reducible refine Chg.alloc ?_ _) | (with_reducible refine Chg.drewN ?_ _) | (with_reducible refine Chg.drew ?_) | (with_reducible refine Chg.setCell ?_ _ ?_) | (apply Or.inl; with_reducible rfl) | (apply Or.inl; simp; done) | (apply Or.inr; simp; done) | (apply Or.inr; simp; omega)))
  · have N := hide (fun (w' : World) (fa fb : Fn) (x1 y1 x2 y2 : Array Value) (c : Chg NoChg w w') => hTried_no (hh.keep c) fa fb x1 y1 x2 y2)
    clear hh hb
    go_enter Tryz.func44, Tryz.ntmps44
    go_wp2_with fail
    refine (N.out _ _ _ _ _ _ _ (by (repeat' (first | (with_reducible exact Chg.refl _ _) | (with_reducible assumption) | (with_reducible refine Chg.alloc ?_ _) | (with_reducible refine Chg.drewN ?_ _) | (with_reducible refine Chg.drew ?_) | (with_reducible refine Chg.setCell ?_ _ ?_) | (apply Or.inl; with_reducible rfl) | (apply Or.inl; simp; done) | (apply Or.inr; simp; done) | (apply Or.inr; simp; omega))))).mono ?_
    rintro e w1 ⟨rfl, c1⟩
    have C1 := hide c1
    clear c1
    go_wp2
    refine bodyPost_ret (v := .int .i64 1) (by simp [results, Tryz.results44, go_sem]) rfl ⟨rfl, ?_⟩
    refine Chg.trans' ?_ C1.out
    (repeat' (first | (with_reducible exact Chg.refl _ _) | (with_reducible assumption) | (with_reducible refine Chg.alloc ?_ _) | (with_reducible refine Chg.drewN ?_ _) | (with_reducible refine Chg.drew ?_) | (with_reducible refine Chg.setCell ?_ _ ?_) | (apply Or.inl; with_reducible rfl) | (apply Or.inl; simp; done) | (apply Or.inr; simp; done) | (apply Or.inr; simp; omega)))

end Go.Proofs.YtokfjablgkgffaaGreat
