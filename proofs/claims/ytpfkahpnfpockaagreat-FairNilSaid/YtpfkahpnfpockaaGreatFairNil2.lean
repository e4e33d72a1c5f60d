/- What nobody made: fair, within. -/
import Derived.Test.YtpfkahpnfpockaaGreatFairNil
import Derived.Deep.DeepCutAuto
namespace Go.Proofs.YtpfkahpnfpockaaGreat
set_option linter.unusedVariables false
open Go.RowKit

theorem fDiffer_nil (a b : Int) (w : World) : Calls Tryz.prog 18 #[.pointer none, .agg #[.int .i64 a, .int .i64 b, .int .u64 0, .int .u64 0, .int .u64 0, .int .u64 0]] w fun e w' => e = .returned (.tuple #[.int .u64 0, .int .u64 0]) ∧ Chg NoChg w w' := by
  go_enter Tryz.func18, Tryz.ntmps18
  go_wp2_with fail
  refine (fdiffer_nil a b _).mono ?_
  rintro e w1 ⟨rfl, c1⟩
  have C1 := hide (((Chg.refl NoChg w).alloc _).trans' c1)
  clear c1
  go_wp2
  go_quiet (fail)
  go_wp2
  go_ret2
  refine ⟨rfl, ?_⟩
  have c1 := C1.out
  (repeat' (first | (with_reducible exact Chg.refl _ _) | (with_reducible assumption) | (with_reducible refine Chg.alloc ?_ _) | (with_reducible refine Chg.drewN ?_ _) | (with_reducible refine Chg.drew ?_) | (with_reducible refine Chg.setCell ?_ _ ?_) | (apply Or.inl; with_reducible rfl) | (apply Or.inl; simp; done) | (apply Or.inr; simp; done) | (apply Or.inr; simp; omega)))

theorem within_keep (a b : Int) (w wr w' : World) (r : Nat) (c : Chg NoChg (w.alloc (.cells #[.int .i64 a, .int .i64 b, .int .u64 0, .int .u64 0, .int .u64 0, .int .u64 0] 57)) wr) (hr : Blk wr r #[.int .u64 0, .int .u64 0] 102) (c' : Chg NoChg wr w') : w'.cell? ⟨r, 0, none⟩ = some (.int .u64 0) ∧ w'.cell? ⟨r, 1, none⟩ = some (.int .u64 0) ∧ w'.cell? ⟨w.heap.size, 0, none⟩ = some (.int .i64 a) ∧ w'.cell? ⟨w.heap.size, 1, none⟩ = some (.int .i64 b) ∧ w'.cell? ⟨w.heap.size, 2, none⟩ = some (.int .u64 0) ∧ w'.cell? ⟨w.heap.size, 3, none⟩ = some (.int .u64 0) ∧ w'.cell? ⟨w.heap.size, 4, none⟩ = some (.int .u64 0) ∧ w'.cell? ⟨w.heap.size, 5, none⟩ = some (.int .u64 0) := by
  have X := c'.blk hr (fun h => h)
  exact ⟨X.cell 0, X.cell 1, pair_keep a b w w' (c.trans' c')⟩

set_option maxRecDepth 100000 in
set_option maxHeartbeats 2000000 in
theorem fWithin_one (a b t : Int) (w : World) (h0 : 0 ≤ t) : Calls Tryz.prog 22 #[.pointer none, .agg #[.int .i64 a, .int .i64 b, .int .u64 0, .int .u64 0, .int .u64 0, .int .u64 0], .int .u64 t, .int .u64 1] w fun e w' => e = .returned (.bool true) ∧ Chg NoChg w w' := by
  have KEEP := hide (pair_keep a b w)
  have RK := hide (within_keep a b w)
  have D := hide (fdiffer_nil a b)
  go_enter Tryz.func22, Tryz.ntmps22
  go_wp2
  all_goals
    go_cut [9] (fun s9 wx => ∃ r : Nat, s9 = .pointer (some ⟨r, 0, none⟩) ∧ Blk wx r #[.int .u64 0, .int .u64 0] 102 ∧ Chg NoChg (w.alloc (.cells #[.int .i64 a, .int .i64 b, .int .u64 0, .int .u64 0, .int .u64 0, .int .u64 0] 57)) wx)
    case first =>
      go_region_held3 (fun w' : World => w'.cell? ⟨w.heap.size, 0, none⟩ = some (.int .i64 a) ∧ w'.cell? ⟨w.heap.size, 1, none⟩ = some (.int .i64 b) ∧ w'.cell? ⟨w.heap.size, 2, none⟩ = some (.int .u64 0) ∧ w'.cell? ⟨w.heap.size, 3, none⟩ = some (.int .u64 0) ∧ w'.cell? ⟨w.heap.size, 4, none⟩ = some (.int .u64 0) ∧ w'.cell? ⟨w.heap.size, 5, none⟩ = some (.int .u64 0)) (exact KEEP.out _ (by (repeat' (first | (with_reducible exact Chg.refl _ _) | (with_reducible assumption) | (with_reducible refine Chg.alloc ?_ _) | (with_reducible refine Chg.drewN ?_ _) | (with_reducible refine Chg.drew ?_) | (with_reducible refine Chg.setCell ?_ _ ?_) | (apply Or.inl; with_reducible rfl) | (apply Or.inl; simp; done) | (apply Or.inr; simp; done) | (apply Or.inr; simp; omega))))) (first | (go_at_call 83; refine (fTimes_zero _ _ (.inr rfl) _).mono ?_; rintro e w2 ⟨rfl, rfl⟩))
      all_goals (go_wp2_with fail; go_meet; refine ⟨_, rfl, ?_, ?_⟩)
      all_goals first | ((repeat' (first | (with_reducible refine Blk.new' _ _ ?_; first | rfl | (simp; done)) | (with_reducible refine Blk.alloc ?_ _) | (with_reducible refine Blk.drew ?_) | (with_reducible refine Blk.drewN ?_ _))); done) | (repeat' (first | (with_reducible exact Chg.refl _ _) | (with_reducible assumption) | (with_reducible refine Chg.alloc ?_ _) | (with_reducible refine Chg.drewN ?_ _) | (with_reducible refine Chg.drew ?_) | (with_reducible refine Chg.setCell ?_ _ ?_) | (apply Or.inl; with_reducible rfl) | (apply Or.inl; simp; done) | (apply Or.inr; simp; done) | (apply Or.inr; simp; omega)))
    case rest =>
      obtain ⟨r, rfl, hr, hc⟩ := hcut
      have KR := hide (fun w' c' => RK.out wc w' r hc hr c')
      have HC := hide hc
      clear hr hc
      go_wp2_with fail
      go_region_held3 (fun w' : World => w'.cell? ⟨r, 0, none⟩ = some (.int .u64 0) ∧ w'.cell? ⟨r, 1, none⟩ = some (.int .u64 0) ∧ w'.cell? ⟨w.heap.size, 0, none⟩ = some (.int .i64 a) ∧ w'.cell? ⟨w.heap.size, 1, none⟩ = some (.int .i64 b) ∧ w'.cell? ⟨w.heap.size, 2, none⟩ = some (.int .u64 0) ∧ w'.cell? ⟨w.heap.size, 3, none⟩ = some (.int .u64 0) ∧ w'.cell? ⟨w.heap.size, 4, none⟩ = some (.int .u64 0) ∧ w'.cell? ⟨w.heap.size, 5, none⟩ = some (.int .u64 0)) (exact KR.out _ (by (repeat' (first | (with_reducible exact Chg.refl _ _) | (with_reducible assumption) | (with_reducible refine Chg.alloc ?_ _) | (with_reducible refine Chg.drewN ?_ _) | (with_reducible refine Chg.drew ?_) | (with_reducible refine Chg.setCell ?_ _ ?_) | (apply Or.inl; with_reducible rfl) | (apply Or.inl; simp; done) | (apply Or.inr; simp; done) | (apply Or.inr; simp; omega))))) (first | (go_at_call 64; refine (D.out _).mono ?_; rintro e w2 ⟨rfl, c2⟩; replace c2 : Chg NoChg wc w2 := Chg.trans' (by (repeat' (first | (with_reducible exact Chg.refl _ _) | (with_reducible assumption) | (with_reducible refine Chg.alloc ?_ _) | (with_reducible refine Chg.drewN ?_ _) | (with_reducible refine Chg.drew ?_) | (with_reducible refine Chg.setCell ?_ _ ?_) | (apply Or.inl; with_reducible rfl) | (apply Or.inl; simp; done) | (apply Or.inr; simp; done) | (apply Or.inr; simp; omega)))) c2) | (go_at_call 83; refine (fTimes_zero _ _ (.inl rfl) _).mono ?_; rintro e w3 ⟨rfl, rfl⟩) | (go_at_call 84; refine (fLess_zero _).mono ?_; rintro e w3 ⟨rfl, rfl⟩))
      all_goals go_wp2
      all_goals go_ret
      all_goals refine ⟨rfl, ?_⟩
      all_goals have hc := (((Chg.refl NoChg w).alloc (.cells #[.int .i64 a, .int .i64 b, .int .u64 0, .int .u64 0, .int .u64 0, .int .u64 0] 57)).trans' HC.out)
      all_goals refine hc.trans' ?_
      all_goals (repeat' (first | (with_reducible exact Chg.refl _ _) | (with_reducible assumption) | (with_reducible refine Chg.alloc ?_ _) | (with_reducible refine Chg.drewN ?_ _) | (with_reducible refine Chg.drew ?_) | (with_reducible refine Chg.setCell ?_ _ ?_) | (apply Or.inl; with_reducible rfl) | (apply Or.inl; simp; done) | (apply Or.inr; simp; done) | (apply Or.inr; simp; omega)))
set_option maxRecDepth 100000 in
set_option maxHeartbeats 2000000 in
theorem fWithin_zero (a b t : Int) (w : World) (h0 : 0 ≤ t) : Calls Tryz.prog 22 #[.pointer none, .agg #[.int .i64 a, .int .i64 b, .int .u64 0, .int .u64 0, .int .u64 0, .int .u64 0], .int .u64 t, .int .u64 0] w fun e w' => e = .returned (.bool false) ∧ Chg NoChg w w' := by
  have KEEP := hide (pair_keep a b w)
  have RK := hide (within_keep a b w)
  have D := hide (fdiffer_nil a b)
  go_enter Tryz.func22, Tryz.ntmps22
  go_wp2
  all_goals
    go_cut [9] (fun s9 wx => ∃ r : Nat, s9 = .pointer (some ⟨r, 0, none⟩) ∧ Blk wx r #[.int .u64 0, .int .u64 0] 102 ∧ Chg NoChg (w.alloc (.cells #[.int .i64 a, .int .i64 b, .int .u64 0, .int .u64 0, .int .u64 0, .int .u64 0] 57)) wx)
    case first =>
      go_region_held3 (fun w' : World => w'.cell? ⟨w.heap.size, 0, none⟩ = some (.int .i64 a) ∧ w'.cell? ⟨w.heap.size, 1, none⟩ = some (.int .i64 b) ∧ w'.cell? ⟨w.heap.size, 2, none⟩ = some (.int .u64 0) ∧ w'.cell? ⟨w.heap.size, 3, none⟩ = some (.int .u64 0) ∧ w'.cell? ⟨w.heap.size, 4, none⟩ = some (.int .u64 0) ∧ w'.cell? ⟨w.heap.size, 5, none⟩ = some (.int .u64 0)) (exact KEEP.out _ (by (repeat' (first | (with_reducible exact Chg.refl _ _) | (with_reducible assumption) | (with_reducible refine Chg.alloc ?_ _) | (with_reducible refine Chg.drewN ?_ _) | (with_reducible refine Chg.drew ?_) | (with_reducible refine Chg.setCell ?_ _ ?_) | (apply Or.inl; with_reducible rfl) | (apply Or.inl; simp; done) | (apply Or.inr; simp; done) | (apply Or.inr; simp; omega))))) (first | (go_at_call 83; refine (fTimes_zero _ _ (.inr rfl) _).mono ?_; rintro e w2 ⟨rfl, rfl⟩))
      all_goals (go_wp2_with fail; go_meet; refine ⟨_, rfl, ?_, ?_⟩)
      all_goals first | ((repeat' (first | (with_reducible refine Blk.new' _ _ ?_; first | rfl | (simp; done)) | (with_reducible refine Blk.alloc ?_ _) | (with_reducible refine Blk.drew ?_) | (with_reducible refine Blk.drewN ?_ _))); done) | (repeat' (first | (with_reducible exact Chg.refl _ _) | (with_reducible assumption) | (with_reducible refine Chg.alloc ?_ _) | (with_reducible refine Chg.drewN ?_ _) | (with_reducible refine Chg.drew ?_) | (with_reducible refine Chg.setCell ?_ _ ?_) | (apply Or.inl; with_reducible rfl) | (apply Or.inl; simp; done) | (apply Or.inr; simp; done) | (apply Or.inr; simp; omega)))
    case rest =>
      obtain ⟨r, rfl, hr, hc⟩ := hcut
      have KR := hide (fun w' c' => RK.out wc w' r hc hr c')
      have HC := hide hc
      clear hr hc
      go_wp2
      go_quiet (fail)
      all_goals go_wp2
      all_goals go_ret
      all_goals refine ⟨rfl, ?_⟩
      all_goals have hc := (((Chg.refl NoChg w).alloc (.cells #[.int .i64 a, .int .i64 b, .int .u64 0, .int .u64 0, .int .u64 0, .int .u64 0] 57)).trans' HC.out)
      all_goals refine hc.trans' ?_
      all_goals (repeat' (first | (with_reducible exact Chg.refl _ _) | (with_reducible assumption) | (with_reducible refine Chg.alloc ?_ _) | (with_reducible refine Chg.drewN ?_ _) | (with_reducible refine Chg.drew ?_) | (with_reducible refine Chg.setCell ?_ _ ?_) | (apply Or.inl; with_reducible rfl) | (apply Or.inl; simp; done) | (apply Or.inr; simp; done) | (apply Or.inr; simp; omega)))
end Go.Proofs.YtpfkahpnfpockaaGreat
