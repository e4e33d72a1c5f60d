/- PacketOrder holds for every input. No condition. -/
import Derived.Test.YtofgajlpdnokdaaDoorPktFits
import Derived.Test.YtofgajlpdnokdaaDoorPacketOrderCard
namespace Go.Proofs.YtofgajlpdnokdaaDoor
set_option linter.unusedVariables false
open Go.ChangeShapes Go.WideShapes Go.ChangeAt Go.RowKit

/-- Three packets, boxed. -/
structure Bx3 (w w' : World) (i1 t1 i2 t2 i3 t3 : Nat) (c1 n1 c2 n2 c3 n3 : Int) : Prop where
  b1 : Blk w' w.heap.size #[.int .u64 (i1 : Int), .int .i64 c1, .int .i64 n1, .int .u64 (t1 : Int)] 24
  b2 : Blk w' (w.heap.size + 1) #[.int .u64 (i2 : Int), .int .i64 c2, .int .i64 n2, .int .u64 (t2 : Int)] 24
  b3 : Blk w' (w.heap.size + 2) #[.int .u64 (i3 : Int), .int .i64 c3, .int .i64 n3, .int .u64 (t3 : Int)] 24
  chg : Chg NoChg w w'
theorem Bx3.start (w : World) (i1 t1 i2 t2 i3 t3 : Nat) (c1 n1 c2 n2 c3 n3 : Int) : Bx3 w (((w.alloc (.cells #[.int .u64 (i1 : Int), .int .i64 c1, .int .i64 n1, .int .u64 (t1 : Int)] 24)).alloc (.cells #[.int .u64 (i2 : Int), .int .i64 c2, .int .i64 n2, .int .u64 (t2 : Int)] 24)).alloc (.cells #[.int .u64 (i3 : Int), .int .i64 c3, .int .i64 n3, .int .u64 (t3 : Int)] 24)) i1 t1 i2 t2 i3 t3 c1 n1 c2 n2 c3 n3 :=
  ⟨((Blk.new' _ _ rfl).alloc _).alloc _, (Blk.new' _ _ (by simp)).alloc _, Blk.new' _ _ (by simp), (((Chg.refl NoChg w).alloc _).alloc _).alloc _⟩
section
variable {w w1 w2 : World} {i1 t1 i2 t2 i3 t3 : Nat} {c1 n1 c2 n2 c3 n3 : Int}
theorem Bx3.keep (h : Bx3 w w1 i1 t1 i2 t2 i3 t3 c1 n1 c2 n2 c3 n3) (c : Chg NoChg w1 w2) : Bx3 w w2 i1 t1 i2 t2 i3 t3 c1 n1 c2 n2 c3 n3 :=
  ⟨c.blk h.b1 (fun h => h), c.blk h.b2 (fun h => h), c.blk h.b3 (fun h => h), h.chg.trans' c⟩
theorem Bx3.cells {w' : World} (h : Bx3 w w' i1 t1 i2 t2 i3 t3 c1 n1 c2 n2 c3 n3) : w'.cell? ⟨w.heap.size, 0, none⟩ = some (.int .u64 (i1 : Int)) ∧ w'.cell? ⟨w.heap.size, 1, none⟩ = some (.int .i64 c1) ∧ w'.cell? ⟨w.heap.size, 2, none⟩ = some (.int .i64 n1) ∧ w'.cell? ⟨w.heap.size, 3, none⟩ = some (.int .u64 (t1 : Int)) ∧ w'.cell? ⟨w.heap.size + 1, 0, none⟩ = some (.int .u64 (i2 : Int)) ∧ w'.cell? ⟨w.heap.size + 1, 1, none⟩ = some (.int .i64 c2) ∧ w'.cell? ⟨w.heap.size + 1, 2, none⟩ = some (.int .i64 n2) ∧ w'.cell? ⟨w.heap.size + 1, 3, none⟩ = some (.int .u64 (t2 : Int)) ∧ w'.cell? ⟨w.heap.size + 2, 0, none⟩ = some (.int .u64 (i3 : Int)) ∧ w'.cell? ⟨w.heap.size + 2, 1, none⟩ = some (.int .i64 c3) ∧ w'.cell? ⟨w.heap.size + 2, 2, none⟩ = some (.int .i64 n3) ∧ w'.cell? ⟨w.heap.size + 2, 3, none⟩ = some (.int .u64 (t3 : Int)) :=
  ⟨h.b1.cell 0, h.b1.cell 1, h.b1.cell 2, h.b1.cell 3, h.b2.cell 0, h.b2.cell 1, h.b2.cell 2, h.b2.cell 3, h.b3.cell 0, h.b3.cell 1, h.b3.cell 2, h.b3.cell 3⟩
end

theorem bef_irr (t i : Nat) : bef t i t i = false := by simp [bef]
theorem bef_tr {t1 i1 t2 i2 t3 i3 : Nat} (h : bef t1 i1 t2 i2 = true) (h' : bef t2 i2 t3 i3 = true) : bef t1 i1 t3 i3 = true := by
  simp [bef] at *
  omega

set_option maxRecDepth 100000 in
set_option maxHeartbeats 8000000 in
theorem order_r1f (i1 t1 i2 t2 i3 t3 : Nat) (c1 n1 c2 n2 c3 n3 : Int) (hyp : t1 < t2) (hbc : bef t2 i2 t3 i3 = false) (w : World) (hd : Door w) :
    Calls Tryd.prog 5 #[.agg #[.int .u64 (i1 : Int), .int .i64 c1, .int .i64 n1, .int .u64 (t1 : Int)], .agg #[.int .u64 (i2 : Int), .int .i64 c2, .int .i64 n2, .int .u64 (t2 : Int)], .agg #[.int .u64 (i3 : Int), .int .i64 c3, .int .i64 n3, .int .u64 (t3 : Int)]] w fun e w' => e = .returned (.bool true) ∧ Chg NoChg w w' := by
  have HAA := hide (pkBefore_any i1 t1 i1 t1 c1 n1 c1 n1)
  have HAB := hide (pkBefore_any i1 t1 i2 t2 c1 n1 c2 n2)
  have HBA := hide (pkBefore_any i2 t2 i1 t1 c2 n2 c1 n1)
  have HBC := hide (pkBefore_any i2 t2 i3 t3 c2 n2 c3 n3)
  have HAC := hide (pkBefore_any i1 t1 i3 t3 c1 n1 c3 n3)
  rw [bef_irr] at HAA
  rw [show bef t1 i1 t2 i2 = true from by simp [bef]; omega] at HAB
  rw [show bef t2 i2 t1 i1 = false from by simp [bef]; omega] at HBA
  rw [show bef t2 i2 t3 i3 = false from hbc] at HBC
  generalize bef t1 i1 t3 i3 = xac at HAC
  have e1 : ((t1 : Int) == (t2 : Int)) = false := by simp; omega
  have e2 : decide (t2 ≤ t1) = false := by simp; omega
  have S0 := hide (Bx3.start w i1 t1 i2 t2 i3 t3 c1 n1 c2 n2 c3 n3)
  have HD := hide hd
  have HA := hide (fun w hd => l10awake_any w hd)
  clear hd hyp
  go_enter Tryd.func5, Tryd.ntmps5
  go_wp2_with fail
  refine (HA.out _ (HD.out.keep S0.out.chg)).mono ?_
  rintro e w1 ⟨rfl, x1⟩
  have S1 := hide (S0.out.keep x1)
  clear x1 S0
  have KEEP := hide (fun (w' : World) (x : Chg NoChg w1 w') => (S1.out.keep x).cells)
  go_wp2
  go_region_held3 (fun w' : World => w'.cell? ⟨w.heap.size, 0, none⟩ = some (.int .u64 (i1 : Int)) ∧ w'.cell? ⟨w.heap.size, 1, none⟩ = some (.int .i64 c1) ∧ w'.cell? ⟨w.heap.size, 2, none⟩ = some (.int .i64 n1) ∧ w'.cell? ⟨w.heap.size, 3, none⟩ = some (.int .u64 (t1 : Int)) ∧ w'.cell? ⟨w.heap.size + 1, 0, none⟩ = some (.int .u64 (i2 : Int)) ∧ w'.cell? ⟨w.heap.size + 1, 1, none⟩ = some (.int .i64 c2) ∧ w'.cell? ⟨w.heap.size + 1, 2, none⟩ = some (.int .i64 n2) ∧ w'.cell? ⟨w.heap.size + 1, 3, none⟩ = some (.int .u64 (t2 : Int)) ∧ w'.cell? ⟨w.heap.size + 2, 0, none⟩ = some (.int .u64 (i3 : Int)) ∧ w'.cell? ⟨w.heap.size + 2, 1, none⟩ = some (.int .i64 c3) ∧ w'.cell? ⟨w.heap.size + 2, 2, none⟩ = some (.int .i64 n3) ∧ w'.cell? ⟨w.heap.size + 2, 3, none⟩ = some (.int .u64 (t3 : Int))) (exact KEEP.out _ (by (repeat' (first | (with_reducible exact Chg.refl _ _) | (with_reducible assumption) | (with_reducible refine Chg.alloc ?_ _) | (with_reducible refine Chg.drewN ?_ _) | (with_reducible refine Chg.drew ?_) | (with_reducible refine Chg.setCell ?_ _ ?_) | (apply Or.inl; with_reducible rfl) | (apply Or.inl; simp; done) | (apply Or.inr; simp; done) | (apply Or.inr; simp; omega))))) (first | (go_at_call 14; with_reducible refine (HAB.out _).mono ?_; rintro e w2 ⟨rfl, x2⟩; replace x2 : Chg NoChg w1 w2 := Chg.trans' (by (repeat' (first | (with_reducible exact Chg.refl _ _) | (with_reducible assumption) | (with_reducible refine Chg.alloc ?_ _) | (with_reducible refine Chg.drewN ?_ _) | (with_reducible refine Chg.drew ?_) | (with_reducible refine Chg.setCell ?_ _ ?_) | (apply Or.inl; with_reducible rfl) | (apply Or.inl; simp; done) | (apply Or.inr; simp; done) | (apply Or.inr; simp; omega)))) x2) | (go_at_call 14; with_reducible refine (HBC.out _).mono ?_; rintro e w3 ⟨rfl, x3⟩; replace x3 : Chg NoChg w1 w3 := Chg.trans' (by (repeat' (first | (with_reducible exact Chg.refl _ _) | (with_reducible assumption) | (with_reducible refine Chg.alloc ?_ _) | (with_reducible refine Chg.drewN ?_ _) | (with_reducible refine Chg.drew ?_) | (with_reducible refine Chg.setCell ?_ _ ?_) | (apply Or.inl; with_reducible rfl) | (apply Or.inl; simp; done) | (apply Or.inr; simp; done) | (apply Or.inr; simp; omega)))) x3) | (go_at_call 14; with_reducible refine (HAC.out _).mono ?_; rintro e w4 ⟨rfl, x4⟩; replace x4 : Chg NoChg w1 w4 := Chg.trans' (by (repeat' (first | (with_reducible exact Chg.refl _ _) | (with_reducible assumption) | (with_reducible refine Chg.alloc ?_ _) | (with_reducible refine Chg.drewN ?_ _) | (with_reducible refine Chg.drew ?_) | (with_reducible refine Chg.setCell ?_ _ ?_) | (apply Or.inl; with_reducible rfl) | (apply Or.inl; simp; done) | (apply Or.inr; simp; done) | (apply Or.inr; simp; omega)))) x4))
  all_goals
    have S4 := hide (S1.out.keep x4)
    clear x2 x3 x4 KEEP
    obtain ⟨a0, a1, a2, a3, b0, b1, b2, b3, d0, d1, d2, d3⟩ := S4.out.cells
    go_wp2_with fail
    refine (HAA.out _).mono ?_
    rintro e w5 ⟨rfl, x5⟩
    have S5 := hide (S4.out.keep x5)
    clear x5 a0 a1 a2 a3 b0 b1 b2 b3 d0 d1 d2 d3
    obtain ⟨a0, a1, a2, a3, b0, b1, b2, b3, d0, d1, d2, d3⟩ := S5.out.cells
    go_wp2_with fail
    refine (HBA.out _).mono ?_
    rintro e w6 ⟨rfl, x6⟩
    have S6 := hide (S5.out.keep x6)
    clear x6 a0 a1 a2 a3 b0 b1 b2 b3 d0 d1 d2 d3
    obtain ⟨a0, a1, a2, a3, b0, b1, b2, b3, d0, d1, d2, d3⟩ := S6.out.cells
    go_wp2
    go_ret
    exact ⟨rfl, S6.out.chg⟩

set_option maxRecDepth 100000 in
set_option maxHeartbeats 8000000 in
theorem order_r1t (i1 t1 i2 t2 i3 t3 : Nat) (c1 n1 c2 n2 c3 n3 : Int) (hyp : t1 < t2) (hbc : bef t2 i2 t3 i3 = true) (hac : bef t1 i1 t3 i3 = true) (w : World) (hd : Door w) :
    Calls Tryd.prog 5 #[.agg #[.int .u64 (i1 : Int), .int .i64 c1, .int .i64 n1, .int .u64 (t1 : Int)], .agg #[.int .u64 (i2 : Int), .int .i64 c2, .int .i64 n2, .int .u64 (t2 : Int)], .agg #[.int .u64 (i3 : Int), .int .i64 c3, .int .i64 n3, .int .u64 (t3 : Int)]] w fun e w' => e = .returned (.bool true) ∧ Chg NoChg w w' := by
  have HAA := hide (pkBefore_any i1 t1 i1 t1 c1 n1 c1 n1)
  have HAB := hide (pkBefore_any i1 t1 i2 t2 c1 n1 c2 n2)
  have HBA := hide (pkBefore_any i2 t2 i1 t1 c2 n2 c1 n1)
  have HBC := hide (pkBefore_any i2 t2 i3 t3 c2 n2 c3 n3)
  have HAC := hide (pkBefore_any i1 t1 i3 t3 c1 n1 c3 n3)
  rw [bef_irr] at HAA
  rw [show bef t1 i1 t2 i2 = true from by simp [bef]; omega] at HAB
  rw [show bef t2 i2 t1 i1 = false from by simp [bef]; omega] at HBA
  rw [show bef t2 i2 t3 i3 = true from hbc] at HBC
  rw [show bef t1 i1 t3 i3 = true from hac] at HAC
  have e1 : ((t1 : Int) == (t2 : Int)) = false := by simp; omega
  have e2 : decide (t2 ≤ t1) = false := by simp; omega
  have S0 := hide (Bx3.start w i1 t1 i2 t2 i3 t3 c1 n1 c2 n2 c3 n3)
  have HD := hide hd
  have HA := hide (fun w hd => l10awake_any w hd)
  clear hd hyp
  go_enter Tryd.func5, Tryd.ntmps5
  go_wp2_with fail
  refine (HA.out _ (HD.out.keep S0.out.chg)).mono ?_
  rintro e w1 ⟨rfl, x1⟩
  have S1 := hide (S0.out.keep x1)
  clear x1 S0
  have KEEP := hide (fun (w' : World) (x : Chg NoChg w1 w') => (S1.out.keep x).cells)
  go_wp2
  go_region_held3 (fun w' : World => w'.cell? ⟨w.heap.size, 0, none⟩ = some (.int .u64 (i1 : Int)) ∧ w'.cell? ⟨w.heap.size, 1, none⟩ = some (.int .i64 c1) ∧ w'.cell? ⟨w.heap.size, 2, none⟩ = some (.int .i64 n1) ∧ w'.cell? ⟨w.heap.size, 3, none⟩ = some (.int .u64 (t1 : Int)) ∧ w'.cell? ⟨w.heap.size + 1, 0, none⟩ = some (.int .u64 (i2 : Int)) ∧ w'.cell? ⟨w.heap.size + 1, 1, none⟩ = some (.int .i64 c2) ∧ w'.cell? ⟨w.heap.size + 1, 2, none⟩ = some (.int .i64 n2) ∧ w'.cell? ⟨w.heap.size + 1, 3, none⟩ = some (.int .u64 (t2 : Int)) ∧ w'.cell? ⟨w.heap.size + 2, 0, none⟩ = some (.int .u64 (i3 : Int)) ∧ w'.cell? ⟨w.heap.size + 2, 1, none⟩ = some (.int .i64 c3) ∧ w'.cell? ⟨w.heap.size + 2, 2, none⟩ = some (.int .i64 n3) ∧ w'.cell? ⟨w.heap.size + 2, 3, none⟩ = some (.int .u64 (t3 : Int))) (exact KEEP.out _ (by (repeat' (first | (with_reducible exact Chg.refl _ _) | (with_reducible assumption) | (with_reducible refine Chg.alloc ?_ _) | (with_reducible refine Chg.drewN ?_ _) | (with_reducible refine Chg.drew ?_) | (with_reducible refine Chg.setCell ?_ _ ?_) | (apply Or.inl; with_reducible rfl) | (apply Or.inl; simp; done) | (apply Or.inr; simp; done) | (apply Or.inr; simp; omega))))) (first | (go_at_call 14; with_reducible refine (HAB.out _).mono ?_; rintro e w2 ⟨rfl, x2⟩; replace x2 : Chg NoChg w1 w2 := Chg.trans' (by (repeat' (first | (with_reducible exact Chg.refl _ _) | (with_reducible assumption) | (with_reducible refine Chg.alloc ?_ _) | (with_reducible refine Chg.drewN ?_ _) | (with_reducible refine Chg.drew ?_) | (with_reducible refine Chg.setCell ?_ _ ?_) | (apply Or.inl; with_reducible rfl) | (apply Or.inl; simp; done) | (apply Or.inr; simp; done) | (apply Or.inr; simp; omega)))) x2) | (go_at_call 14; with_reducible refine (HBC.out _).mono ?_; rintro e w3 ⟨rfl, x3⟩; replace x3 : Chg NoChg w1 w3 := Chg.trans' (by (repeat' (first | (with_reducible exact Chg.refl _ _) | (with_reducible assumption) | (with_reducible refine Chg.alloc ?_ _) | (with_reducible refine Chg.drewN ?_ _) | (with_reducible refine Chg.drew ?_) | (with_reducible refine Chg.setCell ?_ _ ?_) | (apply Or.inl; with_reducible rfl) | (apply Or.inl; simp; done) | (apply Or.inr; simp; done) | (apply Or.inr; simp; omega)))) x3) | (go_at_call 14; with_reducible refine (HAC.out _).mono ?_; rintro e w4 ⟨rfl, x4⟩; replace x4 : Chg NoChg w1 w4 := Chg.trans' (by (repeat' (first | (with_reducible exact Chg.refl _ _) | (with_reducible assumption) | (with_reducible refine Chg.alloc ?_ _) | (with_reducible refine Chg.drewN ?_ _) | (with_reducible refine Chg.drew ?_) | (with_reducible refine Chg.setCell ?_ _ ?_) | (apply Or.inl; with_reducible rfl) | (apply Or.inl; simp; done) | (apply Or.inr; simp; done) | (apply Or.inr; simp; omega)))) x4))
  all_goals
    have S4 := hide (S1.out.keep x4)
    clear x2 x3 x4 KEEP
    obtain ⟨a0, a1, a2, a3, b0, b1, b2, b3, d0, d1, d2, d3⟩ := S4.out.cells
    go_wp2_with fail
    refine (HAA.out _).mono ?_
    rintro e w5 ⟨rfl, x5⟩
    have S5 := hide (S4.out.keep x5)
    clear x5 a0 a1 a2 a3 b0 b1 b2 b3 d0 d1 d2 d3
    obtain ⟨a0, a1, a2, a3, b0, b1, b2, b3, d0, d1, d2, d3⟩ := S5.out.cells
    go_wp2_with fail
    refine (HBA.out _).mono ?_
    rintro e w6 ⟨rfl, x6⟩
    have S6 := hide (S5.out.keep x6)
    clear x6 a0 a1 a2 a3 b0 b1 b2 b3 d0 d1 d2 d3
    obtain ⟨a0, a1, a2, a3, b0, b1, b2, b3, d0, d1, d2, d3⟩ := S6.out.cells
    go_wp2
    go_ret
    exact ⟨rfl, S6.out.chg⟩

set_option maxRecDepth 100000 in
set_option maxHeartbeats 8000000 in
theorem order_r2 (i1 t1 i2 t2 i3 t3 : Nat) (c1 n1 c2 n2 c3 n3 : Int) (hyp : t2 < t1) (w : World) (hd : Door w) :
    Calls Tryd.prog 5 #[.agg #[.int .u64 (i1 : Int), .int .i64 c1, .int .i64 n1, .int .u64 (t1 : Int)], .agg #[.int .u64 (i2 : Int), .int .i64 c2, .int .i64 n2, .int .u64 (t2 : Int)], .agg #[.int .u64 (i3 : Int), .int .i64 c3, .int .i64 n3, .int .u64 (t3 : Int)]] w fun e w' => e = .returned (.bool true) ∧ Chg NoChg w w' := by
  have HAA := hide (pkBefore_any i1 t1 i1 t1 c1 n1 c1 n1)
  have HAB := hide (pkBefore_any i1 t1 i2 t2 c1 n1 c2 n2)
  have HBA := hide (pkBefore_any i2 t2 i1 t1 c2 n2 c1 n1)
  have HBC := hide (pkBefore_any i2 t2 i3 t3 c2 n2 c3 n3)
  have HAC := hide (pkBefore_any i1 t1 i3 t3 c1 n1 c3 n3)
  rw [bef_irr] at HAA
  rw [show bef t1 i1 t2 i2 = false from by simp [bef]; omega] at HAB
  rw [show bef t2 i2 t1 i1 = true from by simp [bef]; omega] at HBA
  generalize bef t2 i2 t3 i3 = xbc at HBC
  generalize bef t1 i1 t3 i3 = xac at HAC
  have e1 : ((t1 : Int) == (t2 : Int)) = false := by simp; omega
  have e2 : decide (t2 ≤ t1) = true := by simp; omega
  have S0 := hide (Bx3.start w i1 t1 i2 t2 i3 t3 c1 n1 c2 n2 c3 n3)
  have HD := hide hd
  have HA := hide (fun w hd => l10awake_any w hd)
  clear hd hyp
  go_enter Tryd.func5, Tryd.ntmps5
  go_wp2_with fail
  refine (HA.out _ (HD.out.keep S0.out.chg)).mono ?_
  rintro e w1 ⟨rfl, x1⟩
  have S1 := hide (S0.out.keep x1)
  clear x1 S0
  have KEEP := hide (fun (w' : World) (x : Chg NoChg w1 w') => (S1.out.keep x).cells)
  go_wp2
  go_region_held3 (fun w' : World => w'.cell? ⟨w.heap.size, 0, none⟩ = some (.int .u64 (i1 : Int)) ∧ w'.cell? ⟨w.heap.size, 1, none⟩ = some (.int .i64 c1) ∧ w'.cell? ⟨w.heap.size, 2, none⟩ = some (.int .i64 n1) ∧ w'.cell? ⟨w.heap.size, 3, none⟩ = some (.int .u64 (t1 : Int)) ∧ w'.cell? ⟨w.heap.size + 1, 0, none⟩ = some (.int .u64 (i2 : Int)) ∧ w'.cell? ⟨w.heap.size + 1, 1, none⟩ = some (.int .i64 c2) ∧ w'.cell? ⟨w.heap.size + 1, 2, none⟩ = some (.int .i64 n2) ∧ w'.cell? ⟨w.heap.size + 1, 3, none⟩ = some (.int .u64 (t2 : Int)) ∧ w'.cell? ⟨w.heap.size + 2, 0, none⟩ = some (.int .u64 (i3 : Int)) ∧ w'.cell? ⟨w.heap.size + 2, 1, none⟩ = some (.int .i64 c3) ∧ w'.cell? ⟨w.heap.size + 2, 2, none⟩ = some (.int .i64 n3) ∧ w'.cell? ⟨w.heap.size + 2, 3, none⟩ = some (.int .u64 (t3 : Int))) (exact KEEP.out _ (by (repeat' (first | (with_reducible exact Chg.refl _ _) | (with_reducible assumption) | (with_reducible refine Chg.alloc ?_ _) | (with_reducible refine Chg.drewN ?_ _) | (with_reducible refine Chg.drew ?_) | (with_reducible refine Chg.setCell ?_ _ ?_) | (apply Or.inl; with_reducible rfl) | (apply Or.inl; simp; done) | (apply Or.inr; simp; done) | (apply Or.inr; simp; omega))))) (first | (go_at_call 14; with_reducible refine (HAB.out _).mono ?_; rintro e w2 ⟨rfl, x2⟩; replace x2 : Chg NoChg w1 w2 := Chg.trans' (by (repeat' (first | (with_reducible exact Chg.refl _ _) | (with_reducible assumption) | (with_reducible refine Chg.alloc ?_ _) | (with_reducible refine Chg.drewN ?_ _) | (with_reducible refine Chg.drew ?_) | (with_reducible refine Chg.setCell ?_ _ ?_) | (apply Or.inl; with_reducible rfl) | (apply Or.inl; simp; done) | (apply Or.inr; simp; done) | (apply Or.inr; simp; omega)))) x2) | (go_at_call 14; with_reducible refine (HBC.out _).mono ?_; rintro e w3 ⟨rfl, x3⟩; replace x3 : Chg NoChg w1 w3 := Chg.trans' (by (repeat' (first | (with_reducible exact Chg.refl _ _) | (with_reducible assumption) | (with_reducible refine Chg.alloc ?_ _) | (with_reducible refine Chg.drewN ?_ _) | (with_reducible refine Chg.drew ?_) | (with_reducible refine Chg.setCell ?_ _ ?_) | (apply Or.inl; with_reducible rfl) | (apply Or.inl; simp; done) | (apply Or.inr; simp; done) | (apply Or.inr; simp; omega)))) x3) | (go_at_call 14; with_reducible refine (HAC.out _).mono ?_; rintro e w4 ⟨rfl, x4⟩; replace x4 : Chg NoChg w1 w4 := Chg.trans' (by (repeat' (first | (with_reducible exact Chg.refl _ _) | (with_reducible assumption) | (with_reducible refine Chg.alloc ?_ _) | (with_reducible refine Chg.drewN ?_ _) | (with_reducible refine Chg.drew ?_) | (with_reducible refine Chg.setCell ?_ _ ?_) | (apply Or.inl; with_reducible rfl) | (apply Or.inl; simp; done) | (apply Or.inr; simp; done) | (apply Or.inr; simp; omega)))) x4))
  all_goals
    have S4 := hide (S1.out.keep x4)
    clear x2 x3 x4 KEEP
    obtain ⟨a0, a1, a2, a3, b0, b1, b2, b3, d0, d1, d2, d3⟩ := S4.out.cells
    go_wp2_with fail
    refine (HAA.out _).mono ?_
    rintro e w5 ⟨rfl, x5⟩
    have S5 := hide (S4.out.keep x5)
    clear x5 a0 a1 a2 a3 b0 b1 b2 b3 d0 d1 d2 d3
    obtain ⟨a0, a1, a2, a3, b0, b1, b2, b3, d0, d1, d2, d3⟩ := S5.out.cells
    go_wp2_with fail
    refine (HBA.out _).mono ?_
    rintro e w6 ⟨rfl, x6⟩
    have S6 := hide (S5.out.keep x6)
    clear x6 a0 a1 a2 a3 b0 b1 b2 b3 d0 d1 d2 d3
    obtain ⟨a0, a1, a2, a3, b0, b1, b2, b3, d0, d1, d2, d3⟩ := S6.out.cells
    go_wp2
    go_ret
    exact ⟨rfl, S6.out.chg⟩

set_option maxRecDepth 100000 in
set_option maxHeartbeats 8000000 in
theorem order_r3f (i1 t1 i2 t2 i3 t3 : Nat) (c1 n1 c2 n2 c3 n3 : Int) (hyp : t1 = t2 ∧ i1 < i2) (hbc : bef t2 i2 t3 i3 = false) (w : World) (hd : Door w) :
    Calls Tryd.prog 5 #[.agg #[.int .u64 (i1 : Int), .int .i64 c1, .int .i64 n1, .int .u64 (t1 : Int)], .agg #[.int .u64 (i2 : Int), .int .i64 c2, .int .i64 n2, .int .u64 (t2 : Int)], .agg #[.int .u64 (i3 : Int), .int .i64 c3, .int .i64 n3, .int .u64 (t3 : Int)]] w fun e w' => e = .returned (.bool true) ∧ Chg NoChg w w' := by
  have HAA := hide (pkBefore_any i1 t1 i1 t1 c1 n1 c1 n1)
  have HAB := hide (pkBefore_any i1 t1 i2 t2 c1 n1 c2 n2)
  have HBA := hide (pkBefore_any i2 t2 i1 t1 c2 n2 c1 n1)
  have HBC := hide (pkBefore_any i2 t2 i3 t3 c2 n2 c3 n3)
  have HAC := hide (pkBefore_any i1 t1 i3 t3 c1 n1 c3 n3)
  rw [bef_irr] at HAA
  rw [show bef t1 i1 t2 i2 = true from by simp [bef]; omega] at HAB
  rw [show bef t2 i2 t1 i1 = false from by simp [bef]; omega] at HBA
  rw [show bef t2 i2 t3 i3 = false from hbc] at HBC
  generalize bef t1 i1 t3 i3 = xac at HAC
  have e1 : ((t1 : Int) == (t2 : Int)) = true := by simp; omega
  have e2 : decide (t2 ≤ t1) = true := by simp; omega
  have e3 : ((i1 : Int) == (i2 : Int)) = false := by simp; omega
  have S0 := hide (Bx3.start w i1 t1 i2 t2 i3 t3 c1 n1 c2 n2 c3 n3)
  have HD := hide hd
  have HA := hide (fun w hd => l10awake_any w hd)
  clear hd hyp
  go_enter Tryd.func5, Tryd.ntmps5
  go_wp2_with fail
  refine (HA.out _ (HD.out.keep S0.out.chg)).mono ?_
  rintro e w1 ⟨rfl, x1⟩
  have S1 := hide (S0.out.keep x1)
  clear x1 S0
  have KEEP := hide (fun (w' : World) (x : Chg NoChg w1 w') => (S1.out.keep x).cells)
  go_wp2
  go_region_held3 (fun w' : World => w'.cell? ⟨w.heap.size, 0, none⟩ = some (.int .u64 (i1 : Int)) ∧ w'.cell? ⟨w.heap.size, 1, none⟩ = some (.int .i64 c1) ∧ w'.cell? ⟨w.heap.size, 2, none⟩ = some (.int .i64 n1) ∧ w'.cell? ⟨w.heap.size, 3, none⟩ = some (.int .u64 (t1 : Int)) ∧ w'.cell? ⟨w.heap.size + 1, 0, none⟩ = some (.int .u64 (i2 : Int)) ∧ w'.cell? ⟨w.heap.size + 1, 1, none⟩ = some (.int .i64 c2) ∧ w'.cell? ⟨w.heap.size + 1, 2, none⟩ = some (.int .i64 n2) ∧ w'.cell? ⟨w.heap.size + 1, 3, none⟩ = some (.int .u64 (t2 : Int)) ∧ w'.cell? ⟨w.heap.size + 2, 0, none⟩ = some (.int .u64 (i3 : Int)) ∧ w'.cell? ⟨w.heap.size + 2, 1, none⟩ = some (.int .i64 c3) ∧ w'.cell? ⟨w.heap.size + 2, 2, none⟩ = some (.int .i64 n3) ∧ w'.cell? ⟨w.heap.size + 2, 3, none⟩ = some (.int .u64 (t3 : Int))) (exact KEEP.out _ (by (repeat' (first | (with_reducible exact Chg.refl _ _) | (with_reducible assumption) | (with_reducible refine Chg.alloc ?_ _) | (with_reducible refine Chg.drewN ?_ _) | (with_reducible refine Chg.drew ?_) | (with_reducible refine Chg.setCell ?_ _ ?_) | (apply Or.inl; with_reducible rfl) | (apply Or.inl; simp; done) | (apply Or.inr; simp; done) | (apply Or.inr; simp; omega))))) (first | (go_at_call 14; with_reducible refine (HAB.out _).mono ?_; rintro e w2 ⟨rfl, x2⟩; replace x2 : Chg NoChg w1 w2 := Chg.trans' (by (repeat' (first | (with_reducible exact Chg.refl _ _) | (with_reducible assumption) | (with_reducible refine Chg.alloc ?_ _) | (with_reducible refine Chg.drewN ?_ _) | (with_reducible refine Chg.drew ?_) | (with_reducible refine Chg.setCell ?_ _ ?_) | (apply Or.inl; with_reducible rfl) | (apply Or.inl; simp; done) | (apply Or.inr; simp; done) | (apply Or.inr; simp; omega)))) x2) | (go_at_call 14; with_reducible refine (HBC.out _).mono ?_; rintro e w3 ⟨rfl, x3⟩; replace x3 : Chg NoChg w1 w3 := Chg.trans' (by (repeat' (first | (with_reducible exact Chg.refl _ _) | (with_reducible assumption) | (with_reducible refine Chg.alloc ?_ _) | (with_reducible refine Chg.drewN ?_ _) | (with_reducible refine Chg.drew ?_) | (with_reducible refine Chg.setCell ?_ _ ?_) | (apply Or.inl; with_reducible rfl) | (apply Or.inl; simp; done) | (apply Or.inr; simp; done) | (apply Or.inr; simp; omega)))) x3) | (go_at_call 14; with_reducible refine (HAC.out _).mono ?_; rintro e w4 ⟨rfl, x4⟩; replace x4 : Chg NoChg w1 w4 := Chg.trans' (by (repeat' (first | (with_reducible exact Chg.refl _ _) | (with_reducible assumption) | (with_reducible refine Chg.alloc ?_ _) | (with_reducible refine Chg.drewN ?_ _) | (with_reducible refine Chg.drew ?_) | (with_reducible refine Chg.setCell ?_ _ ?_) | (apply Or.inl; with_reducible rfl) | (apply Or.inl; simp; done) | (apply Or.inr; simp; done) | (apply Or.inr; simp; omega)))) x4))
  all_goals
    have S4 := hide (S1.out.keep x4)
    clear x2 x3 x4 KEEP
    obtain ⟨a0, a1, a2, a3, b0, b1, b2, b3, d0, d1, d2, d3⟩ := S4.out.cells
    go_wp2_with fail
    refine (HAA.out _).mono ?_
    rintro e w5 ⟨rfl, x5⟩
    have S5 := hide (S4.out.keep x5)
    clear x5 a0 a1 a2 a3 b0 b1 b2 b3 d0 d1 d2 d3
    obtain ⟨a0, a1, a2, a3, b0, b1, b2, b3, d0, d1, d2, d3⟩ := S5.out.cells
    go_wp2_with fail
    refine (HBA.out _).mono ?_
    rintro e w6 ⟨rfl, x6⟩
    have S6 := hide (S5.out.keep x6)
    clear x6 a0 a1 a2 a3 b0 b1 b2 b3 d0 d1 d2 d3
    obtain ⟨a0, a1, a2, a3, b0, b1, b2, b3, d0, d1, d2, d3⟩ := S6.out.cells
    go_wp2
    go_ret
    exact ⟨rfl, S6.out.chg⟩

set_option maxRecDepth 100000 in
set_option maxHeartbeats 8000000 in
theorem order_r3t (i1 t1 i2 t2 i3 t3 : Nat) (c1 n1 c2 n2 c3 n3 : Int) (hyp : t1 = t2 ∧ i1 < i2) (hbc : bef t2 i2 t3 i3 = true) (hac : bef t1 i1 t3 i3 = true) (w : World) (hd : Door w) :
    Calls Tryd.prog 5 #[.agg #[.int .u64 (i1 : Int), .int .i64 c1, .int .i64 n1, .int .u64 (t1 : Int)], .agg #[.int .u64 (i2 : Int), .int .i64 c2, .int .i64 n2, .int .u64 (t2 : Int)], .agg #[.int .u64 (i3 : Int), .int .i64 c3, .int .i64 n3, .int .u64 (t3 : Int)]] w fun e w' => e = .returned (.bool true) ∧ Chg NoChg w w' := by
  have HAA := hide (pkBefore_any i1 t1 i1 t1 c1 n1 c1 n1)
  have HAB := hide (pkBefore_any i1 t1 i2 t2 c1 n1 c2 n2)
  have HBA := hide (pkBefore_any i2 t2 i1 t1 c2 n2 c1 n1)
  have HBC := hide (pkBefore_any i2 t2 i3 t3 c2 n2 c3 n3)
  have HAC := hide (pkBefore_any i1 t1 i3 t3 c1 n1 c3 n3)
  rw [bef_irr] at HAA
  rw [show bef t1 i1 t2 i2 = true from by simp [bef]; omega] at HAB
  rw [show bef t2 i2 t1 i1 = false from by simp [bef]; omega] at HBA
  rw [show bef t2 i2 t3 i3 = true from hbc] at HBC
  rw [show bef t1 i1 t3 i3 = true from hac] at HAC
  have e1 : ((t1 : Int) == (t2 : Int)) = true := by simp; omega
  have e2 : decide (t2 ≤ t1) = true := by simp; omega
  have e3 : ((i1 : Int) == (i2 : Int)) = false := by simp; omega
  have S0 := hide (Bx3.start w i1 t1 i2 t2 i3 t3 c1 n1 c2 n2 c3 n3)
  have HD := hide hd
  have HA := hide (fun w hd => l10awake_any w hd)
  clear hd hyp
  go_enter Tryd.func5, Tryd.ntmps5
  go_wp2_with fail
  refine (HA.out _ (HD.out.keep S0.out.chg)).mono ?_
  rintro e w1 ⟨rfl, x1⟩
  have S1 := hide (S0.out.keep x1)
  clear x1 S0
  have KEEP := hide (fun (w' : World) (x : Chg NoChg w1 w') => (S1.out.keep x).cells)
  go_wp2
  go_region_held3 (fun w' : World => w'.cell? ⟨w.heap.size, 0, none⟩ = some (.int .u64 (i1 : Int)) ∧ w'.cell? ⟨w.heap.size, 1, none⟩ = some (.int .i64 c1) ∧ w'.cell? ⟨w.heap.size, 2, none⟩ = some (.int .i64 n1) ∧ w'.cell? ⟨w.heap.size, 3, none⟩ = some (.int .u64 (t1 : Int)) ∧ w'.cell? ⟨w.heap.size + 1, 0, none⟩ = some (.int .u64 (i2 : Int)) ∧ w'.cell? ⟨w.heap.size + 1, 1, none⟩ = some (.int .i64 c2) ∧ w'.cell? ⟨w.heap.size + 1, 2, none⟩ = some (.int .i64 n2) ∧ w'.cell? ⟨w.heap.size + 1, 3, none⟩ = some (.int .u64 (t2 : Int)) ∧ w'.cell? ⟨w.heap.size + 2, 0, none⟩ = some (.int .u64 (i3 : Int)) ∧ w'.cell? ⟨w.heap.size + 2, 1, none⟩ = some (.int .i64 c3) ∧ w'.cell? ⟨w.heap.size + 2, 2, none⟩ = some (.int .i64 n3) ∧ w'.cell? ⟨w.heap.size + 2, 3, none⟩ = some (.int .u64 (t3 : Int))) (exact KEEP.out _ (by (repeat' (first | (with_reducible exact Chg.refl _ _) | (with_reducible assumption) | (with_reducible refine Chg.alloc ?_ _) | (with_reducible refine Chg.drewN ?_ _) | (with_reducible refine Chg.drew ?_) | (with_reducible refine Chg.setCell ?_ _ ?_) | (apply Or.inl; with_reducible rfl) | (apply Or.inl; simp; done) | (apply Or.inr; simp; done) | (apply Or.inr; simp; omega))))) (first | (go_at_call 14; with_reducible refine (HAB.out _).mono ?_; rintro e w2 ⟨rfl, x2⟩; replace x2 : Chg NoChg w1 w2 := Chg.trans' (by (repeat' (first | (with_reducible exact Chg.refl _ _) | (with_reducible assumption) | (with_reducible refine Chg.alloc ?_ _) | (with_reducible refine Chg.drewN ?_ _) | (with_reducible refine Chg.drew ?_) | (with_reducible refine Chg.setCell ?_ _ ?_) | (apply Or.inl; with_reducible rfl) | (apply Or.inl; simp; done) | (apply Or.inr; simp; done) | (apply Or.inr; simp; omega)))) x2) | (go_at_call 14; with_reducible refine (HBC.out _).mono ?_; rintro e w3 ⟨rfl, x3⟩; replace x3 : Chg NoChg w1 w3 := Chg.trans' (by (repeat' (first | (with_reducible exact Chg.refl _ _) | (with_reducible assumption) | (with_reducible refine Chg.alloc ?_ _) | (with_reducible refine Chg.drewN ?_ _) | (with_reducible refine Chg.drew ?_) | (with_reducible refine Chg.setCell ?_ _ ?_) | (apply Or.inl; with_reducible rfl) | (apply Or.inl; simp; done) | (apply Or.inr; simp; done) | (apply Or.inr; simp; omega)))) x3) | (go_at_call 14; with_reducible refine (HAC.out _).mono ?_; rintro e w4 ⟨rfl, x4⟩; replace x4 : Chg NoChg w1 w4 := Chg.trans' (by (repeat' (first | (with_reducible exact Chg.refl _ _) | (with_reducible assumption) | (with_reducible refine Chg.alloc ?_ _) | (with_reducible refine Chg.drewN ?_ _) | (with_reducible refine Chg.drew ?_) | (with_reducible refine Chg.setCell ?_ _ ?_) | (apply Or.inl; with_reducible rfl) | (apply Or.inl; simp; done) | (apply Or.inr; simp; done) | (apply Or.inr; simp; omega)))) x4))
  all_goals
    have S4 := hide (S1.out.keep x4)
    clear x2 x3 x4 KEEP
    obtain ⟨a0, a1, a2, a3, b0, b1, b2, b3, d0, d1, d2, d3⟩ := S4.out.cells
    go_wp2_with fail
    refine (HAA.out _).mono ?_
    rintro e w5 ⟨rfl, x5⟩
    have S5 := hide (S4.out.keep x5)
    clear x5 a0 a1 a2 a3 b0 b1 b2 b3 d0 d1 d2 d3
    obtain ⟨a0, a1, a2, a3, b0, b1, b2, b3, d0, d1, d2, d3⟩ := S5.out.cells
    go_wp2_with fail
    refine (HBA.out _).mono ?_
    rintro e w6 ⟨rfl, x6⟩
    have S6 := hide (S5.out.keep x6)
    clear x6 a0 a1 a2 a3 b0 b1 b2 b3 d0 d1 d2 d3
    obtain ⟨a0, a1, a2, a3, b0, b1, b2, b3, d0, d1, d2, d3⟩ := S6.out.cells
    go_wp2
    go_ret
    exact ⟨rfl, S6.out.chg⟩

set_option maxRecDepth 100000 in
set_option maxHeartbeats 8000000 in
theorem order_r4 (i1 t1 i2 t2 i3 t3 : Nat) (c1 n1 c2 n2 c3 n3 : Int) (hyp : t1 = t2 ∧ i2 < i1) (w : World) (hd : Door w) :
    Calls Tryd.prog 5 #[.agg #[.int .u64 (i1 : Int), .int .i64 c1, .int .i64 n1, .int .u64 (t1 : Int)], .agg #[.int .u64 (i2 : Int), .int .i64 c2, .int .i64 n2, .int .u64 (t2 : Int)], .agg #[.int .u64 (i3 : Int), .int .i64 c3, .int .i64 n3, .int .u64 (t3 : Int)]] w fun e w' => e = .returned (.bool true) ∧ Chg NoChg w w' := by
  have HAA := hide (pkBefore_any i1 t1 i1 t1 c1 n1 c1 n1)
  have HAB := hide (pkBefore_any i1 t1 i2 t2 c1 n1 c2 n2)
  have HBA := hide (pkBefore_any i2 t2 i1 t1 c2 n2 c1 n1)
  have HBC := hide (pkBefore_any i2 t2 i3 t3 c2 n2 c3 n3)
  have HAC := hide (pkBefore_any i1 t1 i3 t3 c1 n1 c3 n3)
  rw [bef_irr] at HAA
  rw [show bef t1 i1 t2 i2 = false from by simp [bef]; omega] at HAB
  rw [show bef t2 i2 t1 i1 = true from by simp [bef]; omega] at HBA
  generalize bef t2 i2 t3 i3 = xbc at HBC
  generalize bef t1 i1 t3 i3 = xac at HAC
  have e1 : ((t1 : Int) == (t2 : Int)) = true := by simp; omega
  have e2 : decide (t2 ≤ t1) = true := by simp; omega
  have e3 : ((i1 : Int) == (i2 : Int)) = false := by simp; omega
  have S0 := hide (Bx3.start w i1 t1 i2 t2 i3 t3 c1 n1 c2 n2 c3 n3)
  have HD := hide hd
  have HA := hide (fun w hd => l10awake_any w hd)
  clear hd hyp
  go_enter Tryd.func5, Tryd.ntmps5
  go_wp2_with fail
  refine (HA.out _ (HD.out.keep S0.out.chg)).mono ?_
  rintro e w1 ⟨rfl, x1⟩
  have S1 := hide (S0.out.keep x1)
  clear x1 S0
  have KEEP := hide (fun (w' : World) (x : Chg NoChg w1 w') => (S1.out.keep x).cells)
  go_wp2
  go_region_held3 (fun w' : World => w'.cell? ⟨w.heap.size, 0, none⟩ = some (.int .u64 (i1 : Int)) ∧ w'.cell? ⟨w.heap.size, 1, none⟩ = some (.int .i64 c1) ∧ w'.cell? ⟨w.heap.size, 2, none⟩ = some (.int .i64 n1) ∧ w'.cell? ⟨w.heap.size, 3, none⟩ = some (.int .u64 (t1 : Int)) ∧ w'.cell? ⟨w.heap.size + 1, 0, none⟩ = some (.int .u64 (i2 : Int)) ∧ w'.cell? ⟨w.heap.size + 1, 1, none⟩ = some (.int .i64 c2) ∧ w'.cell? ⟨w.heap.size + 1, 2, none⟩ = some (.int .i64 n2) ∧ w'.cell? ⟨w.heap.size + 1, 3, none⟩ = some (.int .u64 (t2 : Int)) ∧ w'.cell? ⟨w.heap.size + 2, 0, none⟩ = some (.int .u64 (i3 : Int)) ∧ w'.cell? ⟨w.heap.size + 2, 1, none⟩ = some (.int .i64 c3) ∧ w'.cell? ⟨w.heap.size + 2, 2, none⟩ = some (.int .i64 n3) ∧ w'.cell? ⟨w.heap.size + 2, 3, none⟩ = some (.int .u64 (t3 : Int))) (exact KEEP.out _ (by (repeat' (first | (with_reducible exact Chg.refl _ _) | (with_reducible assumption) | (with_reducible refine Chg.alloc ?_ _) | (with_reducible refine Chg.drewN ?_ _) | (with_reducible refine Chg.drew ?_) | (with_reducible refine Chg.setCell ?_ _ ?_) | (apply Or.inl; with_reducible rfl) | (apply Or.inl; simp; done) | (apply Or.inr; simp; done) | (apply Or.inr; simp; omega))))) (first | (go_at_call 14; with_reducible refine (HAB.out _).mono ?_; rintro e w2 ⟨rfl, x2⟩; replace x2 : Chg NoChg w1 w2 := Chg.trans' (by (repeat' (first | (with_reducible exact Chg.refl _ _) | (with_reducible assumption) | (with_reducible refine Chg.alloc ?_ _) | (with_reducible refine Chg.drewN ?_ _) | (with_reducible refine Chg.drew ?_) | (with_reducible refine Chg.setCell ?_ _ ?_) | (apply Or.inl; with_reducible rfl) | (apply Or.inl; simp; done) | (apply Or.inr; simp; done) | (apply Or.inr; simp; omega)))) x2) | (go_at_call 14; with_reducible refine (HBC.out _).mono ?_; rintro e w3 ⟨rfl, x3⟩; replace x3 : Chg NoChg w1 w3 := Chg.trans' (by (repeat' (first | (with_reducible exact Chg.refl _ _) | (with_reducible assumption) | (with_reducible refine Chg.alloc ?_ _) | (with_reducible refine Chg.drewN ?_ _) | (with_reducible refine Chg.drew ?_) | (with_reducible refine Chg.setCell ?_ _ ?_) | (apply Or.inl; with_reducible rfl) | (apply Or.inl; simp; done) | (apply Or.inr; simp; done) | (apply Or.inr; simp; omega)))) x3) | (go_at_call 14; with_reducible refine (HAC.out _).mono ?_; rintro e w4 ⟨rfl, x4⟩; replace x4 : Chg NoChg w1 w4 := Chg.trans' (by (repeat' (first | (with_reducible exact Chg.refl _ _) | (with_reducible assumption) | (with_reducible refine Chg.alloc ?_ _) | (with_reducible refine Chg.drewN ?_ _) | (with_reducible refine Chg.drew ?_) | (with_reducible refine Chg.setCell ?_ _ ?_) | (apply Or.inl; with_reducible rfl) | (apply Or.inl; simp; done) | (apply Or.inr; simp; done) | (apply Or.inr; simp; omega)))) x4))
  all_goals
    have S4 := hide (S1.out.keep x4)
    clear x2 x3 x4 KEEP
    obtain ⟨a0, a1, a2, a3, b0, b1, b2, b3, d0, d1, d2, d3⟩ := S4.out.cells
    go_wp2_with fail
    refine (HAA.out _).mono ?_
    rintro e w5 ⟨rfl, x5⟩
    have S5 := hide (S4.out.keep x5)
    clear x5 a0 a1 a2 a3 b0 b1 b2 b3 d0 d1 d2 d3
    obtain ⟨a0, a1, a2, a3, b0, b1, b2, b3, d0, d1, d2, d3⟩ := S5.out.cells
    go_wp2_with fail
    refine (HBA.out _).mono ?_
    rintro e w6 ⟨rfl, x6⟩
    have S6 := hide (S5.out.keep x6)
    clear x6 a0 a1 a2 a3 b0 b1 b2 b3 d0 d1 d2 d3
    obtain ⟨a0, a1, a2, a3, b0, b1, b2, b3, d0, d1, d2, d3⟩ := S6.out.cells
    go_wp2
    go_ret
    exact ⟨rfl, S6.out.chg⟩

set_option maxRecDepth 100000 in
set_option maxHeartbeats 8000000 in
theorem order_r5 (i1 t1 i2 t2 i3 t3 : Nat) (c1 n1 c2 n2 c3 n3 : Int) (hyp : t1 = t2 ∧ i1 = i2) (w : World) (hd : Door w) :
    Calls Tryd.prog 5 #[.agg #[.int .u64 (i1 : Int), .int .i64 c1, .int .i64 n1, .int .u64 (t1 : Int)], .agg #[.int .u64 (i2 : Int), .int .i64 c2, .int .i64 n2, .int .u64 (t2 : Int)], .agg #[.int .u64 (i3 : Int), .int .i64 c3, .int .i64 n3, .int .u64 (t3 : Int)]] w fun e w' => e = .returned (.bool true) ∧ Chg NoChg w w' := by
  have HAA := hide (pkBefore_any i1 t1 i1 t1 c1 n1 c1 n1)
  have HAB := hide (pkBefore_any i1 t1 i2 t2 c1 n1 c2 n2)
  have HBA := hide (pkBefore_any i2 t2 i1 t1 c2 n2 c1 n1)
  have HBC := hide (pkBefore_any i2 t2 i3 t3 c2 n2 c3 n3)
  have HAC := hide (pkBefore_any i1 t1 i3 t3 c1 n1 c3 n3)
  rw [bef_irr] at HAA
  rw [show bef t1 i1 t2 i2 = false from by simp [bef]; omega] at HAB
  rw [show bef t2 i2 t1 i1 = false from by simp [bef]; omega] at HBA
  generalize bef t2 i2 t3 i3 = xbc at HBC
  generalize bef t1 i1 t3 i3 = xac at HAC
  have e1 : ((t1 : Int) == (t2 : Int)) = true := by simp; omega
  have e2 : decide (t2 ≤ t1) = true := by simp; omega
  have e3 : ((i1 : Int) == (i2 : Int)) = true := by simp; omega
  have S0 := hide (Bx3.start w i1 t1 i2 t2 i3 t3 c1 n1 c2 n2 c3 n3)
  have HD := hide hd
  have HA := hide (fun w hd => l10awake_any w hd)
  clear hd hyp
  go_enter Tryd.func5, Tryd.ntmps5
  go_wp2_with fail
  refine (HA.out _ (HD.out.keep S0.out.chg)).mono ?_
  rintro e w1 ⟨rfl, x1⟩
  have S1 := hide (S0.out.keep x1)
  clear x1 S0
  have KEEP := hide (fun (w' : World) (x : Chg NoChg w1 w') => (S1.out.keep x).cells)
  go_wp2
  go_region_held3 (fun w' : World => w'.cell? ⟨w.heap.size, 0, none⟩ = some (.int .u64 (i1 : Int)) ∧ w'.cell? ⟨w.heap.size, 1, none⟩ = some (.int .i64 c1) ∧ w'.cell? ⟨w.heap.size, 2, none⟩ = some (.int .i64 n1) ∧ w'.cell? ⟨w.heap.size, 3, none⟩ = some (.int .u64 (t1 : Int)) ∧ w'.cell? ⟨w.heap.size + 1, 0, none⟩ = some (.int .u64 (i2 : Int)) ∧ w'.cell? ⟨w.heap.size + 1, 1, none⟩ = some (.int .i64 c2) ∧ w'.cell? ⟨w.heap.size + 1, 2, none⟩ = some (.int .i64 n2) ∧ w'.cell? ⟨w.heap.size + 1, 3, none⟩ = some (.int .u64 (t2 : Int)) ∧ w'.cell? ⟨w.heap.size + 2, 0, none⟩ = some (.int .u64 (i3 : Int)) ∧ w'.cell? ⟨w.heap.size + 2, 1, none⟩ = some (.int .i64 c3) ∧ w'.cell? ⟨w.heap.size + 2, 2, none⟩ = some (.int .i64 n3) ∧ w'.cell? ⟨w.heap.size + 2, 3, none⟩ = some (.int .u64 (t3 : Int))) (exact KEEP.out _ (by (repeat' (first | (with_reducible exact Chg.refl _ _) | (with_reducible assumption) | (with_reducible refine Chg.alloc ?_ _) | (with_reducible refine Chg.drewN ?_ _) | (with_reducible refine Chg.drew ?_) | (with_reducible refine Chg.setCell ?_ _ ?_) | (apply Or.inl; with_reducible rfl) | (apply Or.inl; simp; done) | (apply Or.inr; simp; done) | (apply Or.inr; simp; omega))))) (first | (go_at_call 14; with_reducible refine (HAB.out _).mono ?_; rintro e w2 ⟨rfl, x2⟩; replace x2 : Chg NoChg w1 w2 := Chg.trans' (by (repeat' (first | (with_reducible exact Chg.refl _ _) | (with_reducible assumption) | (with_reducible refine Chg.alloc ?_ _) | (with_reducible refine Chg.drewN ?_ _) | (with_reducible refine Chg.drew ?_) | (with_reducible refine Chg.setCell ?_ _ ?_) | (apply Or.inl; with_reducible rfl) | (apply Or.inl; simp; done) | (apply Or.inr; simp; done) | (apply Or.inr; simp; omega)))) x2) | (go_at_call 14; with_reducible refine (HBC.out _).mono ?_; rintro e w3 ⟨rfl, x3⟩; replace x3 : Chg NoChg w1 w3 := Chg.trans' (by (repeat' (first | (with_reducible exact Chg.refl _ _) | (with_reducible assumption) | (with_reducible refine Chg.alloc ?_ _) | (with_reducible refine Chg.drewN ?_ _) | (with_reducible refine Chg.drew ?_) | (with_reducible refine Chg.setCell ?_ _ ?_) | (apply Or.inl; with_reducible rfl) | (apply Or.inl; simp; done) | (apply Or.inr; simp; done) | (apply Or.inr; simp; omega)))) x3) | (go_at_call 14; with_reducible refine (HAC.out _).mono ?_; rintro e w4 ⟨rfl, x4⟩; replace x4 : Chg NoChg w1 w4 := Chg.trans' (by (repeat' (first | (with_reducible exact Chg.refl _ _) | (with_reducible assumption) | (with_reducible refine Chg.alloc ?_ _) | (with_reducible refine Chg.drewN ?_ _) | (with_reducible refine Chg.drew ?_) | (with_reducible refine Chg.setCell ?_ _ ?_) | (apply Or.inl; with_reducible rfl) | (apply Or.inl; simp; done) | (apply Or.inr; simp; done) | (apply Or.inr; simp; omega)))) x4))
  all_goals
    have S4 := hide (S1.out.keep x4)
    clear x2 x3 x4 KEEP
    obtain ⟨a0, a1, a2, a3, b0, b1, b2, b3, d0, d1, d2, d3⟩ := S4.out.cells
    go_wp2_with fail
    refine (HAA.out _).mono ?_
    rintro e w5 ⟨rfl, x5⟩
    have S5 := hide (S4.out.keep x5)
    clear x5 a0 a1 a2 a3 b0 b1 b2 b3 d0 d1 d2 d3
    obtain ⟨a0, a1, a2, a3, b0, b1, b2, b3, d0, d1, d2, d3⟩ := S5.out.cells
    go_wp2_with fail
    refine (HBA.out _).mono ?_
    rintro e w6 ⟨rfl, x6⟩
    have S6 := hide (S5.out.keep x6)
    clear x6 a0 a1 a2 a3 b0 b1 b2 b3 d0 d1 d2 d3
    obtain ⟨a0, a1, a2, a3, b0, b1, b2, b3, d0, d1, d2, d3⟩ := S6.out.cells
    go_wp2
    go_ret
    exact ⟨rfl, S6.out.chg⟩

theorem packetOrder_any (i1 t1 i2 t2 i3 t3 : Nat) (c1 n1 c2 n2 c3 n3 : Int) (w : World) (hd : Door w) :
    Calls Tryd.prog 5 #[.agg #[.int .u64 (i1 : Int), .int .i64 c1, .int .i64 n1, .int .u64 (t1 : Int)], .agg #[.int .u64 (i2 : Int), .int .i64 c2, .int .i64 n2, .int .u64 (t2 : Int)], .agg #[.int .u64 (i3 : Int), .int .i64 c3, .int .i64 n3, .int .u64 (t3 : Int)]] w fun e w' => e = .returned (.bool true) ∧ Chg NoChg w w' := by
  rcases Nat.lt_trichotomy t1 t2 with h | h | h
  · cases hbc : bef t2 i2 t3 i3 with
    | false => exact order_r1f i1 t1 i2 t2 i3 t3 c1 n1 c2 n2 c3 n3 h hbc w hd
    | true => exact order_r1t i1 t1 i2 t2 i3 t3 c1 n1 c2 n2 c3 n3 h hbc (bef_tr (by simp [bef]; omega) hbc) w hd
  · rcases Nat.lt_trichotomy i1 i2 with h2 | h2 | h2
    · cases hbc : bef t2 i2 t3 i3 with
      | false => exact order_r3f i1 t1 i2 t2 i3 t3 c1 n1 c2 n2 c3 n3 ⟨h, h2⟩ hbc w hd
      | true => exact order_r3t i1 t1 i2 t2 i3 t3 c1 n1 c2 n2 c3 n3 ⟨h, h2⟩ hbc (bef_tr (by simp [bef]; omega) hbc) w hd
    · exact order_r5 i1 t1 i2 t2 i3 t3 c1 n1 c2 n2 c3 n3 ⟨h, h2⟩ w hd
    · exact order_r4 i1 t1 i2 t2 i3 t3 c1 n1 c2 n2 c3 n3 ⟨h, h2⟩ w hd
  · exact order_r2 i1 t1 i2 t2 i3 t3 c1 n1 c2 n2 c3 n3 h w hd

set_option maxRecDepth 100000 in
theorem packetOrder_law {H : Type} (enc : TypeId × Value → H) : LawWalkL enc Tryd.prog Rows.packetOrderRow.laid 5 Tryd.f5 := by
  intro W base args ds p hval0 hA0 hsz hlt hL hS
  have hd := door_of_laid hL hS
  have hval : ∀ (j : Nat) t v, Tryd.f5.params[j]? = some t → args[j]? = some v → Value.okWide Tryd.prog W .any base t v := hval0
  have hA := hA0
  rw [Tryd.params5] at hA hval
  obtain ⟨v0, v1, v2, d0, d1, d2, p0, p1, p2, rfl, rfl, rfl, h0, h1, h2⟩ := trodAll_three hA
  obtain ⟨cs, rfl, hcs⟩ := open_flat Tryd.underlying24 pktK (hval 0 24 v0 rfl rfl) h0
  obtain ⟨i1, t1, c1, n1, hs, -⟩ := pkt_of_fits hcs
  rw [hs]
  obtain ⟨cs2, rfl, hcs2⟩ := open_flat Tryd.underlying24 pktK (hval 1 24 v1 rfl rfl) h1
  obtain ⟨i2, t2, c2, n2, hs2, -⟩ := pkt_of_fits hcs2
  rw [hs2]
  obtain ⟨cs3, rfl, hcs3⟩ := open_flat Tryd.underlying24 pktK (hval 2 24 v2 rfl rfl) h2
  obtain ⟨i3, t3, c3, n3, hs3, -⟩ := pkt_of_fits hcs3
  rw [hs3]
  exact (packetOrder_any i1 t1 i2 t2 i3 t3 c1 n1 c2 n2 c3 n3 W hd).mono fun e w' h => ⟨h.1, h.2.below⟩

theorem packetOrder_holds : Rows.PacketOrderCardSaid := packetOrder_card fun H enc => packetOrder_law enc
end Go.Proofs.YtofgajlpdnokdaaDoor
