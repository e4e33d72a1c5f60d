/- spec: kinds, shapes. -/
import Derived.Test.YtofgajlpdnokdaaGreatDoorSpec2
import Derived.Deep.RegionHeld3
import Derived.Outline
namespace Go.Proofs.YtofgajlpdnokdaaGreatDoor
set_option linter.unusedVariables false
open Go.RowKit

/-- Where a spec lies, its Leaf apart. -/
def SpbAt (w : World) (g : Nat) (s : Spc) (b : Bool) : Prop := Blk w g #[.int .i64 s.id, .int .i64 s.par, .bool b, .int .u64 (s.real.f : Int), .int .u64 (s.real.l : Int), .int .u64 (s.real.r : Int), .int .u64 (s.share.f : Int), .int .u64 (s.share.l : Int), .int .u64 (s.share.r : Int), .int .u64 (s.upper.f : Int), .int .u64 (s.upper.l : Int), .int .u64 (s.upper.r : Int), .int .i64 s.pk, .int .i64 s.bt] 26
theorem SpbAt.keep {w w' : World} {g : Nat} {s : Spc} {b : Bool} (h : SpbAt w g s b) (c : Chg NoChg w w') : SpbAt w' g s b := c.blk h (fun h => h)
theorem SpbAt.cells {w : World} {g : Nat} {s : Spc} {b : Bool} (h : SpbAt w g s b) : w.cell? ⟨g, 0, none⟩ = some (.int .i64 s.id) ∧ w.cell? ⟨g, 1, none⟩ = some (.int .i64 s.par) ∧ w.cell? ⟨g, 2, none⟩ = some (.bool b) ∧ w.cell? ⟨g, 3, none⟩ = some (.int .u64 (s.real.f : Int)) ∧ w.cell? ⟨g, 4, none⟩ = some (.int .u64 (s.real.l : Int)) ∧ w.cell? ⟨g, 5, none⟩ = some (.int .u64 (s.real.r : Int)) ∧ w.cell? ⟨g, 6, none⟩ = some (.int .u64 (s.share.f : Int)) ∧ w.cell? ⟨g, 7, none⟩ = some (.int .u64 (s.share.l : Int)) ∧ w.cell? ⟨g, 8, none⟩ = some (.int .u64 (s.share.r : Int)) ∧ w.cell? ⟨g, 9, none⟩ = some (.int .u64 (s.upper.f : Int)) ∧ w.cell? ⟨g, 10, none⟩ = some (.int .u64 (s.upper.l : Int)) ∧ w.cell? ⟨g, 11, none⟩ = some (.int .u64 (s.upper.r : Int)) ∧ w.cell? ⟨g, 12, none⟩ = some (.int .i64 s.pk) ∧ w.cell? ⟨g, 13, none⟩ = some (.int .i64 s.bt) :=
  ⟨Blk.cell h 0, Blk.cell h 1, Blk.cell h 2, Blk.cell h 3, Blk.cell h 4, Blk.cell h 5, Blk.cell h 6, Blk.cell h 7, Blk.cell h 8, Blk.cell h 9, Blk.cell h 10, Blk.cell h 11, Blk.cell h 12, Blk.cell h 13⟩
theorem SpbAt.new (w : World) (s : Spc) (b : Bool) : SpbAt (w.alloc (.cells #[.int .i64 s.id, .int .i64 s.par, .bool b, .int .u64 (s.real.f : Int), .int .u64 (s.real.l : Int), .int .u64 (s.real.r : Int), .int .u64 (s.share.f : Int), .int .u64 (s.share.l : Int), .int .u64 (s.share.r : Int), .int .u64 (s.upper.f : Int), .int .u64 (s.upper.l : Int), .int .u64 (s.upper.r : Int), .int .i64 s.pk, .int .i64 s.bt] 26)) w.heap.size s b := Blk.new _ _ _
theorem SpbAt.curves {w w' : World} {g : Nat} {s : Spc} {b : Bool} (h : SpbAt w g s b) (c : Chg NoChg w w') : w'.cell? ⟨g, 3, none⟩ = some (.int .u64 (s.real.f : Int)) ∧ w'.cell? ⟨g, 4, none⟩ = some (.int .u64 (s.real.l : Int)) ∧ w'.cell? ⟨g, 5, none⟩ = some (.int .u64 (s.real.r : Int)) ∧ w'.cell? ⟨g, 6, none⟩ = some (.int .u64 (s.share.f : Int)) ∧ w'.cell? ⟨g, 7, none⟩ = some (.int .u64 (s.share.l : Int)) ∧ w'.cell? ⟨g, 8, none⟩ = some (.int .u64 (s.share.r : Int)) :=
  ⟨Blk.cell (h.keep c) 3, Blk.cell (h.keep c) 4, Blk.cell (h.keep c) 5, Blk.cell (h.keep c) 6, Blk.cell (h.keep c) 7, Blk.cell (h.keep c) 8⟩

def kindB (b x y : Bool) : Int := if b = false then 4 else if x = false ∧ y = false then 3 else if x = false then 1 else if y = false then 2 else 0

set_option maxRecDepth 100000 in
set_option maxHeartbeats 2000000 in
theorem spKind_b (s : Spc) (b : Bool) (w : World) : Calls Tryz.prog 11 #[.agg #[.int .i64 s.id, .int .i64 s.par, .bool b, .int .u64 (s.real.f : Int), .int .u64 (s.real.l : Int), .int .u64 (s.real.r : Int), .int .u64 (s.share.f : Int), .int .u64 (s.share.l : Int), .int .u64 (s.share.r : Int), .int .u64 (s.upper.f : Int), .int .u64 (s.upper.l : Int), .int .u64 (s.upper.r : Int), .int .i64 s.pk, .int .i64 s.bt]] w fun e w' => e = .returned (.int .u8 (kindB b s.real.none s.share.none)) ∧ Chg NoChg w w' := by
  have H1 := hide (cNone_any s.real)
  have H2 := hide (cNone_any s.share)
  generalize s.real.none = x at H1 ⊢
  generalize s.share.none = y at H2 ⊢
  cases b with
  | false =>
    have S0 := hide (SpbAt.new w s false)
    have C0 := hide ((Chg.refl NoChg w).alloc (.cells #[.int .i64 s.id, .int .i64 s.par, .bool false, .int .u64 (s.real.f : Int), .int .u64 (s.real.l : Int), .int .u64 (s.real.r : Int), .int .u64 (s.share.f : Int), .int .u64 (s.share.l : Int), .int .u64 (s.share.r : Int), .int .u64 (s.upper.f : Int), .int .u64 (s.upper.l : Int), .int .u64 (s.upper.r : Int), .int .i64 s.pk, .int .i64 s.bt] 26))
    have KEEP := hide (fun (w' : World) (c : Chg NoChg (w.alloc (.cells #[.int .i64 s.id, .int .i64 s.par, .bool false, .int .u64 (s.real.f : Int), .int .u64 (s.real.l : Int), .int .u64 (s.real.r : Int), .int .u64 (s.share.f : Int), .int .u64 (s.share.l : Int), .int .u64 (s.share.r : Int), .int .u64 (s.upper.f : Int), .int .u64 (s.upper.l : Int), .int .u64 (s.upper.r : Int), .int .i64 s.pk, .int .i64 s.bt] 26)) w') => S0.out.curves c)
    go_enter Tryz.func11, Tryz.ntmps11
    go_wp2
    go_region_held3 (fun w' : World => w'.cell? ⟨w.heap.size, 3, none⟩ = some (.int .u64 (s.real.f : Int)) ∧ w'.cell? ⟨w.heap.size, 4, none⟩ = some (.int .u64 (s.real.l : Int)) ∧ w'.cell? ⟨w.heap.size, 5, none⟩ = some (.int .u64 (s.real.r : Int)) ∧ w'.cell? ⟨w.heap.size, 6, none⟩ = some (.int .u64 (s.share.f : Int)) ∧ w'.cell? ⟨w.heap.size, 7, none⟩ = some (.int .u64 (s.share.l : Int)) ∧ w'.cell? ⟨w.heap.size, 8, none⟩ = some (.int .u64 (s.share.r : Int))) (exact KEEP.out _ (by (repeat' (first | (with_reducible exact Chg.refl _ _) | (with_reducible assumption) | (with_reducible refine Chg.alloc ?_ _) | (with_reducible refine Chg.drewN ?_ _) | (with_reducible refine Chg.drew ?_) | (with_reducible refine Chg.setCell ?_ _ ?_) | (apply Or.inl; with_reducible rfl) | (apply Or.inl; simp; done) | (apply Or.inr; simp; done) | (apply Or.inr; simp; omega))))) (first | (go_at_call 12; refine (H1.out _).mono ?_; rintro e w5 ⟨rfl, c5⟩; replace c5 : Chg NoChg (w.alloc (.cells #[.int .i64 s.id, .int .i64 s.par, .bool false, .int .u64 (s.real.f : Int), .int .u64 (s.real.l : Int), .int .u64 (s.real.r : Int), .int .u64 (s.share.f : Int), .int .u64 (s.share.l : Int), .int .u64 (s.share.r : Int), .int .u64 (s.upper.f : Int), .int .u64 (s.upper.l : Int), .int .u64 (s.upper.r : Int), .int .i64 s.pk, .int .i64 s.bt] 26)) w5 := Chg.trans' (by (repeat' (first | (with_reducible exact Chg.refl _ _) | (with_reducible assumption) | (with_reducible refine Chg.alloc ?_ _) | (with_reducible refine Chg.drewN ?_ _) | (with_reducible refine Chg.drew ?_) | (with_reducible refine Chg.setCell ?_ _ ?_) | (apply Or.inl; with_reducible rfl) | (apply Or.inl; simp; done) | (apply Or.inr; simp; done) | (apply Or.inr; simp; omega)))) c5) | (go_at_call 12; refine (H2.out _).mono ?_; rintro e w6 ⟨rfl, c6⟩; replace c6 : Chg NoChg (w.alloc (.cells #[.int .i64 s.id, .int .i64 s.par, .bool false, .int .u64 (s.real.f : Int), .int .u64 (s.real.l : Int), .int .u64 (s.real.r : Int), .int .u64 (s.share.f : Int), .int .u64 (s.share.l : Int), .int .u64 (s.share.r : Int), .int .u64 (s.upper.f : Int), .int .u64 (s.upper.l : Int), .int .u64 (s.upper.r : Int), .int .i64 s.pk, .int .i64 s.bt] 26)) w6 := Chg.trans' (by (repeat' (first | (with_reducible exact Chg.refl _ _) | (with_reducible assumption) | (with_reducible refine Chg.alloc ?_ _) | (with_reducible refine Chg.drewN ?_ _) | (with_reducible refine Chg.drew ?_) | (with_reducible refine Chg.setCell ?_ _ ?_) | (apply Or.inl; with_reducible rfl) | (apply Or.inl; simp; done) | (apply Or.inr; simp; done) | (apply Or.inr; simp; omega)))) c6))
    all_goals
      have c7 := hide (C0.out.trans' c6)
      obtain ⟨a0, a1, a2, a3, a4, a5, a6, a7, a8, a9, a10, a11, a12, a13⟩ := (S0.out.keep c6).cells
      clear c5 c6
      go_wp2
      go_ret
      exact ⟨rfl, c7.out⟩
  | true =>
    cases x with
    | false =>
      cases y with
      | false =>
        have S0 := hide (SpbAt.new w s true)
        have C0 := hide ((Chg.refl NoChg w).alloc (.cells #[.int .i64 s.id, .int .i64 s.par, .bool true, .int .u64 (s.real.f : Int), .int .u64 (s.real.l : Int), .int .u64 (s.real.r : Int), .int .u64 (s.share.f : Int), .int .u64 (s.share.l : Int), .int .u64 (s.share.r : Int), .int .u64 (s.upper.f : Int), .int .u64 (s.upper.l : Int), .int .u64 (s.upper.r : Int), .int .i64 s.pk, .int .i64 s.bt] 26))
        have KEEP := hide (fun (w' : World) (c : Chg NoChg (w.alloc (.cells #[.int .i64 s.id, .int .i64 s.par, .bool true, .int .u64 (s.real.f : Int), .int .u64 (s.real.l : Int), .int .u64 (s.real.r : Int), .int .u64 (s.share.f : Int), .int .u64 (s.share.l : Int), .int .u64 (s.share.r : Int), .int .u64 (s.upper.f : Int), .int .u64 (s.upper.l : Int), .int .u64 (s.upper.r : Int), .int .i64 s.pk, .int .i64 s.bt] 26)) w') => S0.out.curves c)
        go_enter Tryz.func11, Tryz.ntmps11
        go_wp2
        go_region_held3 (fun w' : World => w'.cell? ⟨w.heap.size, 3, none⟩ = some (.int .u64 (s.real.f : Int)) ∧ w'.cell? ⟨w.heap.size, 4, none⟩ = some (.int .u64 (s.real.l : Int)) ∧ w'.cell? ⟨w.heap.size, 5, none⟩ = some (.int .u64 (s.real.r : Int)) ∧ w'.cell? ⟨w.heap.size, 6, none⟩ = some (.int .u64 (s.share.f : Int)) ∧ w'.cell? ⟨w.heap.size, 7, none⟩ = some (.int .u64 (s.share.l : Int)) ∧ w'.cell? ⟨w.heap.size, 8, none⟩ = some (.int .u64 (s.share.r : Int))) (exact KEEP.out _ (by (repeat' (first | (with_reducible exact Chg.refl _ _) | (with_reducible assumption) | (with_reducible refine Chg.alloc ?_ _) | (with_reducible refine Chg.drewN ?_ _) | (with_reducible refine Chg.drew ?_) | (with_reducible refine Chg.setCell ?_ _ ?_) | (apply Or.inl; with_reducible rfl) | (apply Or.inl; simp; done) | (apply Or.inr; simp; done) | (apply Or.inr; simp; omega))))) (first | (go_at_call 12; refine (H1.out _).mono ?_; rintro e w5 ⟨rfl, c5⟩; replace c5 : Chg NoChg (w.alloc (.cells #[.int .i64 s.id, .int .i64 s.par, .bool true, .int .u64 (s.real.f : Int), .int .u64 (s.real.l : Int), .int .u64 (s.real.r : Int), .int .u64 (s.share.f : Int), .int .u64 (s.share.l : Int), .int .u64 (s.share.r : Int), .int .u64 (s.upper.f : Int), .int .u64 (s.upper.l : Int), .int .u64 (s.upper.r : Int), .int .i64 s.pk, .int .i64 s.bt] 26)) w5 := Chg.trans' (by (repeat' (first | (with_reducible exact Chg.refl _ _) | (with_reducible assumption) | (with_reducible refine Chg.alloc ?_ _) | (with_reducible refine Chg.drewN ?_ _) | (with_reducible refine Chg.drew ?_) | (with_reducible refine Chg.setCell ?_ _ ?_) | (apply Or.inl; with_reducible rfl) | (apply Or.inl; simp; done) | (apply Or.inr; simp; done) | (apply Or.inr; simp; omega)))) c5) | (go_at_call 12; refine (H2.out _).mono ?_; rintro e w6 ⟨rfl, c6⟩; replace c6 : Chg NoChg (w.alloc (.cells #[.int .i64 s.id, .int .i64 s.par, .bool true, .int .u64 (s.real.f : Int), .int .u64 (s.real.l : Int), .int .u64 (s.real.r : Int), .int .u64 (s.share.f : Int), .int .u64 (s.share.l : Int), .int .u64 (s.share.r : Int), .int .u64 (s.upper.f : Int), .int .u64 (s.upper.l : Int), .int .u64 (s.upper.r : Int), .int .i64 s.pk, .int .i64 s.bt] 26)) w6 := Chg.trans' (by (repeat' (first | (with_reducible exact Chg.refl _ _) | (with_reducible assumption) | (with_reducible refine Chg.alloc ?_ _) | (with_reducible refine Chg.drewN ?_ _) | (with_reducible refine Chg.drew ?_) | (with_reducible refine Chg.setCell ?_ _ ?_) | (apply Or.inl; with_reducible rfl) | (apply Or.inl; simp; done) | (apply Or.inr; simp; done) | (apply Or.inr; simp; omega)))) c6))
        all_goals
          have c7 := hide (C0.out.trans' c6)
          obtain ⟨a0, a1, a2, a3, a4, a5, a6, a7, a8, a9, a10, a11, a12, a13⟩ := (S0.out.keep c6).cells
          clear c5 c6
          go_wp2
          go_ret
          exact ⟨rfl, c7.out⟩
      | true =>
        have S0 := hide (SpbAt.new w s true)
        have C0 := hide ((Chg.refl NoChg w).alloc (.cells #[.int .i64 s.id, .int .i64 s.par, .bool true, .int .u64 (s.real.f : Int), .int .u64 (s.real.l : Int), .int .u64 (s.real.r : Int), .int .u64 (s.share.f : Int), .int .u64 (s.share.l : Int), .int .u64 (s.share.r : Int), .int .u64 (s.upper.f : Int), .int .u64 (s.upper.l : Int), .int .u64 (s.upper.r : Int), .int .i64 s.pk, .int .i64 s.bt] 26))
        have KEEP := hide (fun (w' : World) (c : Chg NoChg (w.alloc (.cells #[.int .i64 s.id, .int .i64 s.par, .bool true, .int .u64 (s.real.f : Int), .int .u64 (s.real.l : Int), .int .u64 (s.real.r : Int), .int .u64 (s.share.f : Int), .int .u64 (s.share.l : Int), .int .u64 (s.share.r : Int), .int .u64 (s.upper.f : Int), .int .u64 (s.upper.l : Int), .int .u64 (s.upper.r : Int), .int .i64 s.pk, .int .i64 s.bt] 26)) w') => S0.out.curves c)
        go_enter Tryz.func11, Tryz.ntmps11
        go_wp2
        go_region_held3 (fun w' : World => w'.cell? ⟨w.heap.size, 3, none⟩ = some (.int .u64 (s.real.f : Int)) ∧ w'.cell? ⟨w.heap.size, 4, none⟩ = some (.int .u64 (s.real.l : Int)) ∧ w'.cell? ⟨w.heap.size, 5, none⟩ = some (.int .u64 (s.real.r : Int)) ∧ w'.cell? ⟨w.heap.size, 6, none⟩ = some (.int .u64 (s.share.f : Int)) ∧ w'.cell? ⟨w.heap.size, 7, none⟩ = some (.int .u64 (s.share.l : Int)) ∧ w'.cell? ⟨w.heap.size, 8, none⟩ = some (.int .u64 (s.share.r : Int))) (exact KEEP.out _ (by (repeat' (first | (with_reducible exact Chg.refl _ _) | (with_reducible assumption) | (with_reducible refine Chg.alloc ?_ _) | (with_reducible refine Chg.drewN ?_ _) | (with_reducible refine Chg.drew ?_) | (with_reducible refine Chg.setCell ?_ _ ?_) | (apply Or.inl; with_reducible rfl) | (apply Or.inl; simp; done) | (apply Or.inr; simp; done) | (apply Or.inr; simp; omega))))) (first | (go_at_call 12; refine (H1.out _).mono ?_; rintro e w5 ⟨rfl, c5⟩; replace c5 : Chg NoChg (w.alloc (.cells #[.int .i64 s.id, .int .i64 s.par, .bool true, .int .u64 (s.real.f : Int), .int .u64 (s.real.l : Int), .int .u64 (s.real.r : Int), .int .u64 (s.share.f : Int), .int .u64 (s.share.l : Int), .int .u64 (s.share.r : Int), .int .u64 (s.upper.f : Int), .int .u64 (s.upper.l : Int), .int .u64 (s.upper.r : Int), .int .i64 s.pk, .int .i64 s.bt] 26)) w5 := Chg.trans' (by (repeat' (first | (with_reducible exact Chg.refl _ _) | (with_reducible assumption) | (with_reducible refine Chg.alloc ?_ _) | (with_reducible refine Chg.drewN ?_ _) | (with_reducible refine Chg.drew ?_) | (with_reducible refine Chg.setCell ?_ _ ?_) | (apply Or.inl; with_reducible rfl) | (apply Or.inl; simp; done) | (apply Or.inr; simp; done) | (apply Or.inr; simp; omega)))) c5) | (go_at_call 12; refine (H2.out _).mono ?_; rintro e w6 ⟨rfl, c6⟩; replace c6 : Chg NoChg (w.alloc (.cells #[.int .i64 s.id, .int .i64 s.par, .bool true, .int .u64 (s.real.f : Int), .int .u64 (s.real.l : Int), .int .u64 (s.real.r : Int), .int .u64 (s.share.f : Int), .int .u64 (s.share.l : Int), .int .u64 (s.share.r : Int), .int .u64 (s.upper.f : Int), .int .u64 (s.upper.l : Int), .int .u64 (s.upper.r : Int), .int .i64 s.pk, .int .i64 s.bt] 26)) w6 := Chg.trans' (by (repeat' (first | (with_reducible exact Chg.refl _ _) | (with_reducible assumption) | (with_reducible refine Chg.alloc ?_ _) | (with_reducible refine Chg.drewN ?_ _) | (with_reducible refine Chg.drew ?_) | (with_reducible refine Chg.setCell ?_ _ ?_) | (apply Or.inl; with_reducible rfl) | (apply Or.inl; simp; done) | (apply Or.inr; simp; done) | (apply Or.inr; simp; omega)))) c6))
        all_goals
          have c7 := hide (C0.out.trans' c6)
          obtain ⟨a0, a1, a2, a3, a4, a5, a6, a7, a8, a9, a10, a11, a12, a13⟩ := (S0.out.keep c6).cells
          clear c5 c6
          go_wp2
          go_ret
          exact ⟨rfl, c7.out⟩
    | true =>
      cases y with
      | false =>
        have S0 := hide (SpbAt.new w s true)
        have C0 := hide ((Chg.refl NoChg w).alloc (.cells #[.int .i64 s.id, .int .i64 s.par, .bool true, .int .u64 (s.real.f : Int), .int .u64 (s.real.l : Int), .int .u64 (s.real.r : Int), .int .u64 (s.share.f : Int), .int .u64 (s.share.l : Int), .int .u64 (s.share.r : Int), .int .u64 (s.upper.f : Int), .int .u64 (s.upper.l : Int), .int .u64 (s.upper.r : Int), .int .i64 s.pk, .int .i64 s.bt] 26))
        have KEEP := hide (fun (w' : World) (c : Chg NoChg (w.alloc (.cells #[.int .i64 s.id, .int .i64 s.par, .bool true, .int .u64 (s.real.f : Int), .int .u64 (s.real.l : Int), .int .u64 (s.real.r : Int), .int .u64 (s.share.f : Int), .int .u64 (s.share.l : Int), .int .u64 (s.share.r : Int), .int .u64 (s.upper.f : Int), .int .u64 (s.upper.l : Int), .int .u64 (s.upper.r : Int), .int .i64 s.pk, .int .i64 s.bt] 26)) w') => S0.out.curves c)
        go_enter Tryz.func11, Tryz.ntmps11
        go_wp2
        go_region_held3 (fun w' : World => w'.cell? ⟨w.heap.size, 3, none⟩ = some (.int .u64 (s.real.f : Int)) ∧ w'.cell? ⟨w.heap.size, 4, none⟩ = some (.int .u64 (s.real.l : Int)) ∧ w'.cell? ⟨w.heap.size, 5, none⟩ = some (.int .u64 (s.real.r : Int)) ∧ w'.cell? ⟨w.heap.size, 6, none⟩ = some (.int .u64 (s.share.f : Int)) ∧ w'.cell? ⟨w.heap.size, 7, none⟩ = some (.int .u64 (s.share.l : Int)) ∧ w'.cell? ⟨w.heap.size, 8, none⟩ = some (.int .u64 (s.share.r : Int))) (exact KEEP.out _ (by (repeat' (first | (with_reducible exact Chg.refl _ _) | (with_reducible assumption) | (with_reducible refine Chg.alloc ?_ _) | (with_reducible refine Chg.drewN ?_ _) | (with_reducible refine Chg.drew ?_) | (with_reducible refine Chg.setCell ?_ _ ?_) | (apply Or.inl; with_reducible rfl) | (apply Or.inl; simp; done) | (apply Or.inr; simp; done) | (apply Or.inr; simp; omega))))) (first | (go_at_call 12; refine (H1.out _).mono ?_; rintro e w5 ⟨rfl, c5⟩; replace c5 : Chg NoChg (w.alloc (.cells #[.int .i64 s.id, .int .i64 s.par, .bool true, .int .u64 (s.real.f : Int), .int .u64 (s.real.l : Int), .int .u64 (s.real.r : Int), .int .u64 (s.share.f : Int), .int .u64 (s.share.l : Int), .int .u64 (s.share.r : Int), .int .u64 (s.upper.f : Int), .int .u64 (s.upper.l : Int), .int .u64 (s.upper.r : Int), .int .i64 s.pk, .int .i64 s.bt] 26)) w5 := Chg.trans' (by (repeat' (first | (with_reducible exact Chg.refl _ _) | (with_reducible assumption) | (with_reducible refine Chg.alloc ?_ _) | (with_reducible refine Chg.drewN ?_ _) | (with_reducible refine Chg.drew ?_) | (with_reducible refine Chg.setCell ?_ _ ?_) | (apply Or.inl; with_reducible rfl) | (apply Or.inl; simp; done) | (apply Or.inr; simp; done) | (apply Or.inr; simp; omega)))) c5) | (go_at_call 12; refine (H2.out _).mono ?_; rintro e w6 ⟨rfl, c6⟩; replace c6 : Chg NoChg (w.alloc (.cells #[.int .i64 s.id, .int .i64 s.par, .bool true, .int .u64 (s.real.f : Int), .int .u64 (s.real.l : Int), .int .u64 (s.real.r : Int), .int .u64 (s.share.f : Int), .int .u64 (s.share.l : Int), .int .u64 (s.share.r : Int), .int .u64 (s.upper.f : Int), .int .u64 (s.upper.l : Int), .int .u64 (s.upper.r : Int), .int .i64 s.pk, .int .i64 s.bt] 26)) w6 := Chg.trans' (by (repeat' (first | (with_reducible exact Chg.refl _ _) | (with_reducible assumption) | (with_reducible refine Chg.alloc ?_ _) | (with_reducible refine Chg.drewN ?_ _) | (with_reducible refine Chg.drew ?_) | (with_reducible refine Chg.setCell ?_ _ ?_) | (apply Or.inl; with_reducible rfl) | (apply Or.inl; simp; done) | (apply Or.inr; simp; done) | (apply Or.inr; simp; omega)))) c6))
        all_goals
          have c7 := hide (C0.out.trans' c6)
          obtain ⟨a0, a1, a2, a3, a4, a5, a6, a7, a8, a9, a10, a11, a12, a13⟩ := (S0.out.keep c6).cells
          clear c5 c6
          go_wp2
          go_ret
          exact ⟨rfl, c7.out⟩
      | true =>
        have S0 := hide (SpbAt.new w s true)
        have C0 := hide ((Chg.refl NoChg w).alloc (.cells #[.int .i64 s.id, .int .i64 s.par, .bool true, .int .u64 (s.real.f : Int), .int .u64 (s.real.l : Int), .int .u64 (s.real.r : Int), .int .u64 (s.share.f : Int), .int .u64 (s.share.l : Int), .int .u64 (s.share.r : Int), .int .u64 (s.upper.f : Int), .int .u64 (s.upper.l : Int), .int .u64 (s.upper.r : Int), .int .i64 s.pk, .int .i64 s.bt] 26))
        have KEEP := hide (fun (w' : World) (c : Chg NoChg (w.alloc (.cells #[.int .i64 s.id, .int .i64 s.par, .bool true, .int .u64 (s.real.f : Int), .int .u64 (s.real.l : Int), .int .u64 (s.real.r : Int), .int .u64 (s.share.f : Int), .int .u64 (s.share.l : Int), .int .u64 (s.share.r : Int), .int .u64 (s.upper.f : Int), .int .u64 (s.upper.l : Int), .int .u64 (s.upper.r : Int), .int .i64 s.pk, .int .i64 s.bt] 26)) w') => S0.out.curves c)
        go_enter Tryz.func11, Tryz.ntmps11
        go_wp2
        go_region_held3 (fun w' : World => w'.cell? ⟨w.heap.size, 3, none⟩ = some (.int .u64 (s.real.f : Int)) ∧ w'.cell? ⟨w.heap.size, 4, none⟩ = some (.int .u64 (s.real.l : Int)) ∧ w'.cell? ⟨w.heap.size, 5, none⟩ = some (.int .u64 (s.real.r : Int)) ∧ w'.cell? ⟨w.heap.size, 6, none⟩ = some (.int .u64 (s.share.f : Int)) ∧ w'.cell? ⟨w.heap.size, 7, none⟩ = some (.int .u64 (s.share.l : Int)) ∧ w'.cell? ⟨w.heap.size, 8, none⟩ = some (.int .u64 (s.share.r : Int))) (exact KEEP.out _ (by (repeat' (first | (with_reducible exact Chg.refl _ _) | (with_reducible assumption) | (with_reducible refine Chg.alloc ?_ _) | (with_reducible refine Chg.drewN ?_ _) | (with_reducible refine Chg.drew ?_) | (with_reducible refine Chg.setCell ?_ _ ?_) | (apply Or.inl; with_reducible rfl) | (apply Or.inl; simp; done) | (apply Or.inr; simp; done) | (apply Or.inr; simp; omega))))) (first | (go_at_call 12; refine (H1.out _).mono ?_; rintro e w5 ⟨rfl, c5⟩; replace c5 : Chg NoChg (w.alloc (.cells #[.int .i64 s.id, .int .i64 s.par, .bool true, .int .u64 (s.real.f : Int), .int .u64 (s.real.l : Int), .int .u64 (s.real.r : Int), .int .u64 (s.share.f : Int), .int .u64 (s.share.l : Int), .int .u64 (s.share.r : Int), .int .u64 (s.upper.f : Int), .int .u64 (s.upper.l : Int), .int .u64 (s.upper.r : Int), .int .i64 s.pk, .int .i64 s.bt] 26)) w5 := Chg.trans' (by (repeat' (first | (with_reducible exact Chg.refl _ _) | (with_reducible assumption) | (with_reducible refine Chg.alloc ?_ _) | (with_reducible refine Chg.drewN ?_ _) | (with_reducible refine Chg.drew ?_) | (with_reducible refine Chg.setCell ?_ _ ?_) | (apply Or.inl; with_reducible rfl) | (apply Or.inl; simp; done) | (apply Or.inr; simp; done) | (apply Or.inr; simp; omega)))) c5) | (go_at_call 12; refine (H2.out _).mono ?_; rintro e w6 ⟨rfl, c6⟩; replace c6 : Chg NoChg (w.alloc (.cells #[.int .i64 s.id, .int .i64 s.par, .bool true, .int .u64 (s.real.f : Int), .int .u64 (s.real.l : Int), .int .u64 (s.real.r : Int), .int .u64 (s.share.f : Int), .int .u64 (s.share.l : Int), .int .u64 (s.share.r : Int), .int .u64 (s.upper.f : Int), .int .u64 (s.upper.l : Int), .int .u64 (s.upper.r : Int), .int .i64 s.pk, .int .i64 s.bt] 26)) w6 := Chg.trans' (by (repeat' (first | (with_reducible exact Chg.refl _ _) | (with_reducible assumption) | (with_reducible refine Chg.alloc ?_ _) | (with_reducible refine Chg.drewN ?_ _) | (with_reducible refine Chg.drew ?_) | (with_reducible refine Chg.setCell ?_ _ ?_) | (apply Or.inl; with_reducible rfl) | (apply Or.inl; simp; done) | (apply Or.inr; simp; done) | (apply Or.inr; simp; omega)))) c6))
        all_goals
          have c7 := hide (C0.out.trans' c6)
          obtain ⟨a0, a1, a2, a3, a4, a5, a6, a7, a8, a9, a10, a11, a12, a13⟩ := (S0.out.keep c6).cells
          clear c5 c6
          go_wp2
          go_ret
          exact ⟨rfl, c7.out⟩

theorem spKind_any (s : Spc) (w : World) : Calls Tryz.prog 11 #[.agg #[.int .i64 s.id, .int .i64 s.par, .bool s.leaf, .int .u64 (s.real.f : Int), .int .u64 (s.real.l : Int), .int .u64 (s.real.r : Int), .int .u64 (s.share.f : Int), .int .u64 (s.share.l : Int), .int .u64 (s.share.r : Int), .int .u64 (s.upper.f : Int), .int .u64 (s.upper.l : Int), .int .u64 (s.upper.r : Int), .int .i64 s.pk, .int .i64 s.bt]] w fun e w' => e = .returned (.int .u8 (kindB s.leaf s.real.none s.share.none)) ∧ Chg NoChg w w' := spKind_b s s.leaf w

theorem kindB_zero (b x y : Bool) : (kindB b x y != 0) = (!b || (!x || !y)) := by
  cases b <;> cases x <;> cases y <;> rfl

def Spc.shapedB (s : Spc) (b : Bool) : Bool := if b then (kindB b s.real.none s.share.none != 0) && (inB s.pk 1 4096 && inB s.bt 1 16777216) else s.real.none && (!s.share.none && ((s.pk == 0) && (s.bt == 0)))

set_option maxRecDepth 100000 in
set_option maxHeartbeats 2000000 in
theorem pShaped_b (s : Spc) (b : Bool) (w : World) : Calls Tryz.prog 26 #[.agg #[.int .i64 s.id, .int .i64 s.par, .bool b, .int .u64 (s.real.f : Int), .int .u64 (s.real.l : Int), .int .u64 (s.real.r : Int), .int .u64 (s.share.f : Int), .int .u64 (s.share.l : Int), .int .u64 (s.share.r : Int), .int .u64 (s.upper.f : Int), .int .u64 (s.upper.l : Int), .int .u64 (s.upper.r : Int), .int .i64 s.pk, .int .i64 s.bt]] w fun e w' => e = .returned (.bool (s.shapedB b)) ∧ Chg NoChg w w' := by
  unfold Spc.shapedB
  cases b with
  | true =>
    have H1 := hide (spKind_b s true)
    have H2 := hide (pIn_any s.pk 1 4096)
    have H3 := hide (pIn_any s.bt 1 16777216)
    rw [if_pos rfl]
    generalize inB s.pk 1 4096 = x at H2 ⊢
    generalize inB s.bt 1 16777216 = y at H3 ⊢
    generalize kindB true s.real.none s.share.none = k at H1 ⊢
    cases hk : k != 0 with
    | false =>
      have S0 := hide (SpbAt.new w s true)
      have C0 := hide ((Chg.refl NoChg w).alloc (.cells #[.int .i64 s.id, .int .i64 s.par, .bool true, .int .u64 (s.real.f : Int), .int .u64 (s.real.l : Int), .int .u64 (s.real.r : Int), .int .u64 (s.share.f : Int), .int .u64 (s.share.l : Int), .int .u64 (s.share.r : Int), .int .u64 (s.upper.f : Int), .int .u64 (s.upper.l : Int), .int .u64 (s.upper.r : Int), .int .i64 s.pk, .int .i64 s.bt] 26))
      obtain ⟨a0, a1, a2, a3, a4, a5, a6, a7, a8, a9, a10, a11, a12, a13⟩ := S0.out.cells
      go_enter Tryz.func26, Tryz.ntmps26
      go_wp2_with fail
      refine (H1.out _).mono ?_
      rintro e w1 ⟨rfl, c1⟩
      have S1 := hide (S0.out.keep c1)
      have C1 := hide (C0.out.trans' c1)
      clear c1 a0 a1 a2 a3 a4 a5 a6 a7 a8 a9 a10 a11 a12 a13
      obtain ⟨a0, a1, a2, a3, a4, a5, a6, a7, a8, a9, a10, a11, a12, a13⟩ := S1.out.cells
      go_wp2
      go_ret
      exact ⟨rfl, C1.out⟩
    | true =>
      cases x with
      | false =>
        have S0 := hide (SpbAt.new w s true)
        have C0 := hide ((Chg.refl NoChg w).alloc (.cells #[.int .i64 s.id, .int .i64 s.par, .bool true, .int .u64 (s.real.f : Int), .int .u64 (s.real.l : Int), .int .u64 (s.real.r : Int), .int .u64 (s.share.f : Int), .int .u64 (s.share.l : Int), .int .u64 (s.share.r : Int), .int .u64 (s.upper.f : Int), .int .u64 (s.upper.l : Int), .int .u64 (s.upper.r : Int), .int .i64 s.pk, .int .i64 s.bt] 26))
        obtain ⟨a0, a1, a2, a3, a4, a5, a6, a7, a8, a9, a10, a11, a12, a13⟩ := S0.out.cells
        go_enter Tryz.func26, Tryz.ntmps26
        go_wp2_with fail
        refine (H1.out _).mono ?_
        rintro e w1 ⟨rfl, c1⟩
        have S1 := hide (S0.out.keep c1)
        have C1 := hide (C0.out.trans' c1)
        clear c1 a0 a1 a2 a3 a4 a5 a6 a7 a8 a9 a10 a11 a12 a13
        obtain ⟨a0, a1, a2, a3, a4, a5, a6, a7, a8, a9, a10, a11, a12, a13⟩ := S1.out.cells
        go_wp2_with fail
        refine (H2.out _).mono ?_
        rintro e w2q ⟨rfl, rfl⟩
        go_wp2
        go_ret
        exact ⟨rfl, C1.out⟩
      | true =>
        have S0 := hide (SpbAt.new w s true)
        have C0 := hide ((Chg.refl NoChg w).alloc (.cells #[.int .i64 s.id, .int .i64 s.par, .bool true, .int .u64 (s.real.f : Int), .int .u64 (s.real.l : Int), .int .u64 (s.real.r : Int), .int .u64 (s.share.f : Int), .int .u64 (s.share.l : Int), .int .u64 (s.share.r : Int), .int .u64 (s.upper.f : Int), .int .u64 (s.upper.l : Int), .int .u64 (s.upper.r : Int), .int .i64 s.pk, .int .i64 s.bt] 26))
        obtain ⟨a0, a1, a2, a3, a4, a5, a6, a7, a8, a9, a10, a11, a12, a13⟩ := S0.out.cells
        go_enter Tryz.func26, Tryz.ntmps26
        go_wp2_with fail
        refine (H1.out _).mono ?_
        rintro e w1 ⟨rfl, c1⟩
        have S1 := hide (S0.out.keep c1)
        have C1 := hide (C0.out.trans' c1)
        clear c1 a0 a1 a2 a3 a4 a5 a6 a7 a8 a9 a10 a11 a12 a13
        obtain ⟨a0, a1, a2, a3, a4, a5, a6, a7, a8, a9, a10, a11, a12, a13⟩ := S1.out.cells
        go_wp2_with fail
        refine (H2.out _).mono ?_
        rintro e w2q ⟨rfl, rfl⟩
        go_wp2_with fail
        refine (H3.out _).mono ?_
        rintro e w3q ⟨rfl, rfl⟩
        go_wp2
        go_ret
        exact ⟨rfl, C1.out⟩
  | false =>
    have H1 := hide (cNone_any s.real)
    have H2 := hide (cNone_any s.share)
    rw [if_neg (by simp)]
    generalize s.real.none = x at H1 ⊢
    generalize s.share.none = y at H2 ⊢
    cases x with
    | false =>
      have S0 := hide (SpbAt.new w s false)
      have C0 := hide ((Chg.refl NoChg w).alloc (.cells #[.int .i64 s.id, .int .i64 s.par, .bool false, .int .u64 (s.real.f : Int), .int .u64 (s.real.l : Int), .int .u64 (s.real.r : Int), .int .u64 (s.share.f : Int), .int .u64 (s.share.l : Int), .int .u64 (s.share.r : Int), .int .u64 (s.upper.f : Int), .int .u64 (s.upper.l : Int), .int .u64 (s.upper.r : Int), .int .i64 s.pk, .int .i64 s.bt] 26))
      obtain ⟨a0, a1, a2, a3, a4, a5, a6, a7, a8, a9, a10, a11, a12, a13⟩ := S0.out.cells
      go_enter Tryz.func26, Tryz.ntmps26
      go_wp2_with fail
      refine (H1.out _).mono ?_
      rintro e w1 ⟨rfl, c1⟩
      have S1 := hide (S0.out.keep c1)
      have C1 := hide (C0.out.trans' c1)
      clear c1 a0 a1 a2 a3 a4 a5 a6 a7 a8 a9 a10 a11 a12 a13
      obtain ⟨a0, a1, a2, a3, a4, a5, a6, a7, a8, a9, a10, a11, a12, a13⟩ := S1.out.cells
      go_wp2
      go_ret
      exact ⟨rfl, C1.out⟩
    | true =>
      cases y with
      | true =>
        have S0 := hide (SpbAt.new w s false)
        have C0 := hide ((Chg.refl NoChg w).alloc (.cells #[.int .i64 s.id, .int .i64 s.par, .bool false, .int .u64 (s.real.f : Int), .int .u64 (s.real.l : Int), .int .u64 (s.real.r : Int), .int .u64 (s.share.f : Int), .int .u64 (s.share.l : Int), .int .u64 (s.share.r : Int), .int .u64 (s.upper.f : Int), .int .u64 (s.upper.l : Int), .int .u64 (s.upper.r : Int), .int .i64 s.pk, .int .i64 s.bt] 26))
        obtain ⟨a0, a1, a2, a3, a4, a5, a6, a7, a8, a9, a10, a11, a12, a13⟩ := S0.out.cells
        go_enter Tryz.func26, Tryz.ntmps26
        go_wp2_with fail
        refine (H1.out _).mono ?_
        rintro e w1 ⟨rfl, c1⟩
        have S1 := hide (S0.out.keep c1)
        have C1 := hide (C0.out.trans' c1)
        clear c1 a0 a1 a2 a3 a4 a5 a6 a7 a8 a9 a10 a11 a12 a13
        obtain ⟨a0, a1, a2, a3, a4, a5, a6, a7, a8, a9, a10, a11, a12, a13⟩ := S1.out.cells
        go_wp2_with fail
        refine (H2.out _).mono ?_
        rintro e w2 ⟨rfl, c2⟩
        have S2 := hide (S1.out.keep c2)
        have C2 := hide (C1.out.trans' c2)
        clear c2 a0 a1 a2 a3 a4 a5 a6 a7 a8 a9 a10 a11 a12 a13
        obtain ⟨a0, a1, a2, a3, a4, a5, a6, a7, a8, a9, a10, a11, a12, a13⟩ := S2.out.cells
        go_wp2
        go_ret
        exact ⟨rfl, C2.out⟩
      | false =>
        cases hp : s.pk == 0 with
        | false =>
          have S0 := hide (SpbAt.new w s false)
          have C0 := hide ((Chg.refl NoChg w).alloc (.cells #[.int .i64 s.id, .int .i64 s.par, .bool false, .int .u64 (s.real.f : Int), .int .u64 (s.real.l : Int), .int .u64 (s.real.r : Int), .int .u64 (s.share.f : Int), .int .u64 (s.share.l : Int), .int .u64 (s.share.r : Int), .int .u64 (s.upper.f : Int), .int .u64 (s.upper.l : Int), .int .u64 (s.upper.r : Int), .int .i64 s.pk, .int .i64 s.bt] 26))
          obtain ⟨a0, a1, a2, a3, a4, a5, a6, a7, a8, a9, a10, a11, a12, a13⟩ := S0.out.cells
          go_enter Tryz.func26, Tryz.ntmps26
          go_wp2_with fail
          refine (H1.out _).mono ?_
          rintro e w1 ⟨rfl, c1⟩
          have S1 := hide (S0.out.keep c1)
          have C1 := hide (C0.out.trans' c1)
          clear c1 a0 a1 a2 a3 a4 a5 a6 a7 a8 a9 a10 a11 a12 a13
          obtain ⟨a0, a1, a2, a3, a4, a5, a6, a7, a8, a9, a10, a11, a12, a13⟩ := S1.out.cells
          go_wp2_with fail
          refine (H2.out _).mono ?_
          rintro e w2 ⟨rfl, c2⟩
          have S2 := hide (S1.out.keep c2)
          have C2 := hide (C1.out.trans' c2)
          clear c2 a0 a1 a2 a3 a4 a5 a6 a7 a8 a9 a10 a11 a12 a13
          obtain ⟨a0, a1, a2, a3, a4, a5, a6, a7, a8, a9, a10, a11, a12, a13⟩ := S2.out.cells
          go_wp2
          go_ret
          exact ⟨rfl, C2.out⟩
        | true =>
          have S0 := hide (SpbAt.new w s false)
          have C0 := hide ((Chg.refl NoChg w).alloc (.cells #[.int .i64 s.id, .int .i64 s.par, .bool false, .int .u64 (s.real.f : Int), .int .u64 (s.real.l : Int), .int .u64 (s.real.r : Int), .int .u64 (s.share.f : Int), .int .u64 (s.share.l : Int), .int .u64 (s.share.r : Int), .int .u64 (s.upper.f : Int), .int .u64 (s.upper.l : Int), .int .u64 (s.upper.r : Int), .int .i64 s.pk, .int .i64 s.bt] 26))
          obtain ⟨a0, a1, a2, a3, a4, a5, a6, a7, a8, a9, a10, a11, a12, a13⟩ := S0.out.cells
          go_enter Tryz.func26, Tryz.ntmps26
          go_wp2_with fail
          refine (H1.out _).mono ?_
          rintro e w1 ⟨rfl, c1⟩
          have S1 := hide (S0.out.keep c1)
          have C1 := hide (C0.out.trans' c1)
          clear c1 a0 a1 a2 a3 a4 a5 a6 a7 a8 a9 a10 a11 a12 a13
          obtain ⟨a0, a1, a2, a3, a4, a5, a6, a7, a8, a9, a10, a11, a12, a13⟩ := S1.out.cells
          go_wp2_with fail
          refine (H2.out _).mono ?_
          rintro e w2 ⟨rfl, c2⟩
          have S2 := hide (S1.out.keep c2)
          have C2 := hide (C1.out.trans' c2)
          clear c2 a0 a1 a2 a3 a4 a5 a6 a7 a8 a9 a10 a11 a12 a13
          obtain ⟨a0, a1, a2, a3, a4, a5, a6, a7, a8, a9, a10, a11, a12, a13⟩ := S2.out.cells
          go_wp2
          go_ret
          exact ⟨rfl, C2.out⟩

theorem pShaped_any (s : Spc) (w : World) : Calls Tryz.prog 26 #[.agg #[.int .i64 s.id, .int .i64 s.par, .bool s.leaf, .int .u64 (s.real.f : Int), .int .u64 (s.real.l : Int), .int .u64 (s.real.r : Int), .int .u64 (s.share.f : Int), .int .u64 (s.share.l : Int), .int .u64 (s.share.r : Int), .int .u64 (s.upper.f : Int), .int .u64 (s.upper.l : Int), .int .u64 (s.upper.r : Int), .int .i64 s.pk, .int .i64 s.bt]] w fun e w' => e = .returned (.bool (s.shapedB s.leaf)) ∧ Chg NoChg w w' := pShaped_b s s.leaf w

end Go.Proofs.YtofgajlpdnokdaaGreatDoor
