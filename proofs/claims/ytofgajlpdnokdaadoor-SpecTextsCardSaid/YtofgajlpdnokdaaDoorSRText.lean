/- The document's text of a spec. Condition: the numbers are those of their types. -/
import Derived.Test.YtofgajlpdnokdaaDoorSText
namespace Go.Proofs.YtofgajlpdnokdaaDoor
set_option linter.unusedVariables false
open Go.Shelf Go.RowKit Go.Sort Go.Lib

set_option maxRecDepth 100000 in
set_option maxHeartbeats 4000000 in
theorem r13Text_bad (i p : Int) (b : Bool) (r h u : Crv) (k t : Int) (w : World) (hx : i < 0 ∨ p < 0 ∨ k < 0 ∨ t < 0) :
    Calls Tryd.prog 16 #[.agg #[.int .i64 i, .int .i64 p, .bool b, .int .u64 (r.f : Int), .int .u64 (r.l : Int), .int .u64 (r.r : Int), .int .u64 (h.f : Int), .int .u64 (h.l : Int), .int .u64 (h.r : Int), .int .u64 (u.f : Int), .int .u64 (u.l : Int), .int .u64 (u.r : Int), .int .i64 k, .int .i64 t]] w fun e w' => e = .returned (.tuple #[.string ⟨#[]⟩, .int .i64 2]) ∧ Chg NoChg w w' := by
  by_cases h1 : i < 0
  · go_enter Tryd.func16, Tryd.ntmps16
    go_wp2
    refine bodyPost_ret (v := .tuple #[.string ⟨#[]⟩, .int .i64 2]) (by simp [results, Tryd.results16, go_sem]) rfl ⟨rfl, ?_⟩
    (repeat' (first | (with_reducible exact Chg.refl _ _) | (with_reducible assumption) | (with_reducible refine Chg.alloc ?_ _) | (with_reducible refine Chg.drewN ?_ _) | (with_reducible refine Chg.drew ?_) | (with_reducible refine Chg.setCell ?_ _ ?_) | (apply Or.inl; with_reducible rfl) | (apply Or.inl; simp; done) | (apply Or.inr; simp; done) | (apply Or.inr; simp; omega)))
  · have d1 : decide (i < 0) = false := by simp; omega
    by_cases h2 : p < 0
    · go_enter Tryd.func16, Tryd.ntmps16
      go_wp2
      refine bodyPost_ret (v := .tuple #[.string ⟨#[]⟩, .int .i64 2]) (by simp [results, Tryd.results16, go_sem]) rfl ⟨rfl, ?_⟩
      (repeat' (first | (with_reducible exact Chg.refl _ _) | (with_reducible assumption) | (with_reducible refine Chg.alloc ?_ _) | (with_reducible refine Chg.drewN ?_ _) | (with_reducible refine Chg.drew ?_) | (with_reducible refine Chg.setCell ?_ _ ?_) | (apply Or.inl; with_reducible rfl) | (apply Or.inl; simp; done) | (apply Or.inr; simp; done) | (apply Or.inr; simp; omega)))
    · have d2 : decide (p < 0) = false := by simp; omega
      by_cases h3 : k < 0
      · go_enter Tryd.func16, Tryd.ntmps16
        go_wp2
        refine bodyPost_ret (v := .tuple #[.string ⟨#[]⟩, .int .i64 2]) (by simp [results, Tryd.results16, go_sem]) rfl ⟨rfl, ?_⟩
        (repeat' (first | (with_reducible exact Chg.refl _ _) | (with_reducible assumption) | (with_reducible refine Chg.alloc ?_ _) | (with_reducible refine Chg.drewN ?_ _) | (with_reducible refine Chg.drew ?_) | (with_reducible refine Chg.setCell ?_ _ ?_) | (apply Or.inl; with_reducible rfl) | (apply Or.inl; simp; done) | (apply Or.inr; simp; done) | (apply Or.inr; simp; omega)))
      · have d3 : decide (k < 0) = false := by simp; omega
        have h4 : t < 0 := by omega
        go_enter Tryd.func16, Tryd.ntmps16
        go_wp2
        refine bodyPost_ret (v := .tuple #[.string ⟨#[]⟩, .int .i64 2]) (by simp [results, Tryd.results16, go_sem]) rfl ⟨rfl, ?_⟩
        (repeat' (first | (with_reducible exact Chg.refl _ _) | (with_reducible assumption) | (with_reducible refine Chg.alloc ?_ _) | (with_reducible refine Chg.drewN ?_ _) | (with_reducible refine Chg.drew ?_) | (with_reducible refine Chg.setCell ?_ _ ?_) | (apply Or.inl; with_reducible rfl) | (apply Or.inl; simp; done) | (apply Or.inr; simp; done) | (apply Or.inr; simp; omega)))

theorem bs_lit (a : Array UInt8) (b : List UInt8) : (⟨a⟩ : ByteArray) ++ ⟨b.toArray⟩ = ⟨(a.toList ++ b).toArray⟩ := by
  apply ByteArray.ext
  simp

set_option maxRecDepth 100000 in
set_option maxHeartbeats 8000000 in
theorem r13Text_true (i p : Nat) (r h u : Crv) (k t : Nat) (hi : i < 9223372036854775808) (hp : p < 9223372036854775808) (hk : k < 9223372036854775808) (ht : t < 9223372036854775808) (hr : r.fits) (hh : h.fits) (hu : u.fits) (w : World) :
    Calls Tryd.prog 16 #[.agg #[.int .i64 (i : Int), .int .i64 (p : Int), .bool true, .int .u64 (r.f : Int), .int .u64 (r.l : Int), .int .u64 (r.r : Int), .int .u64 (h.f : Int), .int .u64 (h.l : Int), .int .u64 (h.r : Int), .int .u64 (u.f : Int), .int .u64 (u.l : Int), .int .u64 (u.r : Int), .int .i64 (k : Int), .int .i64 (t : Int)]] w fun e w' => e = .returned (.tuple #[.string (bs (sText ⟨(i : Int), (p : Int), true, r, h, u, (k : Int), (t : Int)⟩)), .int .i64 0]) ∧ Chg NoChg w w' := by
  have g1 : decide ((i : Int) < 0) = false := by simp
  have g2 : decide ((p : Int) < 0) = false := by simp
  have g3 : decide ((k : Int) < 0) = false := by simp
  have g4 : decide ((t : Int) < 0) = false := by simp
  have F1 := hide (num_any i (by omega))
  have F2 := hide (num_any p (by omega))
  have F3 := hide (r13Drawn_any r hr)
  have F4 := hide (r13Drawn_any h hh)
  have F5 := hide (r13Drawn_any u hu)
  have F6 := hide (num_any k (by omega))
  have F7 := hide (num_any t (by omega))
  have HT : sText ⟨(i : Int), (p : Int), true, r, h, u, (k : Int), (t : Int)⟩ = [108, 101, 97, 102, 32] ++ Lib.decDigits i ++ [32] ++ Lib.decDigits p ++ [32] ++ cw r ++ [32] ++ cw h ++ [32] ++ cw u ++ [32] ++ Lib.decDigits k ++ [32] ++ Lib.decDigits t := by
    simp [sText, sWords, kindW, Lib.join_cons, Lib.joinTail]
  have HT := hide HT
  have l1 := dec_length i (by omega)
  have l2 := dec_length p (by omega)
  have l3 := cw_length hr
  have l4 := cw_length hh
  have l5 := cw_length hu
  have l6 := dec_length k (by omega)
  have l7 := dec_length t (by omega)
  have w1 : IntKind.u64.wrap (i : Int) = (i : Int) := IntWalk.u64_in _ (by omega)
  have w2 : IntKind.u64.wrap (p : Int) = (p : Int) := IntWalk.u64_in _ (by omega)
  have w3 : IntKind.u64.wrap (k : Int) = (k : Int) := IntWalk.u64_in _ (by omega)
  have w4 : IntKind.u64.wrap (t : Int) = (t : Int) := IntWalk.u64_in _ (by omega)
  generalize sText ⟨(i : Int), (p : Int), true, r, h, u, (k : Int), (t : Int)⟩ = T at HT ⊢
  generalize Lib.decDigits i = d1 at F1 l1 HT
  generalize Lib.decDigits p = d2 at F2 l2 HT
  generalize cw r = e3 at F3 l3 HT
  generalize cw h = e4 at F4 l4 HT
  generalize cw u = e5 at F5 l5 HT
  generalize Lib.decDigits k = d6 at F6 l6 HT
  generalize Lib.decDigits t = d7 at F7 l7 HT
  have q1 : ¬ 9223372036854775807 < 5 + d1.length := by omega
  have q2 : ¬ 9223372036854775807 < 5 + d1.length + 1 := by omega
  have q3 : ¬ 9223372036854775807 < 5 + d1.length + 1 + d2.length := by omega
  have q4 : ¬ 9223372036854775807 < 5 + d1.length + 1 + d2.length + 1 := by omega
  have q5 : ¬ 9223372036854775807 < 5 + d1.length + 1 + d2.length + 1 + e3.length := by omega
  have q6 : ¬ 9223372036854775807 < 5 + d1.length + 1 + d2.length + 1 + e3.length + 1 := by omega
  have q7 : ¬ 9223372036854775807 < 5 + d1.length + 1 + d2.length + 1 + e3.length + 1 + e4.length := by omega
  have q8 : ¬ 9223372036854775807 < 5 + d1.length + 1 + d2.length + 1 + e3.length + 1 + e4.length + 1 := by omega
  have q9 : ¬ 9223372036854775807 < 5 + d1.length + 1 + d2.length + 1 + e3.length + 1 + e4.length + 1 + e5.length := by omega
  have q10 : ¬ 9223372036854775807 < 5 + d1.length + 1 + d2.length + 1 + e3.length + 1 + e4.length + 1 + e5.length + 1 := by omega
  have q11 : ¬ 9223372036854775807 < 5 + d1.length + 1 + d2.length + 1 + e3.length + 1 + e4.length + 1 + e5.length + 1 + d6.length := by omega
  have q12 : ¬ 9223372036854775807 < 5 + d1.length + 1 + d2.length + 1 + e3.length + 1 + e4.length + 1 + e5.length + 1 + d6.length + 1 := by omega
  have q13 : ¬ 9223372036854775807 < 5 + d1.length + 1 + d2.length + 1 + e3.length + 1 + e4.length + 1 + e5.length + 1 + d6.length + 1 + d7.length := by omega
  have C0 : Hid (Chg NoChg w (w.alloc (.cells #[.int .i64 (i : Int), .int .i64 (p : Int), .bool true, .int .u64 (r.f : Int), .int .u64 (r.l : Int), .int .u64 (r.r : Int), .int .u64 (h.f : Int), .int .u64 (h.l : Int), .int .u64 (h.r : Int), .int .u64 (u.f : Int), .int .u64 (u.l : Int), .int .u64 (u.r : Int), .int .i64 (k : Int), .int .i64 (t : Int)] 41))) := hide ((Chg.refl NoChg w).alloc _)
  have K0 := hide (fun (w' : World) (x : Chg NoChg (w.alloc (.cells #[.int .i64 (i : Int), .int .i64 (p : Int), .bool true, .int .u64 (r.f : Int), .int .u64 (r.l : Int), .int .u64 (r.r : Int), .int .u64 (h.f : Int), .int .u64 (h.l : Int), .int .u64 (h.r : Int), .int .u64 (u.f : Int), .int .u64 (u.l : Int), .int .u64 (u.r : Int), .int .i64 (k : Int), .int .i64 (t : Int)] 41)) w') => spc_cells (x.blk (Blk.new w #[.int .i64 (i : Int), .int .i64 (p : Int), .bool true, .int .u64 (r.f : Int), .int .u64 (r.l : Int), .int .u64 (r.r : Int), .int .u64 (h.f : Int), .int .u64 (h.l : Int), .int .u64 (h.r : Int), .int .u64 (u.f : Int), .int .u64 (u.l : Int), .int .u64 (u.r : Int), .int .i64 (k : Int), .int .i64 (t : Int)] 41) (fun h => h)))
  have KA : Hid (∀ w', Chg NoChg (w.alloc (.cells #[.int .i64 (i : Int), .int .i64 (p : Int), .bool true, .int .u64 (r.f : Int), .int .u64 (r.l : Int), .int .u64 (r.r : Int), .int .u64 (h.f : Int), .int .u64 (h.l : Int), .int .u64 (h.r : Int), .int .u64 (u.f : Int), .int .u64 (u.l : Int), .int .u64 (u.r : Int), .int .i64 (k : Int), .int .i64 (t : Int)] 41)) w' → w'.cell? ⟨w.heap.size, 0, none⟩ = some (.int .i64 (i : Int)) ∧ w'.cell? ⟨w.heap.size, 1, none⟩ = some (.int .i64 (p : Int))) := hide (fun w' x => have kx := K0.out w' x; ⟨kx.1, kx.2.1⟩)
  clear hi hp hk ht hr hh hu l1 l2 l3 l4 l5 l6 l7
  go_enter Tryd.func16, Tryd.ntmps16
  go_wp2
  go_region_held3 (fun w' : World => w'.cell? ⟨w.heap.size, 0, none⟩ = some (.int .i64 (i : Int)) ∧ w'.cell? ⟨w.heap.size, 1, none⟩ = some (.int .i64 (p : Int))) (exact KA.out _ (by (repeat' (first | (with_reducible exact Chg.refl _ _) | (with_reducible assumption) | (with_reducible refine Chg.alloc ?_ _) | (with_reducible refine Chg.drewN ?_ _) | (with_reducible refine Chg.drew ?_) | (with_reducible refine Chg.setCell ?_ _ ?_) | (apply Or.inl; with_reducible rfl) | (apply Or.inl; simp; done) | (apply Or.inr; simp; done) | (apply Or.inr; simp; omega))))) (first | (go_at_call 35; with_reducible refine (F1.out _).mono ?_; rintro e y1 ⟨rfl, z1⟩; replace z1 : Chg NoChg (w.alloc (.cells #[.int .i64 (i : Int), .int .i64 (p : Int), .bool true, .int .u64 (r.f : Int), .int .u64 (r.l : Int), .int .u64 (r.r : Int), .int .u64 (h.f : Int), .int .u64 (h.l : Int), .int .u64 (h.r : Int), .int .u64 (u.f : Int), .int .u64 (u.l : Int), .int .u64 (u.r : Int), .int .i64 (k : Int), .int .i64 (t : Int)] 41)) y1 := Chg.trans' (by (repeat' (first | (with_reducible exact Chg.refl _ _) | (with_reducible assumption) | (with_reducible refine Chg.alloc ?_ _) | (with_reducible refine Chg.drewN ?_ _) | (with_reducible refine Chg.drew ?_) | (with_reducible refine Chg.setCell ?_ _ ?_) | (apply Or.inl; with_reducible rfl) | (apply Or.inl; simp; done) | (apply Or.inr; simp; done) | (apply Or.inr; simp; omega)))) z1) | (go_at_call 35; with_reducible refine (F2.out _).mono ?_; rintro e y2 ⟨rfl, z2⟩; replace z2 : Chg NoChg (w.alloc (.cells #[.int .i64 (i : Int), .int .i64 (p : Int), .bool true, .int .u64 (r.f : Int), .int .u64 (r.l : Int), .int .u64 (r.r : Int), .int .u64 (h.f : Int), .int .u64 (h.l : Int), .int .u64 (h.r : Int), .int .u64 (u.f : Int), .int .u64 (u.l : Int), .int .u64 (u.r : Int), .int .i64 (k : Int), .int .i64 (t : Int)] 41)) y2 := Chg.trans' (by (repeat' (first | (with_reducible exact Chg.refl _ _) | (with_reducible assumption) | (with_reducible refine Chg.alloc ?_ _) | (with_reducible refine Chg.drewN ?_ _) | (with_reducible refine Chg.drew ?_) | (with_reducible refine Chg.setCell ?_ _ ?_) | (apply Or.inl; with_reducible rfl) | (apply Or.inl; simp; done) | (apply Or.inr; simp; done) | (apply Or.inr; simp; omega)))) z2))
  all_goals
    have C2 := hide z2
    clear z1 z2
    have KB : Hid (∀ w', Chg NoChg y2 w' → w'.cell? ⟨w.heap.size, 3, none⟩ = some (.int .u64 (r.f : Int)) ∧ w'.cell? ⟨w.heap.size, 4, none⟩ = some (.int .u64 (r.l : Int)) ∧ w'.cell? ⟨w.heap.size, 5, none⟩ = some (.int .u64 (r.r : Int)) ∧ w'.cell? ⟨w.heap.size, 6, none⟩ = some (.int .u64 (h.f : Int)) ∧ w'.cell? ⟨w.heap.size, 7, none⟩ = some (.int .u64 (h.l : Int)) ∧ w'.cell? ⟨w.heap.size, 8, none⟩ = some (.int .u64 (h.r : Int)) ∧ w'.cell? ⟨w.heap.size, 9, none⟩ = some (.int .u64 (u.f : Int)) ∧ w'.cell? ⟨w.heap.size, 10, none⟩ = some (.int .u64 (u.l : Int)) ∧ w'.cell? ⟨w.heap.size, 11, none⟩ = some (.int .u64 (u.r : Int))) := hide (fun w' x => have kx := K0.out w' (C2.out.trans' x); ⟨kx.2.2.2.1, kx.2.2.2.2.1, kx.2.2.2.2.2.1, kx.2.2.2.2.2.2.1, kx.2.2.2.2.2.2.2.1, kx.2.2.2.2.2.2.2.2.1, kx.2.2.2.2.2.2.2.2.2.1, kx.2.2.2.2.2.2.2.2.2.2.1, kx.2.2.2.2.2.2.2.2.2.2.2.1⟩)
    go_wp2
    go_region_held3 (fun w' : World => w'.cell? ⟨w.heap.size, 3, none⟩ = some (.int .u64 (r.f : Int)) ∧ w'.cell? ⟨w.heap.size, 4, none⟩ = some (.int .u64 (r.l : Int)) ∧ w'.cell? ⟨w.heap.size, 5, none⟩ = some (.int .u64 (r.r : Int)) ∧ w'.cell? ⟨w.heap.size, 6, none⟩ = some (.int .u64 (h.f : Int)) ∧ w'.cell? ⟨w.heap.size, 7, none⟩ = some (.int .u64 (h.l : Int)) ∧ w'.cell? ⟨w.heap.size, 8, none⟩ = some (.int .u64 (h.r : Int)) ∧ w'.cell? ⟨w.heap.size, 9, none⟩ = some (.int .u64 (u.f : Int)) ∧ w'.cell? ⟨w.heap.size, 10, none⟩ = some (.int .u64 (u.l : Int)) ∧ w'.cell? ⟨w.heap.size, 11, none⟩ = some (.int .u64 (u.r : Int))) (exact KB.out _ (by (repeat' (first | (with_reducible exact Chg.refl _ _) | (with_reducible assumption) | (with_reducible refine Chg.alloc ?_ _) | (with_reducible refine Chg.drewN ?_ _) | (with_reducible refine Chg.drew ?_) | (with_reducible refine Chg.setCell ?_ _ ?_) | (apply Or.inl; with_reducible rfl) | (apply Or.inl; simp; done) | (apply Or.inr; simp; done) | (apply Or.inr; simp; omega))))) (first | (go_at_call 44; with_reducible refine (F3.out _).mono ?_; rintro e y3 ⟨rfl, z3⟩; replace z3 : Chg NoChg y2 y3 := Chg.trans' (by (repeat' (first | (with_reducible exact Chg.refl _ _) | (with_reducible assumption) | (with_reducible refine Chg.alloc ?_ _) | (with_reducible refine Chg.drewN ?_ _) | (with_reducible refine Chg.drew ?_) | (with_reducible refine Chg.setCell ?_ _ ?_) | (apply Or.inl; with_reducible rfl) | (apply Or.inl; simp; done) | (apply Or.inr; simp; done) | (apply Or.inr; simp; omega)))) z3) | (go_at_call 44; with_reducible refine (F4.out _).mono ?_; rintro e y4 ⟨rfl, z4⟩; replace z4 : Chg NoChg y2 y4 := Chg.trans' (by (repeat' (first | (with_reducible exact Chg.refl _ _) | (with_reducible assumption) | (with_reducible refine Chg.alloc ?_ _) | (with_reducible refine Chg.drewN ?_ _) | (with_reducible refine Chg.drew ?_) | (with_reducible refine Chg.setCell ?_ _ ?_) | (apply Or.inl; with_reducible rfl) | (apply Or.inl; simp; done) | (apply Or.inr; simp; done) | (apply Or.inr; simp; omega)))) z4) | (go_at_call 44; with_reducible refine (F5.out _).mono ?_; rintro e y5 ⟨rfl, z5⟩; replace z5 : Chg NoChg y2 y5 := Chg.trans' (by (repeat' (first | (with_reducible exact Chg.refl _ _) | (with_reducible assumption) | (with_reducible refine Chg.alloc ?_ _) | (with_reducible refine Chg.drewN ?_ _) | (with_reducible refine Chg.drew ?_) | (with_reducible refine Chg.setCell ?_ _ ?_) | (apply Or.inl; with_reducible rfl) | (apply Or.inl; simp; done) | (apply Or.inr; simp; done) | (apply Or.inr; simp; omega)))) z5))
    all_goals
      have C5 := hide (C2.out.trans' z5)
      clear z3 z4 z5
      have KC : Hid (∀ w', Chg NoChg y5 w' → w'.cell? ⟨w.heap.size, 12, none⟩ = some (.int .i64 (k : Int)) ∧ w'.cell? ⟨w.heap.size, 13, none⟩ = some (.int .i64 (t : Int))) := hide (fun w' x => have kx := K0.out w' (C5.out.trans' x); ⟨kx.2.2.2.2.2.2.2.2.2.2.2.2.1, kx.2.2.2.2.2.2.2.2.2.2.2.2.2⟩)
      go_wp2
      go_region_held3 (fun w' : World => w'.cell? ⟨w.heap.size, 12, none⟩ = some (.int .i64 (k : Int)) ∧ w'.cell? ⟨w.heap.size, 13, none⟩ = some (.int .i64 (t : Int))) (exact KC.out _ (by (repeat' (first | (with_reducible exact Chg.refl _ _) | (with_reducible assumption) | (with_reducible refine Chg.alloc ?_ _) | (with_reducible refine Chg.drewN ?_ _) | (with_reducible refine Chg.drew ?_) | (with_reducible refine Chg.setCell ?_ _ ?_) | (apply Or.inl; with_reducible rfl) | (apply Or.inl; simp; done) | (apply Or.inr; simp; done) | (apply Or.inr; simp; omega))))) (first | (go_at_call 35; with_reducible refine (F6.out _).mono ?_; rintro e y6 ⟨rfl, z6⟩; replace z6 : Chg NoChg y5 y6 := Chg.trans' (by (repeat' (first | (with_reducible exact Chg.refl _ _) | (with_reducible assumption) | (with_reducible refine Chg.alloc ?_ _) | (with_reducible refine Chg.drewN ?_ _) | (with_reducible refine Chg.drew ?_) | (with_reducible refine Chg.setCell ?_ _ ?_) | (apply Or.inl; with_reducible rfl) | (apply Or.inl; simp; done) | (apply Or.inr; simp; done) | (apply Or.inr; simp; omega)))) z6) | (go_at_call 35; with_reducible refine (F7.out _).mono ?_; rintro e y7 ⟨rfl, z7⟩; replace z7 : Chg NoChg y5 y7 := Chg.trans' (by (repeat' (first | (with_reducible exact Chg.refl _ _) | (with_reducible assumption) | (with_reducible refine Chg.alloc ?_ _) | (with_reducible refine Chg.drewN ?_ _) | (with_reducible refine Chg.drew ?_) | (with_reducible refine Chg.setCell ?_ _ ?_) | (apply Or.inl; with_reducible rfl) | (apply Or.inl; simp; done) | (apply Or.inr; simp; done) | (apply Or.inr; simp; omega)))) z7))
      all_goals
        have C7 := hide (C0.out.trans' (C5.out.trans' z7))
        clear z6 z7
        go_wp2
        refine bodyPost_ret (v := .tuple #[.string (bs T), .int .i64 0]) (by simp [results, Tryd.results16, go_sem, HT.out, bs, bs_lit]) rfl ⟨rfl, C7.out⟩

set_option maxRecDepth 100000 in
set_option maxHeartbeats 8000000 in
theorem r13Text_false (i p : Nat) (r h u : Crv) (k t : Nat) (hi : i < 9223372036854775808) (hp : p < 9223372036854775808) (hk : k < 9223372036854775808) (ht : t < 9223372036854775808) (hr : r.fits) (hh : h.fits) (hu : u.fits) (w : World) :
    Calls Tryd.prog 16 #[.agg #[.int .i64 (i : Int), .int .i64 (p : Int), .bool false, .int .u64 (r.f : Int), .int .u64 (r.l : Int), .int .u64 (r.r : Int), .int .u64 (h.f : Int), .int .u64 (h.l : Int), .int .u64 (h.r : Int), .int .u64 (u.f : Int), .int .u64 (u.l : Int), .int .u64 (u.r : Int), .int .i64 (k : Int), .int .i64 (t : Int)]] w fun e w' => e = .returned (.tuple #[.string (bs (sText ⟨(i : Int), (p : Int), false, r, h, u, (k : Int), (t : Int)⟩)), .int .i64 0]) ∧ Chg NoChg w w' := by
  have g1 : decide ((i : Int) < 0) = false := by simp
  have g2 : decide ((p : Int) < 0) = false := by simp
  have g3 : decide ((k : Int) < 0) = false := by simp
  have g4 : decide ((t : Int) < 0) = false := by simp
  have F1 := hide (num_any i (by omega))
  have F2 := hide (num_any p (by omega))
  have F3 := hide (r13Drawn_any r hr)
  have F4 := hide (r13Drawn_any h hh)
  have F5 := hide (r13Drawn_any u hu)
  have F6 := hide (num_any k (by omega))
  have F7 := hide (num_any t (by omega))
  have HT : sText ⟨(i : Int), (p : Int), false, r, h, u, (k : Int), (t : Int)⟩ = [105, 110, 110, 101, 114, 32] ++ Lib.decDigits i ++ [32] ++ Lib.decDigits p ++ [32] ++ cw r ++ [32] ++ cw h ++ [32] ++ cw u ++ [32] ++ Lib.decDigits k ++ [32] ++ Lib.decDigits t := by
    simp [sText, sWords, kindW, Lib.join_cons, Lib.joinTail]
  have HT := hide HT
  have l1 := dec_length i (by omega)
  have l2 := dec_length p (by omega)
  have l3 := cw_length hr
  have l4 := cw_length hh
  have l5 := cw_length hu
  have l6 := dec_length k (by omega)
  have l7 := dec_length t (by omega)
  have w1 : IntKind.u64.wrap (i : Int) = (i : Int) := IntWalk.u64_in _ (by omega)
  have w2 : IntKind.u64.wrap (p : Int) = (p : Int) := IntWalk.u64_in _ (by omega)
  have w3 : IntKind.u64.wrap (k : Int) = (k : Int) := IntWalk.u64_in _ (by omega)
  have w4 : IntKind.u64.wrap (t : Int) = (t : Int) := IntWalk.u64_in _ (by omega)
  generalize sText ⟨(i : Int), (p : Int), false, r, h, u, (k : Int), (t : Int)⟩ = T at HT ⊢
  generalize Lib.decDigits i = d1 at F1 l1 HT
  generalize Lib.decDigits p = d2 at F2 l2 HT
  generalize cw r = e3 at F3 l3 HT
  generalize cw h = e4 at F4 l4 HT
  generalize cw u = e5 at F5 l5 HT
  generalize Lib.decDigits k = d6 at F6 l6 HT
  generalize Lib.decDigits t = d7 at F7 l7 HT
  have q1 : ¬ 9223372036854775807 < 6 + d1.length := by omega
  have q2 : ¬ 9223372036854775807 < 6 + d1.length + 1 := by omega
  have q3 : ¬ 9223372036854775807 < 6 + d1.length + 1 + d2.length := by omega
  have q4 : ¬ 9223372036854775807 < 6 + d1.length + 1 + d2.length + 1 := by omega
  have q5 : ¬ 9223372036854775807 < 6 + d1.length + 1 + d2.length + 1 + e3.length := by omega
  have q6 : ¬ 9223372036854775807 < 6 + d1.length + 1 + d2.length + 1 + e3.length + 1 := by omega
  have q7 : ¬ 9223372036854775807 < 6 + d1.length + 1 + d2.length + 1 + e3.length + 1 + e4.length := by omega
  have q8 : ¬ 9223372036854775807 < 6 + d1.length + 1 + d2.length + 1 + e3.length + 1 + e4.length + 1 := by omega
  have q9 : ¬ 9223372036854775807 < 6 + d1.length + 1 + d2.length + 1 + e3.length + 1 + e4.length + 1 + e5.length := by omega
  have q10 : ¬ 9223372036854775807 < 6 + d1.length + 1 + d2.length + 1 + e3.length + 1 + e4.length + 1 + e5.length + 1 := by omega
  have q11 : ¬ 9223372036854775807 < 6 + d1.length + 1 + d2.length + 1 + e3.length + 1 + e4.length + 1 + e5.length + 1 + d6.length := by omega
  have q12 : ¬ 9223372036854775807 < 6 + d1.length + 1 + d2.length + 1 + e3.length + 1 + e4.length + 1 + e5.length + 1 + d6.length + 1 := by omega
  have q13 : ¬ 9223372036854775807 < 6 + d1.length + 1 + d2.length + 1 + e3.length + 1 + e4.length + 1 + e5.length + 1 + d6.length + 1 + d7.length := by omega
  have C0 : Hid (Chg NoChg w (w.alloc (.cells #[.int .i64 (i : Int), .int .i64 (p : Int), .bool false, .int .u64 (r.f : Int), .int .u64 (r.l : Int), .int .u64 (r.r : Int), .int .u64 (h.f : Int), .int .u64 (h.l : Int), .int .u64 (h.r : Int), .int .u64 (u.f : Int), .int .u64 (u.l : Int), .int .u64 (u.r : Int), .int .i64 (k : Int), .int .i64 (t : Int)] 41))) := hide ((Chg.refl NoChg w).alloc _)
  have K0 := hide (fun (w' : World) (x : Chg NoChg (w.alloc (.cells #[.int .i64 (i : Int), .int .i64 (p : Int), .bool false, .int .u64 (r.f : Int), .int .u64 (r.l : Int), .int .u64 (r.r : Int), .int .u64 (h.f : Int), .int .u64 (h.l : Int), .int .u64 (h.r : Int), .int .u64 (u.f : Int), .int .u64 (u.l : Int), .int .u64 (u.r : Int), .int .i64 (k : Int), .int .i64 (t : Int)] 41)) w') => spc_cells (x.blk (Blk.new w #[.int .i64 (i : Int), .int .i64 (p : Int), .bool false, .int .u64 (r.f : Int), .int .u64 (r.l : Int), .int .u64 (r.r : Int), .int .u64 (h.f : Int), .int .u64 (h.l : Int), .int .u64 (h.r : Int), .int .u64 (u.f : Int), .int .u64 (u.l : Int), .int .u64 (u.r : Int), .int .i64 (k : Int), .int .i64 (t : Int)] 41) (fun h => h)))
  have KA : Hid (∀ w', Chg NoChg (w.alloc (.cells #[.int .i64 (i : Int), .int .i64 (p : Int), .bool false, .int .u64 (r.f : Int), .int .u64 (r.l : Int), .int .u64 (r.r : Int), .int .u64 (h.f : Int), .int .u64 (h.l : Int), .int .u64 (h.r : Int), .int .u64 (u.f : Int), .int .u64 (u.l : Int), .int .u64 (u.r : Int), .int .i64 (k : Int), .int .i64 (t : Int)] 41)) w' → w'.cell? ⟨w.heap.size, 0, none⟩ = some (.int .i64 (i : Int)) ∧ w'.cell? ⟨w.heap.size, 1, none⟩ = some (.int .i64 (p : Int))) := hide (fun w' x => have kx := K0.out w' x; ⟨kx.1, kx.2.1⟩)
  clear hi hp hk ht hr hh hu l1 l2 l3 l4 l5 l6 l7
  go_enter Tryd.func16, Tryd.ntmps16
  go_wp2
  go_region_held3 (fun w' : World => w'.cell? ⟨w.heap.size, 0, none⟩ = some (.int .i64 (i : Int)) ∧ w'.cell? ⟨w.heap.size, 1, none⟩ = some (.int .i64 (p : Int))) (exact KA.out _ (by (repeat' (first | (with_reducible exact Chg.refl _ _) | (with_reducible assumption) | (with_reducible refine Chg.alloc ?_ _) | (with_reducible refine Chg.drewN ?_ _) | (with_reducible refine Chg.drew ?_) | (with_reducible refine Chg.setCell ?_ _ ?_) | (apply Or.inl; with_reducible rfl) | (apply Or.inl; simp; done) | (apply Or.inr; simp; done) | (apply Or.inr; simp; omega))))) (first | (go_at_call 35; with_reducible refine (F1.out _).mono ?_; rintro e y1 ⟨rfl, z1⟩; replace z1 : Chg NoChg (w.alloc (.cells #[.int .i64 (i : Int), .int .i64 (p : Int), .bool false, .int .u64 (r.f : Int), .int .u64 (r.l : Int), .int .u64 (r.r : Int), .int .u64 (h.f : Int), .int .u64 (h.l : Int), .int .u64 (h.r : Int), .int .u64 (u.f : Int), .int .u64 (u.l : Int), .int .u64 (u.r : Int), .int .i64 (k : Int), .int .i64 (t : Int)] 41)) y1 := Chg.trans' (by (repeat' (first | (with_reducible exact Chg.refl _ _) | (with_reducible assumption) | (with_reducible refine Chg.alloc ?_ _) | (with_reducible refine Chg.drewN ?_ _) | (with_reducible refine Chg.drew ?_) | (with_reducible refine Chg.setCell ?_ _ ?_) | (apply Or.inl; with_reducible rfl) | (apply Or.inl; simp; done) | (apply Or.inr; simp; done) | (apply Or.inr; simp; omega)))) z1) | (go_at_call 35; with_reducible refine (F2.out _).mono ?_; rintro e y2 ⟨rfl, z2⟩; replace z2 : Chg NoChg (w.alloc (.cells #[.int .i64 (i : Int), .int .i64 (p : Int), .bool false, .int .u64 (r.f : Int), .int .u64 (r.l : Int), .int .u64 (r.r : Int), .int .u64 (h.f : Int), .int .u64 (h.l : Int), .int .u64 (h.r : Int), .int .u64 (u.f : Int), .int .u64 (u.l : Int), .int .u64 (u.r : Int), .int .i64 (k : Int), .int .i64 (t : Int)] 41)) y2 := Chg.trans' (by (repeat' (first | (with_reducible exact Chg.refl _ _) | (with_reducible assumption) | (with_reducible refine Chg.alloc ?_ _) | (with_reducible refine Chg.drewN ?_ _) | (with_reducible refine Chg.drew ?_) | (with_reducible refine Chg.setCell ?_ _ ?_) | (apply Or.inl; with_reducible rfl) | (apply Or.inl; simp; done) | (apply Or.inr; simp; done) | (apply Or.inr; simp; omega)))) z2))
  all_goals
    have C2 := hide z2
    clear z1 z2
    have KB : Hid (∀ w', Chg NoChg y2 w' → w'.cell? ⟨w.heap.size, 3, none⟩ = some (.int .u64 (r.f : Int)) ∧ w'.cell? ⟨w.heap.size, 4, none⟩ = some (.int .u64 (r.l : Int)) ∧ w'.cell? ⟨w.heap.size, 5, none⟩ = some (.int .u64 (r.r : Int)) ∧ w'.cell? ⟨w.heap.size, 6, none⟩ = some (.int .u64 (h.f : Int)) ∧ w'.cell? ⟨w.heap.size, 7, none⟩ = some (.int .u64 (h.l : Int)) ∧ w'.cell? ⟨w.heap.size, 8, none⟩ = some (.int .u64 (h.r : Int)) ∧ w'.cell? ⟨w.heap.size, 9, none⟩ = some (.int .u64 (u.f : Int)) ∧ w'.cell? ⟨w.heap.size, 10, none⟩ = some (.int .u64 (u.l : Int)) ∧ w'.cell? ⟨w.heap.size, 11, none⟩ = some (.int .u64 (u.r : Int))) := hide (fun w' x => have kx := K0.out w' (C2.out.trans' x); ⟨kx.2.2.2.1, kx.2.2.2.2.1, kx.2.2.2.2.2.1, kx.2.2.2.2.2.2.1, kx.2.2.2.2.2.2.2.1, kx.2.2.2.2.2.2.2.2.1, kx.2.2.2.2.2.2.2.2.2.1, kx.2.2.2.2.2.2.2.2.2.2.1, kx.2.2.2.2.2.2.2.2.2.2.2.1⟩)
    go_wp2
    go_region_held3 (fun w' : World => w'.cell? ⟨w.heap.size, 3, none⟩ = some (.int .u64 (r.f : Int)) ∧ w'.cell? ⟨w.heap.size, 4, none⟩ = some (.int .u64 (r.l : Int)) ∧ w'.cell? ⟨w.heap.size, 5, none⟩ = some (.int .u64 (r.r : Int)) ∧ w'.cell? ⟨w.heap.size, 6, none⟩ = some (.int .u64 (h.f : Int)) ∧ w'.cell? ⟨w.heap.size, 7, none⟩ = some (.int .u64 (h.l : Int)) ∧ w'.cell? ⟨w.heap.size, 8, none⟩ = some (.int .u64 (h.r : Int)) ∧ w'.cell? ⟨w.heap.size, 9, none⟩ = some (.int .u64 (u.f : Int)) ∧ w'.cell? ⟨w.heap.size, 10, none⟩ = some (.int .u64 (u.l : Int)) ∧ w'.cell? ⟨w.heap.size, 11, none⟩ = some (.int .u64 (u.r : Int))) (exact KB.out _ (by (repeat' (first | (with_reducible exact Chg.refl _ _) | (with_reducible assumption) | (with_reducible refine Chg.alloc ?_ _) | (with_reducible refine Chg.drewN ?_ _) | (with_reducible refine Chg.drew ?_) | (with_reducible refine Chg.setCell ?_ _ ?_) | (apply Or.inl; with_reducible rfl) | (apply Or.inl; simp; done) | (apply Or.inr; simp; done) | (apply Or.inr; simp; omega))))) (first | (go_at_call 44; with_reducible refine (F3.out _).mono ?_; rintro e y3 ⟨rfl, z3⟩; replace z3 : Chg NoChg y2 y3 := Chg.trans' (by (repeat' (first | (with_reducible exact Chg.refl _ _) | (with_reducible assumption) | (with_reducible refine Chg.alloc ?_ _) | (with_reducible refine Chg.drewN ?_ _) | (with_reducible refine Chg.drew ?_) | (with_reducible refine Chg.setCell ?_ _ ?_) | (apply Or.inl; with_reducible rfl) | (apply Or.inl; simp; done) | (apply Or.inr; simp; done) | (apply Or.inr; simp; omega)))) z3) | (go_at_call 44; with_reducible refine (F4.out _).mono ?_; rintro e y4 ⟨rfl, z4⟩; replace z4 : Chg NoChg y2 y4 := Chg.trans' (by (repeat' (first | (with_reducible exact Chg.refl _ _) | (with_reducible assumption) | (with_reducible refine Chg.alloc ?_ _) | (with_reducible refine Chg.drewN ?_ _) | (with_reducible refine Chg.drew ?_) | (with_reducible refine Chg.setCell ?_ _ ?_) | (apply Or.inl; with_reducible rfl) | (apply Or.inl; simp; done) | (apply Or.inr; simp; done) | (apply Or.inr; simp; omega)))) z4) | (go_at_call 44; with_reducible refine (F5.out _).mono ?_; rintro e y5 ⟨rfl, z5⟩; replace z5 : Chg NoChg y2 y5 := Chg.trans' (by (repeat' (first | (with_reducible exact Chg.refl _ _) | (with_reducible assumption) | (with_reducible refine Chg.alloc ?_ _) | (with_reducible refine Chg.drewN ?_ _) | (with_reducible refine Chg.drew ?_) | (with_reducible refine Chg.setCell ?_ _ ?_) | (apply Or.inl; with_reducible rfl) | (apply Or.inl; simp; done) | (apply Or.inr; simp; done) | (apply Or.inr; simp; omega)))) z5))
    all_goals
      have C5 := hide (C2.out.trans' z5)
      clear z3 z4 z5
      have KC : Hid (∀ w', Chg NoChg y5 w' → w'.cell? ⟨w.heap.size, 12, none⟩ = some (.int .i64 (k : Int)) ∧ w'.cell? ⟨w.heap.size, 13, none⟩ = some (.int .i64 (t : Int))) := hide (fun w' x => have kx := K0.out w' (C5.out.trans' x); ⟨kx.2.2.2.2.2.2.2.2.2.2.2.2.1, kx.2.2.2.2.2.2.2.2.2.2.2.2.2⟩)
      go_wp2
      go_region_held3 (fun w' : World => w'.cell? ⟨w.heap.size, 12, none⟩ = some (.int .i64 (k : Int)) ∧ w'.cell? ⟨w.heap.size, 13, none⟩ = some (.int .i64 (t : Int))) (exact KC.out _ (by (repeat' (first | (with_reducible exact Chg.refl _ _) | (with_reducible assumption) | (with_reducible refine Chg.alloc ?_ _) | (with_reducible refine Chg.drewN ?_ _) | (with_reducible refine Chg.drew ?_) | (with_reducible refine Chg.setCell ?_ _ ?_) | (apply Or.inl; with_reducible rfl) | (apply Or.inl; simp; done) | (apply Or.inr; simp; done) | (apply Or.inr; simp; omega))))) (first | (go_at_call 35; with_reducible refine (F6.out _).mono ?_; rintro e y6 ⟨rfl, z6⟩; replace z6 : Chg NoChg y5 y6 := Chg.trans' (by (repeat' (first | (with_reducible exact Chg.refl _ _) | (with_reducible assumption) | (with_reducible refine Chg.alloc ?_ _) | (with_reducible refine Chg.drewN ?_ _) | (with_reducible refine Chg.drew ?_) | (with_reducible refine Chg.setCell ?_ _ ?_) | (apply Or.inl; with_reducible rfl) | (apply Or.inl; simp; done) | (apply Or.inr; simp; done) | (apply Or.inr; simp; omega)))) z6) | (go_at_call 35; with_reducible refine (F7.out _).mono ?_; rintro e y7 ⟨rfl, z7⟩; replace z7 : Chg NoChg y5 y7 := Chg.trans' (by (repeat' (first | (with_reducible exact Chg.refl _ _) | (with_reducible assumption) | (with_reducible refine Chg.alloc ?_ _) | (with_reducible refine Chg.drewN ?_ _) | (with_reducible refine Chg.drew ?_) | (with_reducible refine Chg.setCell ?_ _ ?_) | (apply Or.inl; with_reducible rfl) | (apply Or.inl; simp; done) | (apply Or.inr; simp; done) | (apply Or.inr; simp; omega)))) z7))
      all_goals
        have C7 := hide (C0.out.trans' (C5.out.trans' z7))
        clear z6 z7
        go_wp2
        refine bodyPost_ret (v := .tuple #[.string (bs T), .int .i64 0]) (by simp [results, Tryd.results16, go_sem, HT.out, bs, bs_lit]) rfl ⟨rfl, C7.out⟩

end Go.Proofs.YtofgajlpdnokdaaDoor
