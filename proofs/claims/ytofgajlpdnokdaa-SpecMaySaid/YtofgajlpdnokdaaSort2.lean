/- Collecting, and sorting at most two keys. -/
import Derived.Test.YtofgajlpdnokdaaKeys2
import Derived.Outline
import Derived.RegionTactic
import Derived.ChangeAlike
namespace Go.Proofs.Ytofgajlpdnokdaa
set_option linter.unusedVariables false
open Go.RowKit Go.Maps Go.Shelf

theorem slCollect_any {H : Type} (Bm b nn : Nat) (D0 : DataW H) {R : Value → Option (DataW H × List MemPlace)} (w : World) (hmax : Maps.size D0 < maxLen) (hbytes : Maps.size D0 * 8 + 8 ≤ 140737488355328)
    (hBm : Bm < w.heap.size) (hm : w.cell? ⟨Bm, 0, none⟩ = some (.map (some b))) (hown : w.ownsMap Try.prog 22 R b nn D0) :
    Calls Try.prog 39 #[.func (.func 41) #[] #[.pointer (some ⟨Bm, 0, none⟩)]] w fun e W' => ∃ (v : Value) (ss : List Int), e = .returned v ∧ W'.ownsRow w.heap.size 22 1 v ss.length (ss.map (Value.int .u64)) ∧ ss.Nodup ∧ (∀ x, x ∈ ss ↔ has D0 (.int .u64 x) = true) ∧ Below w.heap.size w W' := by
  have C := hide (callsIn_wide.1 (appSeq_in Fence.wide 3 trivial trivial rfl (by omega) Bm b nn D0 w hmax hbytes hBm hm hown))
  clear hmax hbytes hBm hm hown
  go_enter Try.func39, Try.ntmps39
  go_wp2_with fail
  refine (C.out).mono ?_
  rintro e w1 ⟨v, ss, rfl, h1, h2, h3, h4⟩
  have HH := hide (And.intro h1 (And.intro h2 (And.intro h3 h4)))
  clear h1 h2 h3 h4
  go_wp2
  go_ret
  exact ⟨v, ss, rfl, HH.out.1, HH.out.2.1, HH.out.2.2.1, HH.out.2.2.2⟩

def sort2 : List Int → List Int
  | [x, y] => if y < x then [y, x] else [x, y]
  | l => l

set_option maxRecDepth 100000 in
theorem slIns_0 (a : Option Addr) (cap : Nat) (k : Int) (hk : k ≤ 1) (h0 : 0 ≤ k) (w : World) : Calls Try.prog 49 #[.slice a k.toNat cap, .int .i64 0, .int .i64 k] w fun e w' => (∃ r, e = .returned r) ∧ w = w' := by
  go_enter Try.func49, Try.ntmps49
  go_wp2
  refine wp_loop_rounds 1 ?_
  rw [rounds_succ]
  go_wp2
  go_end0
  exact ⟨⟨_, rfl⟩, rfl⟩

set_option maxRecDepth 100000 in
theorem slPdq_0 (a : Option Addr) (cap : Nat) (k lim : Int) (hk : k ≤ 1) (h0 : 0 ≤ k) (w : World) : Calls Try.prog 46 #[.slice a k.toNat cap, .int .i64 0, .int .i64 k, .int .i64 lim] w fun e w' => (∃ r, e = .returned r) ∧ w = w' := by
  go_enter Try.func46, Try.ntmps46
  go_wp2
  refine wp_loop_rounds 1 ?_
  rw [rounds_succ]
  go_wp2_with (go_at_call 49; refine (slIns_0 _ _ _ hk h0 _).mono ?_; rintro e w1 ⟨⟨r, rfl⟩, rfl⟩)
  refine bodyPost_ret (results_none rfl _ _ _) rfl ?_
  exact ⟨⟨_, rfl⟩, rfl⟩

theorem cmpLess_any (x y : Int) (w : World) : Calls Try.prog 55 #[.int .u64 x, .int .u64 y] w fun e w' => e = .returned (.bool (decide (x < y))) ∧ w = w' := by
  go_enter Try.func55, Try.ntmps55
  go_wp2
  go_ret
  exact ⟨rfl, rfl⟩

set_option maxRecDepth 100000 in
theorem slIns_2 (g cap : Nat) (x y : Int) (w : World) (hx : w.cell? ⟨g, 0, none⟩ = some (.int .u64 x)) (hy : w.cell? ⟨g, 1, none⟩ = some (.int .u64 y)) (hf : ∀ i, w.frozen? ⟨g, i, none⟩ = false) (hlt : x ≤ y) :
    Calls Try.prog 49 #[.slice (some ⟨g, 0, none⟩) 2 cap, .int .i64 0, .int .i64 2] w fun e w' => (∃ r, e = .returned r) ∧ Chg NoChg w w' := by
  have L := hide (cmpLess_any y x)
  have hd : decide (y < x) = false := by simp; omega
  rw [hd] at L
  clear hlt hd
  go_enter Try.func49, Try.ntmps49
  go_wp2
  refine wp_loop_rounds 2 ?_
  rw [rounds_succ]
  go_wp2
  refine wp_loop_rounds 1 ?_
  rw [rounds_succ]
  go_wp2
  go_quiet ((go_at_call 55; exact quiet_same (L.out _)))
  go_wp2
  rw [rounds_succ]
  go_wp2
  go_end0
  refine ⟨⟨_, rfl⟩, ?_⟩
  (repeat' (first | (with_reducible exact Chg.refl _ _) | (with_reducible assumption) | (with_reducible refine Chg.alloc ?_ _) | (with_reducible refine Chg.drewN ?_ _) | (with_reducible refine Chg.drew ?_) | (with_reducible refine Chg.setCell ?_ _ ?_) | (apply Or.inl; with_reducible rfl) | (apply Or.inl; simp; done) | (apply Or.inr; simp; done) | (apply Or.inr; simp; omega)))

set_option maxRecDepth 100000 in
theorem slIns_2s (g cap : Nat) (x y : Int) (w : World) (hx : w.cell? ⟨g, 0, none⟩ = some (.int .u64 x)) (hy : w.cell? ⟨g, 1, none⟩ = some (.int .u64 y)) (hf : ∀ i, w.frozen? ⟨g, i, none⟩ = false) (hlt : y < x) :
    Calls Try.prog 49 #[.slice (some ⟨g, 0, none⟩) 2 cap, .int .i64 0, .int .i64 2] w fun e w' => (∃ r, e = .returned r) ∧ ∃ n m, (((w.drewN n).setCell ⟨g, 1, none⟩ (.int .u64 x)).setCell ⟨g, 0, none⟩ (.int .u64 y)).drewN m = w' := by
  have L := hide (cmpLess_any y x)
  have hd : decide (y < x) = true := by simp; omega
  rw [hd] at L
  clear hlt hd
  go_enter Try.func49, Try.ntmps49
  go_wp2
  refine wp_loop_rounds 2 ?_
  rw [rounds_succ]
  go_wp2
  refine wp_loop_rounds 2 ?_
  rw [rounds_succ]
  go_wp2
  go_quiet ((go_at_call 55; exact quiet_same (L.out _)))
  go_wp2
  go_region
  all_goals go_wp2
  rw [rounds_succ]
  go_wp2
  go_quiet (fail)
  go_wp2
  rw [rounds_succ]
  go_wp2
  go_end0
  exact ⟨⟨_, rfl⟩, _, _, rfl⟩

/-- Sorting two keys in their block. -/
theorem slIns_two (g cap : Nat) (x y : Int) (t : TypeId) (cs : List Value) (w : World) (hb : Blk w g (.int .u64 x :: .int .u64 y :: cs).toArray t) :
    Calls Try.prog 49 #[.slice (some ⟨g, 0, none⟩) 2 cap, .int .i64 0, .int .i64 2] w fun e w' => (∃ r, e = .returned r) ∧ Blk w' g (.int .u64 (min x y) :: .int .u64 (max x y) :: cs).toArray t ∧ Chg (fun k => k = g) w w' := by
  rcases Int.lt_or_le y x with h | h
  · refine (slIns_2s g cap x y w (hb.cell 0) (hb.cell 1) hb.frozen h).mono fun e w' hw => ?_
    obtain ⟨h1, n, m, rfl⟩ := hw
    refine ⟨h1, ?_, ?_⟩
    · rw [Int.min_eq_right (Int.le_of_lt h), Int.max_eq_left (Int.le_of_lt h)]
      exact (((hb.drewN n).set' 1 _ rfl).set' 0 _ rfl).drewN m
    · (repeat' (first | (with_reducible exact Chg.refl _ _) | (with_reducible assumption) | (with_reducible refine Chg.alloc ?_ _) | (with_reducible refine Chg.drewN ?_ _) | (with_reducible refine Chg.drew ?_) | (with_reducible refine Chg.setCell ?_ _ ?_) | (apply Or.inl; with_reducible rfl) | (apply Or.inl; simp; done) | (apply Or.inr; simp; done) | (apply Or.inr; simp; omega)))
  · refine (slIns_2 g cap x y w (hb.cell 0) (hb.cell 1) hb.frozen h).mono fun e w' hw => ?_
    rw [Int.min_eq_left h, Int.max_eq_right h]
    exact ⟨hw.1, hw.2.blk hb (fun h => h), hw.2.mono fun k h => h.elim⟩

set_option maxRecDepth 100000 in
theorem slPdq_two (g cap : Nat) (x y lim : Int) (t : TypeId) (cs : List Value) (w : World) (hb : Blk w g (.int .u64 x :: .int .u64 y :: cs).toArray t) :
    Calls Try.prog 46 #[.slice (some ⟨g, 0, none⟩) 2 cap, .int .i64 0, .int .i64 2, .int .i64 lim] w fun e w' => (∃ r, e = .returned r) ∧ Blk w' g (.int .u64 (min x y) :: .int .u64 (max x y) :: cs).toArray t ∧ Chg (fun k => k = g) w w' := by
  have I := hide (slIns_two g cap x y t cs w hb)
  clear hb
  go_enter Try.func46, Try.ntmps46
  go_wp2
  refine wp_loop_rounds 1 ?_
  rw [rounds_succ]
  go_wp2_with (go_at_call 49; refine (I.out).mono ?_; rintro e w1 ⟨⟨r, rfl⟩, h1, h2⟩; have H := hide (And.intro h1 h2); clear h1 h2)
  refine bodyPost_ret (results_none rfl _ _ _) rfl ?_
  exact ⟨⟨_, rfl⟩, H.out.1, H.out.2⟩

set_option maxRecDepth 100000 in
theorem bLen_few (k : Nat) (hk : k ≤ 2) (w : World) : Calls Try.prog 47 #[.int .u64 (k : Int)] w fun e w' => (∃ r, e = .returned (.int .i64 r)) ∧ w = w' := by
  obtain rfl | rfl | rfl : k = 0 ∨ k = 1 ∨ k = 2 := by omega
  all_goals
    go_enter Try.func47, Try.ntmps47
    go_wp2
    go_ret
    exact ⟨⟨_, rfl⟩, rfl⟩

set_option maxRecDepth 100000 in
theorem slSort_few (a : Option Addr) (cap k : Nat) (hk : k ≤ 1) (w : World) : Calls Try.prog 40 #[.slice a k cap] w fun e w' => (∃ r, e = .returned r) ∧ w = w' := by
  obtain rfl | rfl : k = 0 ∨ k = 1 := by omega
  · have P := hide (fun lim w => slPdq_0 a cap 0 lim (by omega) (by omega) w)
    go_enter Try.func40, Try.ntmps40
    go_wp2_with fail
    refine (bLen_few 0 (by omega) _).mono ?_
    rintro e w0 ⟨⟨lim, rfl⟩, rfl⟩
    go_wp2_with fail
    refine (P.out _ _).mono ?_
    rintro e w1 ⟨⟨r, rfl⟩, rfl⟩
    go_wp2
    go_end0
    exact ⟨⟨_, rfl⟩, rfl⟩
  · have P := hide (fun lim w => slPdq_0 a cap 1 lim (by omega) (by omega) w)
    go_enter Try.func40, Try.ntmps40
    go_wp2_with fail
    refine (bLen_few 1 (by omega) _).mono ?_
    rintro e w0 ⟨⟨lim, rfl⟩, rfl⟩
    go_wp2_with fail
    refine (P.out _ _).mono ?_
    rintro e w1 ⟨⟨r, rfl⟩, rfl⟩
    go_wp2
    go_end0
    exact ⟨⟨_, rfl⟩, rfl⟩

set_option maxRecDepth 100000 in
theorem slSort_two (g cap : Nat) (x y : Int) (t : TypeId) (cs : List Value) (w : World) (hb : Blk w g (.int .u64 x :: .int .u64 y :: cs).toArray t) :
    Calls Try.prog 40 #[.slice (some ⟨g, 0, none⟩) 2 cap] w fun e w' => (∃ r, e = .returned r) ∧ Blk w' g (.int .u64 (min x y) :: .int .u64 (max x y) :: cs).toArray t ∧ Chg (fun k => k = g) w w' := by
  have P := hide (fun lim => slPdq_two g cap x y lim t cs w hb)
  clear hb
  go_enter Try.func40, Try.ntmps40
  go_wp2_with fail
  refine (bLen_few 2 (by omega) _).mono ?_
  rintro e w0 ⟨⟨lim, rfl⟩, rfl⟩
  go_wp2_with fail
  refine (P.out _).mono ?_
  rintro e w1 ⟨⟨r, rfl⟩, h1, h2⟩
  have H := hide (And.intro h1 h2)
  clear h1 h2
  go_wp2
  go_end0
  exact ⟨⟨_, rfl⟩, H.out.1, H.out.2⟩
end Go.Proofs.Ytofgajlpdnokdaa
