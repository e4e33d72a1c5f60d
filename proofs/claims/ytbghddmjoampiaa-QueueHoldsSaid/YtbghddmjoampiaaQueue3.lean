/- The queue of packets, more: New, grow, Push. -/
import Derived.Test.YtbghddmjoampiaaQueue2
import Derived.Laws.MakeOwn
namespace Go.Proofs.Ytbghddmjoampiaa
set_option linter.unusedVariables false
open Go.RowKit

theorem qNew_nil (pk bt : Int) (w : World) (h : pk < 1 ∨ 4096 < pk ∨ bt < 1 ∨ 16777216 < bt) :
    Calls Try.prog 13 #[.int .i64 pk, .int .i64 bt] w fun e w' => e = .returned (.pointer none) ∧ w = w' := by
  by_cases h1 : pk < 1
  · go_enter Try.func13, Try.ntmps13
    go_wp2
    go_ret
    exact ⟨rfl, rfl⟩
  · by_cases h2 : 4096 < pk
    · go_enter Try.func13, Try.ntmps13
      go_wp2
      go_ret
      exact ⟨rfl, rfl⟩
    · by_cases h3 : bt < 1
      · go_enter Try.func13, Try.ntmps13
        go_wp2
        go_ret
        exact ⟨rfl, rfl⟩
      · have h4 : 16777216 < bt := by omega
        go_enter Try.func13, Try.ntmps13
        go_wp2
        go_ret
        exact ⟨rfl, rfl⟩

theorem qNew_ok (pk bt : Nat) (w : World) (h1 : 1 ≤ pk) (h2 : pk ≤ 4096) (h3 : 1 ≤ bt) (h4 : bt ≤ 16777216) :
    Calls Try.prog 13 #[.int .i64 (pk : Int), .int .i64 (bt : Int)] w fun e w' => e = .returned (.pointer (some ⟨w.heap.size + 1, 0, none⟩)) ∧ QueueIs w' (w.heap.size + 1) w.heap.size pk bt [] ∧ Chg NoChg w w' := by
  have i1 : (1 : Int) ≤ (pk : Int) := by omega
  have i2 : (pk : Int) ≤ 4096 := by omega
  have i3 : (1 : Int) ≤ (bt : Int) := by omega
  have i4 : (bt : Int) ≤ 16777216 := by omega
  have fin : ∀ (n : Nat) (W : World), 1 ≤ n → n ≤ 4096 → Blk W w.heap.size (flatC Pkt.cells (List.replicate n Pkt.zero)).toArray 32 → Blk W (w.heap.size + 1) #[.int .i64 (pk : Int), .int .i64 (bt : Int), .slice (some ⟨w.heap.size, 0, none⟩) n n, .int .i64 0, .int .i64 0, .int .i64 0] 46 →
      QueueIs W (w.heap.size + 1) w.heap.size pk bt [] := fun n W hn1 hn2 hr hb =>
    ⟨by omega, h1, h2, h3, h4, by simp, by simp [sumLen], by simp, List.replicate n Pkt.zero, 0, by simpa [sumLen] using hb, hr, by simp; omega, by simp, by simp; omega, fun i hi => absurd hi (by simp)⟩
  by_cases hp : 4 ≤ pk
  · have mk : ∀ w : World, (Instr.makeSlice 28 (.int .i64 4) (.int .i64 4)).run Try.prog w = .ok (.slice (some ⟨w.heap.size, 0, none⟩) 4 4) (w.alloc (.cells (flatC Pkt.cells (List.replicate 4 Pkt.zero)).toArray 32)) :=
      fun w => run_make_rec pktT 4 (by omega) (by omega) w
    generalize hz : (flatC Pkt.cells (List.replicate 4 Pkt.zero)).toArray = Z at mk
    have HZ := hide hz
    have FIN := hide (fin 4)
    clear hz fin
    go_enter Try.func13, Try.ntmps13
    go_wp2
    go_ret
    refine ⟨rfl, FIN.out _ (by omega) (by omega) ?_ ?_, ?_⟩
    · rw [HZ.out]; exact (Blk.new w Z 32).alloc _
    · exact Blk.new' _ _ (by simp)
    · (repeat' (first | (with_reducible exact Chg.refl _ _) | (with_reducible assumption) | (with_reducible refine Chg.alloc ?_ _) | (with_reducible refine Chg.drewN ?_ _) | (with_reducible refine Chg.drew ?_) | (with_reducible refine Chg.setCell ?_ _ ?_) | (apply Or.inl; with_reducible rfl) | (apply Or.inl; simp; done) | (apply Or.inr; simp; done) | (apply Or.inr; simp; omega)))
  · have mk : ∀ w : World, (Instr.makeSlice 28 (.int .i64 (pk : Int)) (.int .i64 (pk : Int))).run Try.prog w = .ok (.slice (some ⟨w.heap.size, 0, none⟩) pk pk) (w.alloc (.cells (flatC Pkt.cells (List.replicate pk Pkt.zero)).toArray 32)) :=
      fun w => run_make_rec pktT pk (by omega) (by omega) w
    generalize hz : (flatC Pkt.cells (List.replicate pk Pkt.zero)).toArray = Z at mk
    have HZ := hide hz
    have FIN := hide (fin pk)
    clear hz fin
    go_enter Try.func13, Try.ntmps13
    go_wp2
    go_ret
    refine ⟨rfl, FIN.out _ (by omega) (by omega) ?_ ?_, ?_⟩
    · rw [HZ.out]; exact (Blk.new w Z 32).alloc _
    · exact Blk.new' _ _ (by simp)
    · (repeat' (first | (with_reducible exact Chg.refl _ _) | (with_reducible assumption) | (with_reducible refine Chg.alloc ?_ _) | (with_reducible refine Chg.drewN ?_ _) | (with_reducible refine Chg.drew ?_) | (with_reducible refine Chg.setCell ?_ _ ?_) | (apply Or.inl; with_reducible rfl) | (apply Or.inl; simp; done) | (apply Or.inr; simp; done) | (apply Or.inr; simp; omega)))

theorem grow_list {T : Type} (L : List T) (z : T) (f m : Nat) (hm : m = L.length - f) (hf : f < L.length) :
    (((List.replicate (2 * L.length) z).take 0 ++ L.drop f ++ (List.replicate (2 * L.length) z).drop (0 + (L.drop f).length)).take m ++ L.take f ++
      ((List.replicate (2 * L.length) z).take 0 ++ L.drop f ++ (List.replicate (2 * L.length) z).drop (0 + (L.drop f).length)).drop (m + (L.take f).length)) = L.drop f ++ L.take f ++ List.replicate L.length z := by
  have hA : (L.drop f).length = m := by simp; omega
  have hB : (L.take f).length = f := by simp; omega
  simp only [List.take_zero, List.nil_append, Nat.zero_add, List.drop_replicate, hA, hB]
  rw [List.take_left' hA, ← List.drop_drop, List.drop_left' hA, List.drop_replicate, show 2 * L.length - m - f = L.length by omega]

set_option maxHeartbeats 1000000 in
theorem qGrow_any {w : World} {b r : Nat} (c0 c1 c4 c5 : Value) (L : List Pkt) (f : Nat) (hf : f < L.length) (hL : L.length ≤ 4096) (hne : b ≠ r)
    (q1 : Blk w b #[c0, c1, .slice (some ⟨r, 0, none⟩) L.length L.length, .int .i64 (f : Int), c4, c5] 46) (q2 : RowBlk Pkt.cells w r L 32) :
    Calls Try.prog 31 #[.pointer (some ⟨b, 0, none⟩)] w fun e w' => e = .returned (.tuple #[]) ∧
      Blk w' b #[c0, c1, .slice (some ⟨w.heap.size, 0, none⟩) (2 * L.length) (2 * L.length), .int .i64 0, c4, c5] 46 ∧
      RowBlk Pkt.cells w' w.heap.size (L.drop f ++ L.take f ++ List.replicate L.length Pkt.zero) 32 ∧ Chg (fun k => k = b) w w' := by
  have hb := q1.lt
  have hr := q2.lt
  have d2 := q1.cell 2
  have d3 := q1.cell 3
  simp at d2 d3
  have mk : ∀ w : World, (Instr.makeSlice 28 (.int .i64 (2 * (L.length : Int))) (.int .i64 (2 * (L.length : Int)))).run Try.prog w = .ok (.slice (some ⟨w.heap.size, 0, none⟩) (2 * L.length) (2 * L.length)) (w.alloc (.cells (flatC Pkt.cells (List.replicate (2 * L.length) Pkt.zero)).toArray 32)) :=
    fun w => by simpa using run_make_rec pktT (2 * L.length) (by omega) (by omega) w
  generalize hz : (flatC Pkt.cells (List.replicate (2 * L.length) Pkt.zero)).toArray = Z at mk
  have HZ := hide hz
  have HQ := hide (And.intro q1 q2)
  have f0 : (0 : Int) ≤ (f : Int) := by omega
  have f1 : (f : Int) ≤ (L.length : Int) := by omega
  have f2 : ¬ L.length = f := by omega
  clear hz q1 q2
  go_enter Try.func31, Try.ntmps31
  go_wp2
  refine wp_region_planq 1 10 (by kernel_rfl) (by kernel_rfl) ?_ ?_
  · exact fun _ _ _ _ _ h => h
  simp only [List.take_succ_cons, List.take_zero, List.drop_succ_cons, List.drop_zero]
  repeat (quiet_step ((fail)))
  refine wpQuiet_nil ?_
  intro _ hw'
  obtain ⟨nq, hw''⟩ := hw'
  subst hw''
  refine wpList_copy_rec pktT rfl (.tmp 11) (.tmp 20) rfl _ _ _ _ _ _ rfl rfl w.heap.size 0 (List.replicate (2 * L.length) Pkt.zero) 32 ?_ (L.drop f) ?_ ?_ ?_ ?_ ?_
  · show Blk _ _ _ _
    rw [HZ.out]
    exact (Blk.new w Z 32).drewN _
  · rw [List.length_drop]
    show _ = min _ _
    omega
  · intro _; rfl
  · have := (RowBlk.row Pkt.cells_length ((HQ.out.2.alloc (.cells Z 32)).drewN nq)).drop f
    simpa using this
  · simp; omega
  intro w1 R1 C1
  have C1' : Chg (fun k => k = b) w w1 := ((((Chg.refl (fun k => k = b) w).alloc (.cells Z 32)).drewN nq).trans C1 (fun k hk => .inr (by omega)))
  have B1 := C1.blk (((HQ.out.1.alloc (.cells Z 32)).drewN nq)) (by omega)
  have R2 := C1.blk (((HQ.out.2.alloc (.cells Z 32)).drewN nq)) (by omega)
  have e2 := B1.cell 2
  have e3 := B1.cell 3
  simp at e2 e3
  obtain ⟨m, hm⟩ : ∃ m, m = L.length - f := ⟨_, rfl⟩
  have l0 : (0 : Int) ≤ (m : Int) := by omega
  have l1 : (m : Int) ≤ 2 * (L.length : Int) := by omega
  have l2 : m < 2 * L.length := by omega
  have HH := hide (And.intro C1' (And.intro B1 (And.intro R1 R2)))
  clear C1' B1 R2 R1 C1
  simp only [List.length_drop]
  rw [← hm]
  have HM := hide hm
  clear hm
  go_wp2
  refine wp_region_planq 2 12 (by kernel_rfl) (by kernel_rfl) ?_ ?_
  · exact fun _ _ _ _ _ h => h
  simp only [List.take_succ_cons, List.take_zero, List.drop_succ_cons, List.drop_zero]
  repeat (quiet_step ((fail)))
  refine wpQuiet_nil ?_
  intro _ hw'
  obtain ⟨nq, hw''⟩ := hw'
  subst hw''
  refine wpList_copy_rec pktT rfl (.tmp 24) (.tmp 33) rfl _ _ _ _ _ _ rfl rfl w.heap.size m _ 32 (HH.out.2.2.1.drewN _) (L.take f) ?_ ?_ ?_ ?_ ?_
  · rw [List.length_take]
    show _ = min _ _
    have := HM.out
    omega
  · intro _
    rw [if_neg (by omega)]
  · exact (RowBlk.row Pkt.cells_length (Blk.drewN HH.out.2.2.2 _)).take f
  · have := HM.out
    simp
    omega
  intro w2 R3 C3
  have C3' := (HH.out.1.drewN nq).trans (S' := fun k => k = w.heap.size) C3 (fun k hk => .inr (by omega))
  have B3 := C3.blk (HH.out.2.1.drewN _) (by omega)
  have e2 := B3.cell 2
  have e3 := B3.cell 3
  have ez := B3.frozen
  simp at e2 e3
  have HF := hide (And.intro C3' (And.intro B3 R3))
  clear C3' B3 R3 C3
  go_wp2
  go_end0
  refine ⟨rfl, ?_, ?_, ?_⟩
  · have B := (HF.out.2.1.set 2 (.slice (some ⟨w.heap.size, 0, none⟩) (2 * L.length) (2 * L.length))).set 3 (.int .i64 0)
    simpa using B
  · rw [← List.append_assoc, ← grow_list L Pkt.zero f m HM.out hf]
    exact (Blk.other (Blk.other HF.out.2.2 (a := ⟨b, 2, none⟩) _ (by show b ≠ _; omega)) (a := ⟨b, 3, none⟩) _ (by show b ≠ _; omega))
  · have := HF.out.1
    (repeat' (first | (with_reducible exact Chg.refl _ _) | (with_reducible assumption) | (with_reducible refine Chg.alloc ?_ _) | (with_reducible refine Chg.drewN ?_ _) | (with_reducible refine Chg.drew ?_) | (with_reducible refine Chg.setCell ?_ _ ?_) | (apply Or.inl; with_reducible rfl) | (apply Or.inl; simp; done) | (apply Or.inr; simp; done) | (apply Or.inr; simp; omega)))
end Go.Proofs.Ytbghddmjoampiaa
