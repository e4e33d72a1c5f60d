/- The queue of packets, more: Push in one piece, All, Copy. -/
import Derived.Test.YtbghddmjoampiaaQueue5
namespace Go.Proofs.Ytbghddmjoampiaa
set_option linter.unusedVariables false
open Go.RowKit

theorem qPush_ok {w : World} {b r pk bt : Nat} {l : List Pkt} (h : QueueIs w b r pk bt l) (p : Pkt) (hp : pushN pk bt l p = 0) :
    Calls Try.prog 16 #[.pointer (some ⟨b, 0, none⟩), .agg #[.int .u64 p.id, .int .i64 p.cls, .int .i64 p.len, .int .u64 p.at_]] w fun e w' => e = .returned (.int .i64 0) ∧ ∃ r', (r' = r ∨ w.heap.size ≤ r') ∧ QueueIs w' b r' pk bt (l ++ [p]) ∧ Chg (fun k => k = b ∨ k = r) w w' := by
  unfold pushN at hp
  split at hp
  · omega
  · split at hp
    · omega
    · rename_i h1 h2
      obtain ⟨ne, p1, p2, b1, b2, m1, s1, g1, L, f, q1, q2, hf, hl, hL, hr⟩ := h
      by_cases hg : l.length = L.length
      · refine (qPush_grows p ne p1 p2 b1 b2 g1 hf hg hL hr (by omega) (by omega) (by omega) (by omega) q1 q2).mono ?_
        rintro e w' ⟨he, r', hr', hq, hc⟩
        exact ⟨he, r', .inr hr', hq, hc⟩
      · refine (qPush_room p ne p1 p2 b1 b2 g1 hf (by omega) hL hr (by omega) (by omega) (by omega) (by omega) q1 q2).mono ?_
        rintro e w' ⟨he, hq, hc⟩
        exact ⟨he, r, .inl rfl, hq, hc⟩

theorem qPush_no {w : World} {b r pk bt : Nat} {l : List Pkt} (h : QueueIs w b r pk bt l) (p : Pkt) (hp : pushN pk bt l p ≠ 0) :
    Calls Try.prog 16 #[.pointer (some ⟨b, 0, none⟩), .agg #[.int .u64 p.id, .int .i64 p.cls, .int .i64 p.len, .int .u64 p.at_]] w fun e w' => e = .returned (.int .i64 (pushN pk bt l p)) ∧ Chg NoChg w w' := by
  unfold pushN at *
  split at hp
  · rename_i h1
    rw [if_pos h1]
    exact qPush_long h p h1
  · rename_i h1
    rw [if_neg h1]
    split at hp
    · rename_i h2
      rw [if_pos h2]
      exact qPush_full h p (by omega) (by omega) h2
    · exact absurd rfl hp

set_option maxHeartbeats 1000000 in
theorem qAll_any {w : World} {b r pk bt : Nat} {l : List Pkt} (h : QueueIs w b r pk bt l) :
    Calls Try.prog 14 #[.pointer (some ⟨b, 0, none⟩)] w fun e w' => ∃ v, e = .returned v ∧ Own Pkt.cells 4 32 w' v l ∧ Chg NoChg w w' ∧ ∀ k, v.ownBlock = some k → w.heap.size ≤ k := by
  have LN := hide (qLen_any h)
  have hlt := h.lt
  obtain ⟨ne, p1, p2, b1, b2, m1, s1, g1, L, f, q1, q2, hf, hl, hL, hr⟩ := h
  have HR := hide (And.intro hr (And.intro q1 q2))
  clear hr q1 q2 g1
  go_enter Try.func14, Try.ntmps14
  go_wp2_with fail
  refine LN.out.mono ?_
  rintro e w1 ⟨rfl, rfl⟩
  go_wp2
  go_loopw [3, 4, 7] (fun v n c wr => ∃ k : Nat, k ≤ l.length ∧ c = .int .i64 k ∧ Own Pkt.cells 4 32 wr v (l.take k) ∧ Chg NoChg w wr ∧ ∀ j, v.ownBlock = some j → w.heap.size ≤ j) (fun _ _ c _ => l.length - (intOf c).toNat)
  case atStart => exact ⟨0, by omega, rfl, Own.nil _ _ _ _, Chg.refl _ _, by simp [Value.ownBlock]⟩
  case round =>
    obtain ⟨k, hk, rfl, hown, hc, hv⟩ := hrel
    by_cases hlt2 : k < l.length
    · have B := hc.blk HR.out.2.1 (fun h => h)
      have R : RowBlk Pkt.cells wr r L 32 := hc.blk HR.out.2.2 (fun h => h)
      have k2 := B.cell 2
      have k3 := B.cell 3
      simp at k2 k3
      obtain ⟨pos, hpos⟩ : ∃ pos, pos = (f + k) % L.length := ⟨_, rfl⟩
      have epos : ((f : Int) + (k : Int)) % (L.length : Int) = (pos : Int) := by rw [hpos]; simp
      have hposL : pos < L.length := by rw [hpos]; exact Nat.mod_lt _ (by omega)
      have PL := hide (fun n => qPlace_any b f (k : Int) (some ⟨r, 0, none⟩) L.length L.length (wr.drewN n) k2 k3 (by omega) (by omega) (by omega) (by omega) (by omega) (by omega))
      rw [epos] at PL
      have hp : L[pos] = l[k] := by
        have := HR.out.1 k hlt2
        rw [← hpos, List.getElem?_eq_getElem hposL, List.getElem?_eq_getElem hlt2] at this
        exact Option.some.inj this
      obtain ⟨p, hpe⟩ : ∃ p, p = l[k] := ⟨_, rfl⟩
      rw [← hpe] at hp
      have s0' := R.cellAt Pkt.cells_length pos hposL 0 _ (by rw [hp]; rfl)
      have s1' := R.cellAt Pkt.cells_length pos hposL 1 _ (by rw [hp]; rfl)
      have s2' := R.cellAt Pkt.cells_length pos hposL 2 _ (by rw [hp]; rfl)
      have s3' := R.cellAt Pkt.cells_length pos hposL 3 _ (by rw [hp]; rfl)
      simp only [Nat.add_zero] at s0'
      have n0 : (0 : Int) ≤ (pos : Int) := by omega
      have n1 : (pos : Int) < (L.length : Int) := by omega
      have HK := hide (And.intro hown (And.intro hc (And.intro hv hpe)))
      clear hown hc hv hpe B R hp hpos epos
      go_wp2
      refine wp_region_planq 1 10 (by kernel_rfl) (by kernel_rfl) ?_ ?_
      · exact fun _ _ _ _ _ h => h
      simp only [List.take_succ_cons, List.take_zero, List.drop_succ_cons, List.drop_zero]
      repeat (quiet_step ((go_at_call 28; exact Calls.quiet_of (PL.out _))))
      refine wpQuiet_nil ?_
      intro _ hw'
      obtain ⟨nq, hw''⟩ := hw'
      subst hw''
      go_wp2_with (at_builtin; refine wpList_append_rec pktT rfl (.tmp 10) (.tmp 20) rfl _ (l.take k) rfl ?a1 (some ⟨wr.heap.size, 0, none⟩) 1 [p] rfl ?a2 ?a3 ?a4 ?a5 ?a6)
      case a1 => exact HK.out.1.keep (((Chg.refl NoChg wr).drewN _).alloc _) (fun _ _ h => h)
      case a2 => intro h; cases h
      case a3 => exact RowBlk.row Pkt.cells_length (l := [p]) (Blk.new' _ _ rfl)
      case a4 => simp [maxLen]; omega
      case a5 => simp; omega
      case a6 =>
        intro v' w1 hown1 hc1 hv1
        have K1 : Chg NoChg w w1 := ((HK.out.2.1.drewN nq).alloc (.cells #[.int .u64 p.id, .int .i64 p.cls, .int .i64 p.len, .int .u64 p.at_] 32)).trans hc1 fun j hj => .inr (HK.out.2.2.1 j hj)
        have K2 : ∀ j, v'.ownBlock = some j → w.heap.size ≤ j := by
          intro j hj
          rcases hv1 with h | h
          · exact HK.out.2.2.1 j (h ▸ hj)
          · rw [h] at hj
            have h3 := HK.out.2.1.size
            have := Option.some.inj hj
            omega
        have K3 : Own Pkt.cells 4 32 w1 v' (l.take (k + 1)) := by
          rw [List.take_succ_eq_append_getElem hlt2, ← HK.out.2.2.2]
          exact hown1
        have HK2 := hide (And.intro K1 (And.intro K2 K3))
        clear K1 K2 K3 hown1 hc1 hv1
        go_wp2
        go_roundw
        case rel => exact ⟨k + 1, by omega, by go_num, HK2.out.2.2, HK2.out.1, HK2.out.2.1⟩
        case measure => simp [intOf]; omega
    · have hkl : k = l.length := by omega
      have HK := hide (And.intro hown (And.intro hc (And.intro hv hkl)))
      clear hown hc hv hkl
      go_wp2
      go_ret
      refine ⟨_, rfl, ?_, HK.out.2.1, HK.out.2.2.1⟩
      have := HK.out.1
      rw [HK.out.2.2.2, List.take_length] at this
      exact this

theorem qCopy_nil (w : World) : Calls Try.prog 22 #[.pointer none] w fun e w' => e = .returned (.pointer none) ∧ w = w' := by
  go_enter Try.func22, Try.ntmps22
  go_wp2
  go_ret
  exact ⟨rfl, rfl⟩

set_option maxHeartbeats 1000000 in
theorem qCopy_any {w : World} {b r pk bt : Nat} {l : List Pkt} (h : QueueIs w b r pk bt l) :
    Calls Try.prog 22 #[.pointer (some ⟨b, 0, none⟩)] w fun e w' => e = .returned (.pointer (some ⟨w.heap.size, 0, none⟩)) ∧ QueueIs w' w.heap.size (w.heap.size + 1) pk bt l ∧ Chg NoChg w w' := by
  have hlt := h.lt
  obtain ⟨ne, p1, p2, b1, b2, m1, s1, g1, L, f, q1, q2, hf, hl, hL, hr⟩ := h
  have c0 := q1.cell 0
  have c1 := q1.cell 1
  have c2 := q1.cell 2
  have c3 := q1.cell 3
  have c4 := q1.cell 4
  have c5 := q1.cell 5
  simp at c0 c1 c2 c3 c4 c5
  have mk : ∀ w : World, (Instr.makeSlice 28 (.int .i64 (L.length : Int)) (.int .i64 (L.length : Int))).run Try.prog w = .ok (.slice (some ⟨w.heap.size, 0, none⟩) L.length L.length) (w.alloc (.cells (flatC Pkt.cells (List.replicate L.length Pkt.zero)).toArray 32)) :=
    fun w => run_make_rec pktT L.length (by omega) (by omega) w
  generalize hz : (flatC Pkt.cells (List.replicate L.length Pkt.zero)).toArray = Z at mk
  have hb := hlt.1
  have hrr := hlt.2
  have HR := hide (And.intro hr (And.intro q1 (And.intro q2 (And.intro g1 hz))))
  clear hr q1 q2 g1 hz hlt
  go_enter Try.func22, Try.ntmps22
  go_wp2
  refine wp_region_planq 0 6 (by kernel_rfl) (by kernel_rfl) ?_ ?_
  · exact fun _ _ _ _ _ h => h
  simp only [List.take_succ_cons, List.take_zero, List.drop_succ_cons, List.drop_zero]
  repeat (quiet_step ((fail)))
  refine wpQuiet_nil ?_
  intro _ hw'
  obtain ⟨nq, hw''⟩ := hw'
  subst hw''
  refine wpList_copy_rec pktT rfl (.tmp 17) (.tmp 21) rfl _ _ _ _ _ _ rfl rfl (w.heap.size + 1) 0 (List.replicate L.length Pkt.zero) 32 ?_ L ?_ ?_ ?_ ?_ ?_
  · show Blk _ _ _ _
    rw [HR.out.2.2.2.2]
    exact (Blk.new' Z 32 (by simp)).drewN _
  · show _ = min _ _
    omega
  · intro _; rfl
  · exact RowBlk.row Pkt.cells_length (Blk.drewN (Blk.alloc (Blk.alloc HR.out.2.2.1 _) _) _)
  · simp
  intro w1 R1 C1
  have e1 : (List.replicate L.length Pkt.zero).take 0 ++ L ++ (List.replicate L.length Pkt.zero).drop (0 + L.length) = L := by simp
  rw [e1] at R1
  have B1 := C1.blk (Blk.drewN (Blk.alloc (Blk.new w #[.int .i64 (pk : Int), .int .i64 (bt : Int), .slice (some ⟨w.heap.size + 1, 0, none⟩) L.length L.length, .int .i64 (f : Int), .int .i64 (l.length : Int), .int .i64 (sumLen l)] 46) (.cells Z 32)) nq) (by omega)
  have CC : Chg NoChg w w1 := ((((Chg.refl NoChg w).alloc _).alloc _).drewN _).trans C1 (fun k hk => .inr (by omega))
  have HH := hide (And.intro B1 (And.intro R1 CC))
  clear B1 R1 CC C1 e1
  go_wp2
  go_ret
  exact ⟨rfl, ⟨by omega, p1, p2, b1, b2, m1, s1, HR.out.2.2.2.1, L, f, HH.out.1, HH.out.2.1, hf, hl, hL, HR.out.1⟩, HH.out.2.2⟩
end Go.Proofs.Ytbghddmjoampiaa
