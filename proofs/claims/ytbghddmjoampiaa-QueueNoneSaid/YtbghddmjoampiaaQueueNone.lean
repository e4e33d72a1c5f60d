/- QueueNone: a nil queue, and one that nobody made, is empty, without room. For every packet. -/
import Derived.Test.YtbghddmjoampiaaQueueDo
namespace Go.Proofs.Ytbghddmjoampiaa
set_option linter.unusedVariables false
open Go.RowKit

/-- Nobody made the queue v. -/
def NoQueue (w : World) (v : Value) : Prop := v = .pointer none ∨ ∃ b, v = .pointer (some ⟨b, 0, none⟩) ∧ w.cell? ⟨b, 0, none⟩ = some (.int .i64 0)

theorem NoQueue.keep {w w1 : World} {v : Value} (h : NoQueue w v) (hc : Chg NoChg w w1) : NoQueue w1 v := by
  rcases h with h | ⟨b, h, hb⟩
  · exact .inl h
  · exact .inr ⟨b, h, hc.same hb⟩

theorem qNone_yes {w : World} {v : Value} (h : NoQueue w v) : Calls Try.prog 29 #[v] w fun e w' => e = .returned (.bool true) ∧ w = w' := by
  rcases h with rfl | ⟨b, rfl, hb⟩
  · exact qNone_nil w
  · exact qNone_any b 0 w hb

theorem qHead_no {w : World} {v : Value} (h : NoQueue w v) : Calls Try.prog 20 #[v] w fun e w' => e = .returned (.tuple #[.agg #[.int .u64 0, .int .i64 0, .int .i64 0, .int .u64 0], .bool false]) ∧ Chg NoChg w w' := by
  have N := hide (fun o => qNone_yes (h.keep ((Chg.refl NoChg w).alloc o)))
  clear h
  go_enter Try.func20, Try.ntmps20
  go_wp2_with fail
  refine (N.out _).mono ?_
  rintro e w1 ⟨rfl, rfl⟩
  go_wp2
  refine bodyPost_ret (v := .tuple #[.agg #[.int .u64 0, .int .i64 0, .int .i64 0, .int .u64 0], .bool false]) (by simp [results, Try.results20, go_sem]) rfl ⟨rfl, ?_⟩
  (repeat' (first | (with_reducible exact Chg.refl _ _) | (with_reducible assumption) | (with_reducible refine Chg.alloc ?_ _) | (with_reducible refine Chg.drewN ?_ _) | (with_reducible refine Chg.drew ?_) | (with_reducible refine Chg.setCell ?_ _ ?_) | (apply Or.inl; with_reducible rfl) | (apply Or.inl; simp; done) | (apply Or.inr; simp; done) | (apply Or.inr; simp; omega)))

theorem qPop_no {w : World} {v : Value} (h : NoQueue w v) : Calls Try.prog 15 #[v] w fun e w' => e = .returned (.tuple #[.agg #[.int .u64 0, .int .i64 0, .int .i64 0, .int .u64 0], .bool false]) ∧ Chg NoChg w w' := by
  have N := hide (fun o => qHead_no (h.keep ((Chg.refl NoChg w).alloc o)))
  clear h
  go_enter Try.func15, Try.ntmps15
  go_wp2_with fail
  refine (N.out _).mono ?_
  rintro e w1 ⟨rfl, hc⟩
  have hs : w.heap.size < w1.heap.size := by have := hc.size; simp at this; omega
  have q0 := (Blk.new w #[.int .u64 0, .int .i64 0, .int .i64 0, .int .u64 0] 32)
  have q1 := hc.blk q0 (fun h => h)
  have k0 := q1.cell 0
  have k1 := q1.cell 1
  have k2 := q1.cell 2
  have k3 := q1.cell 3
  have z := q1.frozen
  simp at k0 k1 k2 k3
  have HC := hide hc
  clear hc q0 q1
  go_wp2
  refine bodyPost_ret (v := .tuple #[.agg #[.int .u64 0, .int .i64 0, .int .i64 0, .int .u64 0], .bool false]) (by simp [results, Try.results15, go_sem, hs, k0, k1, k2, k3]) rfl ⟨rfl, ?_⟩
  have HC := HC.out
  refine ((((Chg.refl NoChg w).alloc _).trans' HC)) |> fun h => ?_
  (repeat' (first | (with_reducible exact Chg.refl _ _) | (with_reducible assumption) | (with_reducible refine Chg.alloc ?_ _) | (with_reducible refine Chg.drewN ?_ _) | (with_reducible refine Chg.drew ?_) | (with_reducible refine Chg.setCell ?_ _ ?_) | (apply Or.inl; with_reducible rfl) | (apply Or.inl; simp; done) | (apply Or.inr; simp; done) | (apply Or.inr; simp; omega)))

theorem qRoom_no {w : World} {v : Value} (h : NoQueue w v) : Calls Try.prog 21 #[v] w fun e w' => e = .returned (.tuple #[.int .i64 0, .int .i64 0]) ∧ w = w' := by
  have N := hide (qNone_yes h)
  clear h
  go_enter Try.func21, Try.ntmps21
  go_wp2_with fail
  refine N.out.mono ?_
  rintro e w1 ⟨rfl, rfl⟩
  go_wp2
  go_ret2
  exact ⟨rfl, rfl⟩

theorem qLen_no {w : World} {v : Value} (h : NoQueue w v) : Calls Try.prog 18 #[v] w fun e w' => e = .returned (.int .i64 0) ∧ w = w' := by
  have N := hide (qNone_yes h)
  clear h
  go_enter Try.func18, Try.ntmps18
  go_wp2_with fail
  refine N.out.mono ?_
  rintro e w1 ⟨rfl, rfl⟩
  go_wp2
  go_ret
  exact ⟨rfl, rfl⟩

theorem qBytes_no {w : World} {v : Value} (h : NoQueue w v) : Calls Try.prog 19 #[v] w fun e w' => e = .returned (.int .i64 0) ∧ w = w' := by
  have N := hide (qNone_yes h)
  clear h
  go_enter Try.func19, Try.ntmps19
  go_wp2_with fail
  refine N.out.mono ?_
  rintro e w1 ⟨rfl, rfl⟩
  go_wp2
  go_ret
  exact ⟨rfl, rfl⟩

theorem qAll_no {w : World} {v : Value} (h : NoQueue w v) : Calls Try.prog 14 #[v] w fun e w' => e = .returned (.slice none 0 0) ∧ w = w' := by
  have N := hide (qLen_no h)
  clear h
  go_enter Try.func14, Try.ntmps14
  go_wp2_with fail
  refine N.out.mono ?_
  rintro e w1 ⟨rfl, rfl⟩
  go_wp2
  refine wp_loop_rounds 1 ?_
  rw [rounds_succ]
  go_wp2
  go_ret
  exact ⟨rfl, rfl⟩

theorem qPush_none {w : World} {v : Value} (h : NoQueue w v) (p : Pkt) : Calls Try.prog 16 #[v, .agg #[.int .u64 p.id, .int .i64 p.cls, .int .i64 p.len, .int .u64 p.at_]] w fun e w' => e = .returned (.int .i64 1) ∧ Chg NoChg w w' := by
  have N := hide (fun o => qNone_yes (h.keep ((Chg.refl NoChg w).alloc o)))
  clear h
  go_enter Try.func16, Try.ntmps16
  go_wp2_with fail
  refine (N.out _).mono ?_
  rintro e w1 ⟨rfl, rfl⟩
  go_wp2
  go_ret
  exact ⟨rfl, (Chg.refl _ _).alloc _⟩

set_option maxRecDepth 100000 in
set_option maxHeartbeats 2000000 in
theorem none_any (p : Pkt) (W : World) :
    Calls Try.prog 7 #[.agg #[.int .u64 p.id, .int .i64 p.cls, .int .i64 p.len, .int .u64 p.at_]] W fun e w' => e = .returned (.bool true) ∧ Chg NoChg W w' := by
  have CN := hide (fun w => qCopy_nil w)
  go_enter Try.func7, Try.ntmps7
  go_wp2
  go_loopw [5] (fun i wr => ∃ k : Nat, k ≤ 2 ∧ i = .int .i64 k ∧ Chg NoChg (((W.alloc (.cells #[.int .u64 p.id, .int .i64 p.cls, .int .i64 p.len, .int .u64 p.at_] 32)).alloc
      (.cells #[.int .i64 0, .int .i64 0, .slice none 0 0, .int .i64 0, .int .i64 0, .int .i64 0] 46)).alloc (.cells #[.pointer none, .pointer (some ⟨W.heap.size + 1, 0, none⟩)] 26)) wr) (fun i _ => 2 - (intOf i).toNat)
  case atStart => exact ⟨0, by omega, rfl, Chg.refl _ _⟩
  case round =>
    obtain ⟨k, hk, rfl, hc⟩ := hrel
    have B0 := ((Blk.new W #[.int .u64 p.id, .int .i64 p.cls, .int .i64 p.len, .int .u64 p.at_] 32).alloc (.cells #[.int .i64 0, .int .i64 0, .slice none 0 0, .int .i64 0, .int .i64 0, .int .i64 0] 46)).alloc (.cells #[.pointer none, .pointer (some ⟨W.heap.size + 1, 0, none⟩)] 26)
    have B1 := hc.blk ((Blk.new' (w := W.alloc (.cells #[.int .u64 p.id, .int .i64 p.cls, .int .i64 p.len, .int .u64 p.at_] 32)) (n := W.heap.size + 1) #[.int .i64 0, .int .i64 0, .slice none 0 0, .int .i64 0, .int .i64 0, .int .i64 0] 46 (by simp)).alloc (.cells #[.pointer none, .pointer (some ⟨W.heap.size + 1, 0, none⟩)] 26)) (fun h => h)
    have B2 := hc.blk (Blk.new' (w := (W.alloc (.cells #[.int .u64 p.id, .int .i64 p.cls, .int .i64 p.len, .int .u64 p.at_] 32)).alloc (.cells #[.int .i64 0, .int .i64 0, .slice none 0 0, .int .i64 0, .int .i64 0, .int .i64 0] 46)) (n := W.heap.size + 1 + 1) #[.pointer none, .pointer (some ⟨W.heap.size + 1, 0, none⟩)] 26 (by simp)) (fun h => h)
    have q0 := B1.cell 0
    have s0 := B2.cell 0
    have s1 := B2.cell 1
    simp at q0 s0 s1
    have HC := hide (And.intro hc (And.intro B0 q0))
    clear hc B0 B1 B2
    rename_i wr
    obtain rfl | rfl | rfl : k = 0 ∨ k = 1 ∨ k = 2 := by omega
    · have NQ := hide (show NoQueue wr (.pointer none) from .inl rfl)
      clear q0
      go_wp2_with fail
      refine (qPop_no NQ.out).mono ?_
      rintro e w2 ⟨rfl, c2⟩
      have K2 := hide (HC.out.1.trans' (c2.alloc (.cells #[.int .u64 0, .int .i64 0, .int .i64 0, .int .u64 0] 32)))
      have NQ2 := hide (NQ.out.keep (c2.alloc (.cells #[.int .u64 0, .int .i64 0, .int .i64 0, .int .u64 0] 32)))
      clear c2
      go_wp2_with fail
      refine (qHead_no NQ2.out).mono ?_
      rintro e w3 ⟨rfl, c3⟩
      have K3 := hide (K2.out.trans' (c3.alloc (.cells #[.int .u64 0, .int .i64 0, .int .i64 0, .int .u64 0] 32)))
      have NQ3 := hide (NQ2.out.keep (c3.alloc (.cells #[.int .u64 0, .int .i64 0, .int .i64 0, .int .u64 0] 32)))
      clear c3
      go_wp2_with fail
      refine (qRoom_no NQ3.out).mono ?_
      rintro e w' ⟨rfl, rfl⟩
      have P3 := K3.out.blk HC.out.2.1 (fun h => h)
      have p0 := P3.cell 0
      have p1 := P3.cell 1
      have p2 := P3.cell 2
      have p3 := P3.cell 3
      have hs3 : W.heap.size < w3.heap.size := by have := K3.out.size; simp at this; omega
      simp at p0 p1 p2 p3
      clear P3
      go_wp2_with fail
      refine (qPush_none NQ3.out p).mono ?_
      rintro e w4 ⟨rfl, c4⟩
      have K4 := hide (K3.out.trans' c4)
      have NQ4 := hide (NQ3.out.keep c4)
      clear c4
      go_wp2_with fail
      refine (qLen_no NQ4.out).mono ?_
      rintro e w' ⟨rfl, rfl⟩
      go_wp2_with fail
      refine (qBytes_no NQ4.out).mono ?_
      rintro e w' ⟨rfl, rfl⟩
      go_wp2_with fail
      refine (qAll_no NQ4.out).mono ?_
      rintro e w' ⟨rfl, rfl⟩
      go_wp2
      go_roundw
      case rel => exact ⟨1, by omega, rfl, K4.out⟩
      case measure => simp [intOf]
    · have NQ := hide (show NoQueue wr (.pointer (some ⟨W.heap.size + 1, 0, none⟩)) from .inr ⟨_, rfl, q0⟩)
      clear q0
      go_wp2_with fail
      refine (qPop_no NQ.out).mono ?_
      rintro e w2 ⟨rfl, c2⟩
      have K2 := hide (HC.out.1.trans' (c2.alloc (.cells #[.int .u64 0, .int .i64 0, .int .i64 0, .int .u64 0] 32)))
      have NQ2 := hide (NQ.out.keep (c2.alloc (.cells #[.int .u64 0, .int .i64 0, .int .i64 0, .int .u64 0] 32)))
      clear c2
      go_wp2_with fail
      refine (qHead_no NQ2.out).mono ?_
      rintro e w3 ⟨rfl, c3⟩
      have K3 := hide (K2.out.trans' (c3.alloc (.cells #[.int .u64 0, .int .i64 0, .int .i64 0, .int .u64 0] 32)))
      have NQ3 := hide (NQ2.out.keep (c3.alloc (.cells #[.int .u64 0, .int .i64 0, .int .i64 0, .int .u64 0] 32)))
      clear c3
      go_wp2_with fail
      refine (qRoom_no NQ3.out).mono ?_
      rintro e w' ⟨rfl, rfl⟩
      have P3 := K3.out.blk HC.out.2.1 (fun h => h)
      have p0 := P3.cell 0
      have p1 := P3.cell 1
      have p2 := P3.cell 2
      have p3 := P3.cell 3
      have hs3 : W.heap.size < w3.heap.size := by have := K3.out.size; simp at this; omega
      simp at p0 p1 p2 p3
      clear P3
      go_wp2_with fail
      refine (qPush_none NQ3.out p).mono ?_
      rintro e w4 ⟨rfl, c4⟩
      have K4 := hide (K3.out.trans' c4)
      have NQ4 := hide (NQ3.out.keep c4)
      clear c4
      go_wp2_with fail
      refine (qLen_no NQ4.out).mono ?_
      rintro e w' ⟨rfl, rfl⟩
      go_wp2_with fail
      refine (qBytes_no NQ4.out).mono ?_
      rintro e w' ⟨rfl, rfl⟩
      go_wp2_with fail
      refine (qAll_no NQ4.out).mono ?_
      rintro e w' ⟨rfl, rfl⟩
      go_wp2
      go_roundw
      case rel => exact ⟨2, by omega, rfl, K4.out⟩
      case measure => simp [intOf]
    · go_wp2_with fail
      refine (CN.out _).mono ?_
      rintro e w' ⟨rfl, rfl⟩
      go_wp2
      go_ret
      exact ⟨rfl, ((((Chg.refl NoChg W).alloc _).alloc _).alloc _).trans' HC.out.1⟩
end Go.Proofs.Ytbghddmjoampiaa
