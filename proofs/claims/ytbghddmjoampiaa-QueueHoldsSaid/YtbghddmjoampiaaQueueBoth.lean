/- A queue and the document's, both holding the same: what each tells; 'same' of the law. -/
import Derived.Test.YtbghddmjoampiaaRQueue2
import Derived.Test.YtbghddmjoampiaaQueueDo
import Derived.Test.YtbghddmjoampiaaQueueSame
namespace Go.Proofs.Ytbghddmjoampiaa
set_option linter.unusedVariables false
open Go.RowKit

theorem eqGuard_pkt2 : Try.prog.eqGuardType Try.prog.depth 32 = false := by kernel_rfl
theorem stood_pkt2 : Try.prog.stoodInHeld 32 = false := by kernel_rfl
attribute [local go_sem] eqGuard_pkt2 stood_pkt2
theorem run_neq_pkt2 (a b c d : Int) (w : World) : (binOp .neq 32 (.agg #[.int .u64 a, .int .i64 b, .int .i64 c, .int .u64 d]) (.agg #[.int .u64 a, .int .i64 b, .int .i64 c, .int .u64 d])).run Try.prog w = .ok (.bool false) w := by
  go_simp
attribute [local go_sem ↓] run_neq_pkt2

def headP (l : List Pkt) : Pkt := l.headD Pkt.zero
def hasB (l : List Pkt) : Bool := !l.isEmpty

theorem qHead_do {w : World} {b r pk bt : Nat} {l : List Pkt} (h : QueueIs w b r pk bt l) :
    Calls Try.prog 20 #[.pointer (some ⟨b, 0, none⟩)] w fun e w' => e = .returned (.tuple #[.agg #[.int .u64 (headP l).id, .int .i64 (headP l).cls, .int .i64 (headP l).len, .int .u64 (headP l).at_], .bool (hasB l)]) ∧ Chg NoChg w w' := by
  cases l with
  | nil => exact qHead_none h
  | cons p l => exact qHead_some h

theorem rHead_do {w : World} {d pk bt : Nat} {v : Value} {l : List Pkt} (h : RQueueIs w d v pk bt l) :
    Calls Try.prog 32 #[.pointer (some ⟨d, 0, none⟩)] w fun e w' => e = .returned (.tuple #[.agg #[.int .u64 (headP l).id, .int .i64 (headP l).cls, .int .i64 (headP l).len, .int .u64 (headP l).at_], .bool (hasB l)]) ∧ Chg NoChg w w' := by
  cases l with
  | nil => exact rHead_none h
  | cons p l => exact rHead_some h

theorem qPop_both {w : World} {b r pk bt : Nat} {l : List Pkt} (h : QueueIs w b r pk bt l) :
    Calls Try.prog 15 #[.pointer (some ⟨b, 0, none⟩)] w fun e w' => e = .returned (.tuple #[.agg #[.int .u64 (headP l).id, .int .i64 (headP l).cls, .int .i64 (headP l).len, .int .u64 (headP l).at_], .bool (hasB l)]) ∧
      QueueIs w' b r pk bt l.tail ∧ Chg (fun k => k = b) w w' := by
  cases l with
  | nil => exact (qPop_none h).mono fun e w' ⟨he, hc⟩ => ⟨he, h.keep hc (fun h => h) (fun h => h), hc.mono fun _ h => h.elim⟩
  | cons p l => exact qPop_some h

theorem rPop_both {w : World} {d pk bt : Nat} {v : Value} {l : List Pkt} (h : RQueueIs w d v pk bt l) :
    Calls Try.prog 25 #[.pointer (some ⟨d, 0, none⟩)] w fun e w' => e = .returned (.tuple #[.agg #[.int .u64 (headP l).id, .int .i64 (headP l).cls, .int .i64 (headP l).len, .int .u64 (headP l).at_], .bool (hasB l)]) ∧
      ∃ v', RQueueIs w' d v' pk bt l.tail ∧ Chg (fun k => k = d) w w' ∧ (v'.ownBlock = v.ownBlock ∨ ∀ j, v'.ownBlock = some j → w.heap.size ≤ j) := by
  cases l with
  | nil => exact (rPop_none h).mono fun e w' ⟨he, hc⟩ => ⟨he, v, h.keep hc (fun h => h) (fun _ _ h => h), hc.mono fun _ h => h.elim, .inl rfl⟩
  | cons p l => exact (rPop_some h).mono fun e w' ⟨he, v', hq, hc, hv⟩ => ⟨he, v', hq, hc, .inr hv⟩

theorem rPush_do {w : World} {d pk bt : Nat} {v : Value} {l : List Pkt} (h : RQueueIs w d v pk bt l) (p : Pkt) :
    Calls Try.prog 26 #[.pointer (some ⟨d, 0, none⟩), .agg #[.int .u64 p.id, .int .i64 p.cls, .int .i64 p.len, .int .u64 p.at_]] w fun e w' => e = .returned (.int .i64 (pushN pk bt l p)) ∧
      ∃ v', RQueueIs w' d v' pk bt (pushL pk bt l p) ∧ Chg (fun k => k = d ∨ v.ownBlock = some k) w w' ∧ (v'.ownBlock = v.ownBlock ∨ ∀ j, v'.ownBlock = some j → w.heap.size ≤ j) := by
  have no : ∀ n, pushN pk bt l p = n → n ≠ 0 → (Calls Try.prog 26 #[.pointer (some ⟨d, 0, none⟩), .agg #[.int .u64 p.id, .int .i64 p.cls, .int .i64 p.len, .int .u64 p.at_]] w fun e w' => e = .returned (.int .i64 n) ∧ Chg NoChg w w') →
      Calls Try.prog 26 #[.pointer (some ⟨d, 0, none⟩), .agg #[.int .u64 p.id, .int .i64 p.cls, .int .i64 p.len, .int .u64 p.at_]] w fun e w' => e = .returned (.int .i64 (pushN pk bt l p)) ∧
      ∃ v', RQueueIs w' d v' pk bt (pushL pk bt l p) ∧ Chg (fun k => k = d ∨ v.ownBlock = some k) w w' ∧ (v'.ownBlock = v.ownBlock ∨ ∀ j, v'.ownBlock = some j → w.heap.size ≤ j) := by
    intro n hn h0 H
    have e : pushL pk bt l p = l := if_neg (by rw [hn]; exact h0)
    rw [e, hn]
    exact H.mono fun e w' ⟨he, hc⟩ => ⟨he, v, h.keep hc (fun h => h) (fun _ _ h => h), hc.mono fun _ h => h.elim, .inl rfl⟩
  by_cases h1 : p.len < 1 ∨ 65535 < p.len
  · exact no 100 (if_pos h1) (by omega) (rPush_long h p h1)
  · by_cases h2 : l.length = pk ∨ (bt : Int) - sumLen l < p.len
    · exact no 110 ((if_neg h1).trans (if_pos h2)) (by omega) (rPush_full h p (by omega) (by omega) h2)
    · have e0 : pushN pk bt l p = 0 := (if_neg h1).trans (if_neg h2)
      have e : pushL pk bt l p = l ++ [p] := if_pos e0
      rw [e0, e]
      have hm := h.many
      refine (rPush_ok h p (by omega) (by omega) (by omega) (by omega)).mono ?_
      rintro e w' ⟨he, v', hq, hc, hv⟩
      refine ⟨he, v', hq, hc, hv.imp id ?_⟩
      rintro ⟨g, hg, hgs⟩ j hj
      rw [hg] at hj
      have := Option.some.inj hj
      omega

set_option maxHeartbeats 4000000 in
theorem l11same_any {w : World} {b r d pk bt : Nat} {v : Value} {l : List Pkt} (hq : QueueIs w b r pk bt l) (hr : RQueueIs w d v pk bt l) :
    Calls Try.prog 24 #[.pointer (some ⟨b, 0, none⟩), .pointer (some ⟨d, 0, none⟩)] w fun e w' => e = .returned (.bool true) ∧ Chg NoChg w w' := by
  have HH := hide (And.intro hq hr)
  have hm := hr.many
  have hp2 := hr.pk2
  have hb2 := hr.bt2
  have hh := hr.held
  have hn := sumLen_nonneg l hr.good
  obtain ⟨p, hp⟩ : ∃ p, p = headP l := ⟨_, rfl⟩
  obtain ⟨hs, hhs⟩ : ∃ x, x = hasB l := ⟨_, rfl⟩
  have H0 := hide (fun (w' : World) (c : Chg NoChg w w') => qHead_do (hq.keep c (fun h => h) (fun h => h)))
  have R0 := hide (fun (w' : World) (c : Chg NoChg w w') => rHead_do (hr.keep c (fun h => h) (fun _ _ h => h)))
  rw [← hp, ← hhs] at H0 R0
  have HP := hide (And.intro hp hhs)
  clear hp hhs hq hr
  go_enter Try.func24, Try.ntmps24
  go_wp2_with fail
  refine (H0.out _ (Chg.refl _ _)).mono ?_
  rintro e w1 ⟨rfl, c1⟩
  have C1 := hide c1
  clear c1
  go_wp2_with fail
  refine (R0.out _ (C1.out.alloc _)).mono ?_
  rintro e w2 ⟨rfl, c2⟩
  have C2 := hide ((C1.out.alloc (.cells #[.int .u64 p.id, .int .i64 p.cls, .int .i64 p.len, .int .u64 p.at_] 32)).trans' c2)
  have z1 := c2.blk (Blk.new w1 #[.int .u64 p.id, .int .i64 p.cls, .int .i64 p.len, .int .u64 p.at_] 32) (fun h => h)
  have Z1 := hide z1
  have s12 := z1.lt
  clear z1 c2
  have RM := hide (qRoom_any (HH.out.1.keep (C2.out.alloc (.cells #[.int .u64 p.id, .int .i64 p.cls, .int .i64 p.len, .int .u64 p.at_] 32)) (fun h => h) (fun h => h)))
  go_wp2_with fail
  refine RM.out.mono ?_
  rintro e w3 ⟨rfl, k, hk⟩
  have c3 : Chg NoChg (w2.alloc (.cells #[.int .u64 p.id, .int .i64 p.cls, .int .i64 p.len, .int .u64 p.at_] 32)) w3 := hk ▸ (Chg.refl _ _).drewN k
  clear hk
  have C3 := hide ((C2.out.alloc (.cells #[.int .u64 p.id, .int .i64 p.cls, .int .i64 p.len, .int .u64 p.at_] 32)).trans' c3)
  have x1 := c3.blk (Z1.out.alloc _) (fun h => h)
  have x2 := c3.blk (Blk.new w2 #[.int .u64 p.id, .int .i64 p.cls, .int .i64 p.len, .int .u64 p.at_] 32) (fun h => h)
  have a0 := x1.cell 0
  have a1 := x1.cell 1
  have a2 := x1.cell 2
  have a3 := x1.cell 3
  have b0 := x2.cell 0
  have b1 := x2.cell 1
  have b2 := x2.cell 2
  have b3 := x2.cell 3
  have q3 := HH.out.1.keep C3.out (fun h => h) (fun h => h)
  have r3 := HH.out.2.keep C3.out (fun h => h) (fun _ _ h => h)
  have d0 := r3.blk.cell 0
  have d1 := r3.blk.cell 1
  simp at a0 a1 a2 a3 b0 b1 b2 b3 d0 d1
  have Q1 := hide (fun n => qLen_any (q3.keep ((Chg.refl NoChg w3).drewN n) (fun h => h) (fun h => h)))
  have Q2 := hide (fun n => qBytes_any (q3.keep ((Chg.refl NoChg w3).drewN n) (fun h => h) (fun h => h)))
  have Q3 := hide (fun n => rLen_any (r3.keep ((Chg.refl NoChg w3).drewN n) (fun h => h) (fun _ _ h => h)))
  have Q4 := hide (fun n => rBytes_any (r3.keep ((Chg.refl NoChg w3).drewN n) (fun h => h) (fun _ _ h => h)))
  have HX := hide (And.intro q3 r3)
  clear c3 x1 x2 q3 r3 RM Z1
  have t1 : (hs != hs) = false := by cases hs <;> rfl
  have t2 : ((l.length : Int) != (l.length : Int)) = false := by simp
  have t3 : (sumLen l != sumLen l) = false := by simp
  have t4 : ((pk : Int) - (l.length : Int) != (pk : Int) - (l.length : Int)) = false := by simp
  have t5 : ((bt : Int) - sumLen l != (bt : Int) - sumLen l) = false := by simp
  go_wp2
  go_quiet (first | (go_at_call 18; exact quiet_same (Q1.out _)) | (go_at_call 19; exact quiet_same (Q2.out _)) | (go_at_call 33; exact quiet_same (Q3.out _)) | (go_at_call 34; exact quiet_same (Q4.out _)))
  have QA := hide (fun n => qAll_any (HX.out.1.keep ((Chg.refl NoChg w3).drewN n) (fun h => h) (fun h => h)))
  go_wp2_with fail
  refine (QA.out _).mono ?_
  rintro e w4 ⟨av, rfl, how, c4, hav⟩
  have C4 := hide ((C3.out.drewN nq).trans' c4)
  have c34 := hide (((Chg.refl NoChg w3).drewN nq).trans' c4)
  have r4 := HX.out.2.keep c34.out (fun h => h) (fun _ _ h => h)
  obtain ⟨ra, rcap, hv, _, _, rrow⟩ := r4.own.row Pkt.cells_length
  subst hv
  have d2 := r4.blk.cell 2
  simp at d2
  obtain ⟨aa, acap, hav2, _, _, arow⟩ := how.row Pkt.cells_length
  have OW : ∀ m, m < l.length → ∃ g cur, aa = some ⟨g, 0, none⟩ ∧ w.heap.size ≤ g ∧ Blk w4 g cur 32 ∧ m * 4 + 2 < cur.size := by
    intro m hm
    obtain ⟨_, h⟩ := how
    rcases h with ⟨h1, h2⟩ | ⟨g, cap, cur, h1, h2, h3, h4, h5, h6, h7⟩
    · omega
    · refine ⟨g, cur, ?_, ?_, h3, ?_⟩
      · rw [h1] at hav2
        injection hav2 with e1
        exact e1.symm
      · have : w3.heap.size ≤ g := hav g (by rw [h1]; rfl)
        have := C3.out.size
        omega
      · have : (m + 1) * 4 ≤ cap * 4 := Nat.mul_le_mul_right _ (by omega)
        omega
  subst hav2
  have SM := hide (same_any l aa ra acap rcap w4 (by omega) arow rrow)
  have HO := hide OW
  clear OW arow rrow r4 how c4 hav
  go_wp2_with fail
  refine SM.out.mono ?_
  rintro e w5 ⟨rfl, c5⟩
  have C5 := hide (C4.out.trans' c5)
  have HO5 := hide (fun m hm => (HO.out m hm).imp fun g h => h.imp fun cur h => And.intro h.1 (And.intro h.2.1 (And.intro (c5.blk h.2.2.1 (fun h => h)) h.2.2.2)))
  clear c5
  go_wp2
  go_loopw [13] (fun i wr => ∃ k : Nat, k ≤ l.length ∧ i = .int .i64 k ∧ Chg NoChg w wr ∧ ∀ m, m < l.length → ∃ g cur, aa = some ⟨g, 0, none⟩ ∧ w.heap.size ≤ g ∧ Blk wr g cur 32 ∧ m * 4 + 2 < cur.size) (fun i _ => l.length - (intOf i).toNat)
  case atStart => exact ⟨0, by omega, rfl, C5.out, HO5.out⟩
  case round =>
    obtain ⟨k, hk, rfl, hc, ho⟩ := hrel
    by_cases hlt : k < l.length
    · obtain ⟨g, cur, rfl, hg, hB, hs3⟩ := ho k hlt
      have g0 : (0 : Int) ≤ (k : Int) := by omega
      have g1 : (k : Int) < (l.length : Int) := by omega
      have f0 := hB.frozen (k * 4 + 2)
      have x0 := hB.cell (k * 4 + 2)
      obtain ⟨u, hu⟩ : ∃ u, cur[k * 4 + 2]? = some u := ⟨_, Array.getElem?_eq_getElem hs3⟩
      rw [hu] at x0
      have HC := hide (And.intro hc (And.intro ho hg))
      clear hc ho hB hu
      go_wp2
      go_roundw
      case rel =>
        refine ⟨k + 1, by omega, by go_num, HC.out.1.setCell _ (.inr HC.out.2.2), ?_⟩
        intro m hm
        obtain ⟨g', cur', e1, e2, e3, e4⟩ := HC.out.2.1 m hm
        injection e1 with e1
        injection e1 with e1 _ _
        subst e1
        exact ⟨_, _, rfl, e2, e3.set _ _, by simpa using e4⟩
      case measure => simp [intOf]; omega
    · have HC := hide hc
      clear hc ho
      go_wp2
      go_ret
      exact ⟨rfl, HC.out⟩
end Go.Proofs.Ytbghddmjoampiaa
