/- QueueCopies: a queue and its copy, to which the same is done, hold the same; what is done to one alone changes nothing of the other one. For every room and all acts. -/
import Derived.Test.YtbghddmjoampiaaQueueDo
namespace Go.Proofs.Ytbghddmjoampiaa
set_option linter.unusedVariables false
open Go.RowKit

/-- Two queues, apart from each other, in memory of the call's own. -/
structure QPair (W wr : World) (b r b2 r2 pk bt : Nat) (lq lc : List Pkt) : Prop where
  q : QueueIs wr b r pk bt lq
  d : QueueIs wr b2 r2 pk bt lc
  c : Chg NoChg W wr
  low : W.heap.size ≤ b ∧ W.heap.size ≤ r ∧ W.heap.size ≤ b2 ∧ W.heap.size ≤ r2
  ne : b ≠ b2 ∧ b ≠ r2 ∧ r ≠ b2 ∧ r ≠ r2

theorem QPair.no {W wr wr' : World} {b r b2 r2 pk bt : Nat} {lq lc : List Pkt} (h : QPair W wr b r b2 r2 pk bt lq lc) (hc : Chg NoChg wr wr') : QPair W wr' b r b2 r2 pk bt lq lc :=
  ⟨h.q.keep hc (fun h => h) (fun h => h), h.d.keep hc (fun h => h) (fun h => h), h.c.trans' hc, h.low, h.ne⟩

theorem QPair.stepq {W wr wr' : World} {b r r' b2 r2 pk bt : Nat} {lq lq' lc : List Pkt} (h : QPair W wr b r b2 r2 pk bt lq lc) (hq : QueueIs wr' b r' pk bt lq') (hr : r' = r ∨ wr.heap.size ≤ r') (hc : Chg (fun k => k = b ∨ k = r) wr wr') : QPair W wr' b r' b2 r2 pk bt lq' lc := by
  have hs := h.c.size
  have hl := h.d.lt
  have n := h.ne
  have low := h.low
  refine ⟨hq, h.d.keep hc (by rintro (h | h) <;> omega) (by rintro (h | h) <;> omega), h.c.trans hc (by rintro k (h | h) <;> omega), ?_, ?_⟩
  · rcases hr with rfl | hr <;> omega
  · rcases hr with rfl | hr <;> omega

theorem QPair.swap {W wr : World} {b r b2 r2 pk bt : Nat} {lq lc : List Pkt} (h : QPair W wr b r b2 r2 pk bt lq lc) : QPair W wr b2 r2 b r pk bt lc lq :=
  ⟨h.d, h.q, h.c, ⟨h.low.2.2.1, h.low.2.2.2, h.low.1, h.low.2.1⟩, ⟨h.ne.1.symm, h.ne.2.2.1.symm, h.ne.2.1.symm, h.ne.2.2.2.symm⟩⟩

def actsL (pk bt : Nat) (l : List Act) (lq : List Pkt) : List Pkt := l.foldl (actL pk bt) lq
theorem actsL_succ (pk bt : Nat) (l : List Act) (lq : List Pkt) (k : Nat) (h : k < l.length) : actsL pk bt (l.take (k + 1)) lq = actL pk bt (actsL pk bt (l.take k) lq) l[k] := by
  unfold actsL
  rw [List.take_succ_eq_append_getElem h, List.foldl_append]
  rfl
theorem actL_pop (pk bt : Nat) (l : List Pkt) (p : Pkt) : actL pk bt l ⟨p, true⟩ = l.tail := rfl
theorem actL_push (pk bt : Nat) (l : List Pkt) (p : Pkt) : actL pk bt l ⟨p, false⟩ = pushL pk bt l p := rfl

set_option maxRecDepth 100000 in
set_option maxHeartbeats 4000000 in
theorem copies_ok (l m : List Act) (pk bt : Nat) (a : Option Addr) (cap : Nat) (a2 : Option Addr) (cap2 : Nat) (W : World) (hl : l.length ≤ 100) (hm : m.length ≤ 100) (hr : RowAt Act.cells 5 W a l) (hrm : RowAt Act.cells 5 W a2 m) (h1 : 1 ≤ pk) (h2 : pk ≤ 4096) (h3 : 1 ≤ bt) (h4 : bt ≤ 16777216) :
    Calls Try.prog 8 #[.int .i64 (pk : Int), .int .i64 (bt : Int), .slice a l.length cap, .slice a2 m.length cap2] W fun e w' => e = .returned (.bool true) ∧ Chg NoChg W w' := by
  have HR := hide (And.intro hr hrm)
  clear hr hrm
  have b1 : (1 : Int) ≤ pk := by omega
  have AW := hide (l11awake_any W)
  go_enter Try.func8, Try.ntmps8
  go_wp2_with fail
  refine AW.out.mono ?_
  rintro e w0 ⟨rfl, c0⟩
  have HC0 := hide c0
  clear c0
  go_wp2_with fail
  refine (qNew_ok pk bt _ h1 h2 h3 h4).mono ?_
  rintro e w1 ⟨rfl, q1, c1⟩
  have Q1 := QTwo.start q1 (HC0.out.trans' c1) (by have := HC0.out.size; omega) HC0.out.size
  have HQ1 := hide Q1
  clear Q1 q1 c1
  go_wp2
  go_loopw [11] (fun i wr => ∃ (k r : Nat) (lq : List Pkt), k ≤ l.length ∧ i = .int .i64 k ∧ QTwo W wr (w0.heap.size + 1) r pk bt (.slice none 0 0) (.slice none 0 0) lq [] []) (fun i _ => l.length - (intOf i).toNat)
  case atStart => exact ⟨0, w0.heap.size, [], by omega, rfl, HQ1.out⟩
  case round =>
    obtain ⟨k, r, lq, hk, rfl, hq⟩ := hrel
    by_cases hlt : k < l.length
    · obtain ⟨g, o, rfl, hj⟩ := HR.out.1 k hlt
      have hc := hq.c
      have j0 := hc.same (hj 0 _ rfl)
      have j1 := hc.same (hj 1 _ rfl)
      have j2 := hc.same (hj 2 _ rfl)
      have j3 := hc.same (hj 3 _ rfl)
      have j4 := hc.same (hj 4 _ rfl)
      simp only [Nat.add_zero] at j0
      have k0 : (0 : Int) ≤ (k : Int) := by omega
      have k1 : (k : Int) < (l.length : Int) := by omega
      generalize hact : l[k] = act at j0 j1 j2 j3 j4
      have HQ := hide hq
      clear hj hq hact hc
      obtain ⟨ap, pop⟩ := act
      cases pop with
      | true =>
        go_wp2_with fail
        refine (qPop_do HQ.out.q).mono ?_
        rintro e w3 ⟨v3, rfl, q3, c3⟩
        have H3 := hide (HQ.out.step q3 (.inl rfl) c3)
        clear q3 c3
        go_wp2
        go_roundw
        case rel => exact ⟨k + 1, r, lq.tail, by omega, by go_num, H3.out⟩
        case measure => simp [intOf]; omega
      | false =>
        go_wp2_with fail
        refine (qPush_do HQ.out.q ap).mono ?_
        rintro e w3 ⟨r3, rfl, hr3, q3, c3⟩
        have H3 := hide (HQ.out.step q3 hr3 c3)
        clear hr3 q3 c3
        go_wp2
        go_roundw
        case rel => exact ⟨k + 1, r3, pushL pk bt lq ap, by omega, by go_num, H3.out⟩
        case measure => simp [intOf]; omega
    · have HQ := hide hq
      clear hq
      rename_i wr
      obtain ⟨wo, hwo⟩ : ∃ wo : World, wo = wr := ⟨_, rfl⟩
      subst hwo
      go_wp2_with fail
      refine (qCopy_any HQ.out.q).mono ?_
      rintro e w2 ⟨rfl, q2, c2⟩
      have hlo := HQ.out.c.size
      have HP : QPair W w2 (w0.heap.size + 1) r wo.heap.size (wo.heap.size + 1) pk bt lq lq :=
        ⟨HQ.out.q.keep c2 (fun h => h) (fun h => h), q2, HQ.out.c.trans' c2, ⟨HQ.out.hb, HQ.out.hr, by omega, by omega⟩, by have := HQ.out.q.lt; omega⟩
      have HPP := hide HP
      clear q2 c2 HP
      go_wp2_with fail
      refine (qAll_any HPP.out.q).mono ?_
      rintro e w3 ⟨v3, rfl, o3, c3, b3⟩
      have HP3 := hide (HPP.out.no c3)
      obtain ⟨a3, cap3, rfl, _, hn3, hrow3⟩ := o3.row Pkt.cells_length
      have hlt3 := o3.lt
      have HO3 := hide (And.intro o3 (And.intro b3 (And.intro hlt3 hrow3)))
      have hml : lq.length ≤ 4096 := by have := HQ.out.q.many; omega
      clear o3 c3 b3 hn3 hlt3 hrow3
      have hoff : Off W.heap.size (.slice a3 lq.length cap3) wo.heap.size (wo.heap.size + 1) := by
        intro j hj
        have := HO3.out.2.1 j hj
        have h5 := HPP.out.d.lt
        exact ⟨by omega, by omega, by omega⟩
      have HOF := hide hoff
      clear hoff
      go_wp2
      go_loopw [13] (fun i wr => ∃ (k r2 : Nat), k ≤ m.length ∧ i = .int .i64 k ∧ QPair W wr (w0.heap.size + 1) r wo.heap.size r2 pk bt lq (actsL pk bt (m.take k) lq) ∧ Own Pkt.cells 4 32 wr (.slice a3 lq.length cap3) lq ∧ Off W.heap.size (.slice a3 lq.length cap3) wo.heap.size r2) (fun i _ => m.length - (intOf i).toNat)
      case atStart => exact ⟨0, wo.heap.size + 1, by omega, rfl, HP3.out, HO3.out.1, HOF.out⟩
      case round =>
        obtain ⟨k2, r2, hk2, rfl, hq, ho, hf⟩ := hrel
        rename_i wr
        obtain ⟨wp, hwp⟩ : ∃ wp : World, wp = wr := ⟨_, rfl⟩
        subst hwp
        by_cases hlt2 : k2 < m.length
        · obtain ⟨g, o, rfl, hj⟩ := HR.out.2 k2 hlt2
          have hc := hq.c
          have j0 := hc.same (hj 0 _ rfl)
          have j1 := hc.same (hj 1 _ rfl)
          have j2 := hc.same (hj 2 _ rfl)
          have j3 := hc.same (hj 3 _ rfl)
          have j4 := hc.same (hj 4 _ rfl)
          simp only [Nat.add_zero] at j0
          have k0 : (0 : Int) ≤ (k2 : Int) := by omega
          have k1 : (k2 : Int) < (m.length : Int) := by omega
          have HA := hide (actsL_succ pk bt m lq k2 hlt2)
          generalize hact : m[k2] = act at j0 j1 j2 j3 j4 HA
          have HQ := hide (And.intro hq.swap (And.intro ho hf))
          clear hj hq hact hc ho hf
          obtain ⟨ap, pop⟩ := act
          have keep : ∀ (w3 : World) (r3 : Nat), (r3 = r2 ∨ wp.heap.size ≤ r3) → Chg (fun k => k = wo.heap.size ∨ k = r2) wp w3 → Own Pkt.cells 4 32 w3 (.slice a3 lq.length cap3) lq ∧ Off W.heap.size (.slice a3 lq.length cap3) wo.heap.size r3 := by
            intro w3 r3 hr3 c3
            refine ⟨HQ.out.2.1.keep c3 (fun j hj h => ?_), fun j hj => ?_⟩
            · have := HQ.out.2.2 j hj
              rcases h with h | h <;> omega
            · have h6 := HQ.out.2.2 j hj
              have h7 := HQ.out.2.1.lt j hj
              rcases hr3 with rfl | h <;> omega
          have KEEP := hide keep
          clear keep
          cases pop with
          | true =>
            rw [actL_pop] at HA
            go_wp2_with fail
            refine (qPop_do HQ.out.1.q).mono ?_
            rintro e w3 ⟨v3, rfl, q3, c3⟩
            have H3 := hide (And.intro (HQ.out.1.stepq q3 (.inl rfl) c3).swap (KEEP.out w3 r2 (.inl rfl) c3))
            rw [← HA.out] at H3
            clear q3 c3
            go_wp2
            go_roundw
            case rel => exact ⟨k2 + 1, r2, by omega, by go_num, H3.out.1, H3.out.2.1, H3.out.2.2⟩
            case measure => simp [intOf]; omega
          | false =>
            rw [actL_push] at HA
            go_wp2_with fail
            refine (qPush_do HQ.out.1.q ap).mono ?_
            rintro e w3 ⟨r3, rfl, hr3, q3, c3⟩
            have H3 := hide (And.intro (HQ.out.1.stepq q3 hr3 c3).swap (KEEP.out w3 r3 hr3 c3))
            rw [← HA.out] at H3
            clear hr3 q3 c3
            go_wp2
            go_roundw
            case rel => exact ⟨k2 + 1, r3, by omega, by go_num, H3.out.1, H3.out.2.1, H3.out.2.2⟩
            case measure => simp [intOf]; omega
        · have hkl : k2 = m.length := by omega
          rw [hkl, List.take_length] at hq
          have HQ := hide (And.intro hq ho)
          clear hq ho hf
          go_wp2_with fail
          refine (qAll_any HQ.out.1.q).mono ?_
          rintro e w4 ⟨v4, rfl, o4, c4, b4⟩
          have H4 := hide (HQ.out.1.no c4)
          obtain ⟨a4, cap4, rfl, _, hn4, hrow4⟩ := o4.row Pkt.cells_length
          obtain ⟨a3', cap3', e3, _, _, hrow3⟩ := (HQ.out.2.keep c4 (fun _ _ h => h)).row Pkt.cells_length
          simp only [Value.slice.injEq] at e3
          obtain ⟨e3a, _, e3c⟩ := e3
          have SM := hide (same_any lq a4 a3' cap4 cap3' w4 (by omega) hrow4 hrow3)
          rw [← e3a, ← e3c] at SM
          clear o4 c4 b4 hn4 hrow4 hrow3 e3a e3c hkl
          go_wp2_with fail
          refine SM.out.mono ?_
          rintro e w5 ⟨rfl, c5⟩
          have H5 := hide (H4.out.no c5)
          clear c5
          go_wp2
          go_loopw [14] (fun i wr => ∃ (k r3 : Nat), k ≤ m.length ∧ i = .int .i64 k ∧ QPair W wr (w0.heap.size + 1) r3 wo.heap.size r2 pk bt (actsL pk bt (m.take k) lq) (actsL pk bt m lq)) (fun i _ => m.length - (intOf i).toNat)
          case atStart => exact ⟨0, r, by omega, rfl, H5.out⟩
          case round =>
            obtain ⟨k3, r3, hk3, rfl, hq⟩ := hrel
            by_cases hlt3 : k3 < m.length
            · obtain ⟨g, o, rfl, hj⟩ := HR.out.2 k3 hlt3
              have hc := hq.c
              have j0 := hc.same (hj 0 _ rfl)
              have j1 := hc.same (hj 1 _ rfl)
              have j2 := hc.same (hj 2 _ rfl)
              have j3 := hc.same (hj 3 _ rfl)
              have j4 := hc.same (hj 4 _ rfl)
              simp only [Nat.add_zero] at j0
              have k0 : (0 : Int) ≤ (k3 : Int) := by omega
              have k1 : (k3 : Int) < (m.length : Int) := by omega
              have HA := hide (actsL_succ pk bt m lq k3 hlt3)
              generalize hact : m[k3] = act at j0 j1 j2 j3 j4 HA
              have HQ2 := hide hq
              clear hj hq hact hc
              obtain ⟨ap, pop⟩ := act
              cases pop with
              | true =>
                rw [actL_pop] at HA
                go_wp2_with fail
                refine (qPop_do HQ2.out.q).mono ?_
                rintro e w6 ⟨v6, rfl, q6, c6⟩
                have H6 := hide (HQ2.out.stepq q6 (.inl rfl) c6)
                rw [← HA.out] at H6
                clear q6 c6
                go_wp2
                go_roundw
                case rel => exact ⟨k3 + 1, r3, by omega, by go_num, H6.out⟩
                case measure => simp [intOf]; omega
              | false =>
                rw [actL_push] at HA
                go_wp2_with fail
                refine (qPush_do HQ2.out.q ap).mono ?_
                rintro e w6 ⟨r6, rfl, hr6, q6, c6⟩
                have H6 := hide (HQ2.out.stepq q6 hr6 c6)
                rw [← HA.out] at H6
                clear hr6 q6 c6
                go_wp2
                go_roundw
                case rel => exact ⟨k3 + 1, r6, by omega, by go_num, H6.out⟩
                case measure => simp [intOf]; omega
            · have hkl : k3 = m.length := by omega
              rw [hkl, List.take_length] at hq
              generalize actsL pk bt m lq = lf at hq
              have HQ2 := hide hq
              have hlf : lf.length ≤ 4096 := by have := hq.q.many; omega
              clear hq hkl
              go_wp2_with fail
              refine (qAll_any HQ2.out.q).mono ?_
              rintro e w6 ⟨v6, rfl, o6, c6, b6⟩
              have H6 := hide (HQ2.out.no c6)
              have HO6 := hide o6
              clear o6 c6 b6
              go_wp2_with fail
              refine (qAll_any H6.out.d).mono ?_
              rintro e w7 ⟨v7, rfl, o7, c7, b7⟩
              have H7 := hide (H6.out.no c7)
              obtain ⟨a6, cap6, rfl, _, _, hrow6⟩ := (HO6.out.keep c7 (fun _ _ h => h)).row Pkt.cells_length
              obtain ⟨a7, cap7, rfl, _, _, hrow7⟩ := o7.row Pkt.cells_length
              have SM2 := hide (same_any lf a6 a7 cap6 cap7 w7 (by omega) hrow6 hrow7)
              clear o7 c7 b7 hrow6 hrow7
              go_wp2_with fail
              refine SM2.out.mono ?_
              rintro e w8 ⟨rfl, c8⟩
              have H8 := hide (H7.out.no c8)
              clear c8
              go_wp2_with fail
              refine (qBytes_any H8.out.q).mono ?_
              rintro e w9 ⟨rfl, rfl⟩
              go_wp2_with fail
              refine (qBytes_any H8.out.d).mono ?_
              rintro e w9 ⟨rfl, rfl⟩
              have e9 : (sumLen lf == sumLen lf) = true := by simp
              go_wp2
              go_ret
              exact ⟨rfl, H8.out.c⟩
end Go.Proofs.Ytbghddmjoampiaa
