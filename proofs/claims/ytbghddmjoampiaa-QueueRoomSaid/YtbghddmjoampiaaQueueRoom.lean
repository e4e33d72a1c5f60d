/- QueueRoom: there are never more packets, nor bytes, than there is room for; a packet that may be is refused just if there is no room. For every room and all acts. -/
import Derived.Test.YtbghddmjoampiaaQueueDo
namespace Go.Proofs.Ytbghddmjoampiaa
set_option linter.unusedVariables false
open Go.RowKit

theorem sumLen_take_succ (l : List Pkt) (k : Nat) (h : k < l.length) : sumLen (l.take (k + 1)) = sumLen (l.take k) + l[k].len := by
  rw [List.take_succ_eq_append_getElem h, sumLen_append]
  simp [sumLen]

theorem sumLen_le : ∀ (l : List Pkt), (∀ p ∈ l, goodLen p) → ∀ k, 0 ≤ sumLen (l.take k) ∧ sumLen (l.take k) ≤ sumLen l
  | [], _, k => by simp [sumLen]
  | p :: l, h, 0 => by
    have := sumLen_nonneg (p :: l) h
    simp [sumLen] at *
    omega
  | p :: l, h, k + 1 => by
    have := sumLen_le l (fun q hq => h q (by simp [hq])) k
    have := (h p (by simp)).1
    simp only [List.take_succ_cons, sumLen]
    omega

set_option maxRecDepth 100000 in
set_option maxHeartbeats 4000000 in
theorem room_ok (l : List Act) (pk bt : Nat) (a : Option Addr) (cap : Nat) (W : World) (hl : l.length ≤ 200) (hr : RowAt Act.cells 5 W a l) (h1 : 1 ≤ pk) (h2 : pk ≤ 4096) (h3 : 1 ≤ bt) (h4 : bt ≤ 16777216) :
    Calls Try.prog 6 #[.int .i64 (pk : Int), .int .i64 (bt : Int), .slice a l.length cap] W fun e w' => e = .returned (.bool true) ∧ Chg NoChg W w' := by
  have HR := hide hr
  clear hr
  have b1 : (1 : Int) ≤ pk := by omega
  have AW := hide (l11awake_any W)
  go_enter Try.func6, Try.ntmps6
  go_wp2_with fail
  refine AW.out.mono ?_
  rintro e w0 ⟨rfl, c0⟩
  have HC0 := hide c0
  clear c0
  go_wp2_with fail
  refine (qNew_ok pk bt _ h1 h2 h3 h4).mono ?_
  rintro e w1 ⟨rfl, q1, c1⟩
  have Q1 := QTwo.start q1 (HC0.out.trans' c1) (by have := HC0.out.size; omega) HC0.out.size
  have HQ1 := hide Q1
  clear Q1 q1 c1
  go_wp2
  go_loopw [8] (fun i wr => ∃ (k r : Nat) (lq : List Pkt), k ≤ l.length ∧ i = .int .i64 k ∧ QTwo W wr (w0.heap.size + 1) r pk bt (.slice none 0 0) (.slice none 0 0) lq [] []) (fun i _ => l.length - (intOf i).toNat)
  case atStart => exact ⟨0, w0.heap.size, [], by omega, rfl, HQ1.out⟩
  case round =>
    rename_i wr
    obtain ⟨k, r, lq, hk, rfl, hq⟩ := hrel
    by_cases hlt : k < l.length
    · obtain ⟨g, o, rfl, hj⟩ := HR.out k hlt
      have j0 := hj 0 _ rfl
      have j1 := hj 1 _ rfl
      have j2 := hj 2 _ rfl
      have j3 := hj 3 _ rfl
      have j4 := hj 4 _ rfl
      simp only [Nat.add_zero] at j0
      have k0 : (0 : Int) ≤ (k : Int) := by omega
      have k1 : (k : Int) < (l.length : Int) := by omega
      generalize hact : l[k] = act at j0 j1 j2 j3 j4
      have HJ := hide (And.intro j0 (And.intro j1 (And.intro j2 (And.intro j3 j4))))
      have HQ := hide hq
      have m1 := hq.q.many
      have m2 := hq.q.held
      have m3 := sumLen_nonneg lq hq.q.good
      have e1 : decide ((pk : Int) - (lq.length : Int) < 0) = false := by simp; omega
      have e2 : decide ((bt : Int) - sumLen lq < 0) = false := by simp; omega
      have e3 : ((pk : Int) != (pk : Int)) = false := by simp
      have e4 : ((bt : Int) != (bt : Int)) = false := by simp
      clear hj hq hact j0 j1 j2 j3 j4
      obtain ⟨ap, pop⟩ := act
      go_wp2_with fail
      refine (qRoom_do HQ.out.q).mono ?_
      rintro e w2 ⟨rfl, c2⟩
      have H2 := hide (HQ.out.no c2)
      clear c2
      go_wp2_with fail
      refine (qLen_any H2.out.q).mono ?_
      rintro e w' ⟨rfl, rfl⟩
      go_wp2_with fail
      refine (qBytes_any H2.out.q).mono ?_
      rintro e w' ⟨rfl, rfl⟩
      have j0 := H2.out.c.same HJ.out.1
      have j1 := H2.out.c.same HJ.out.2.1
      have j2 := H2.out.c.same HJ.out.2.2.1
      have j3 := H2.out.c.same HJ.out.2.2.2.1
      have j4 := H2.out.c.same HJ.out.2.2.2.2
      cases pop with
      | true =>
        go_wp2_with fail
        refine (qPop_do H2.out.q).mono ?_
        rintro e w3 ⟨v3, rfl, q3, c3⟩
        have H3 := hide (H2.out.step q3 (.inl rfl) c3)
        clear q3 c3
        go_wp2
        go_roundw
        case rel => exact ⟨k + 1, r, lq.tail, by omega, by go_num, H3.out⟩
        case measure => simp [intOf]; omega
      | false =>
        have hb9 := H2.out.hb
        have hlt9 := H2.out.q.lt
        have HZ := hide (Blk.new w2 #[.int .u64 ap.id, .int .i64 ap.cls, .int .i64 ap.len, .int .u64 ap.at_] 32)
        go_wp2_with fail
        refine (qPush_do (H2.out.q.keep ((Chg.refl NoChg _).alloc _) (fun h => h) (fun h => h)) ap).mono ?_
        rintro e w3 ⟨r3, rfl, hr3, q3, c3⟩
        have hz3 : w2.heap.size < w3.heap.size := by have := c3.size; simp at this; omega
        have Z3 := c3.blk (Blk.new w2 #[.int .u64 ap.id, .int .i64 ap.cls, .int .i64 ap.len, .int .u64 ap.at_] 32) (by omega)
        have z2 := Z3.cell 2
        simp at z2
        have H3 := hide ((H2.out.no ((Chg.refl NoChg _).alloc _)).step q3 hr3 c3)
        clear q3 hr3 c3 Z3 j0 j1 j2 j3 j4
        by_cases g1 : ap.len < 1
        · have e : pushN pk bt lq ap = 100 := if_pos (.inl g1)
          rw [e]
          clear e
          go_wp2
          go_roundw
          case rel => exact ⟨k + 1, r3, pushL pk bt lq ap, by omega, by go_num, H3.out⟩
          case measure => simp [intOf]; omega
        · by_cases g2 : 65536 ≤ ap.len
          · have e : pushN pk bt lq ap = 100 := if_pos (.inr (by omega))
            rw [e]
            clear e
            go_wp2
            go_roundw
            case rel => exact ⟨k + 1, r3, pushL pk bt lq ap, by omega, by go_num, H3.out⟩
            case measure => simp [intOf]; omega
          · have d1 : decide (ap.len < 1) = false := by simp; omega
            have d2 : decide (65536 ≤ ap.len) = false := by simp; omega
            have e0 : pushN pk bt lq ap = if lq.length = pk ∨ (bt : Int) - sumLen lq < ap.len then 110 else 0 := if_neg (by omega)
            by_cases g3 : lq.length = pk
            · have e := e0.trans (if_pos (.inl g3))
              have f1 : decide (0 < (pk : Int) - (lq.length : Int)) = false := by simp; omega
              have f3 : decide (lq.length < pk) = false := by simp; omega
              have f4 : pk ≤ lq.length := by omega
              rw [e]
              clear e e0
              have G3 := hide g3
              clear g3
              go_wp2
              go_roundw
              case rel => exact ⟨k + 1, r3, pushL pk bt lq ap, by omega, by go_num, H3.out⟩
              case measure => simp [intOf]; omega
            · have f1 : decide (0 < (pk : Int) - (lq.length : Int)) = true := by simp; omega
              have f3 : decide (lq.length < pk) = true := by simp; omega
              have f4 : lq.length < pk := by omega
              by_cases g4 : (bt : Int) - sumLen lq < ap.len
              · have e := e0.trans (if_pos (.inr g4))
                have f2 : decide (ap.len ≤ (bt : Int) - sumLen lq) = false := by simp; omega
                rw [e]
                clear e e0 g3
                go_wp2
                go_roundw
                case rel => exact ⟨k + 1, r3, pushL pk bt lq ap, by omega, by go_num, H3.out⟩
                case measure => simp [intOf]; omega
              · have e := e0.trans (if_neg (by omega))
                have f2 : decide (ap.len ≤ (bt : Int) - sumLen lq) = true := by simp; omega
                rw [e]
                clear e e0 g3
                go_wp2
                go_roundw
                case rel => exact ⟨k + 1, r3, pushL pk bt lq ap, by omega, by go_num, H3.out⟩
                case measure => simp [intOf]; omega
    · have HQ := hide hq
      have m2 := hq.q.held
      have m1 := hq.q.many
      have ml := hide (sumLen_le lq hq.q.good)
      clear hq
      go_wp2_with fail
      refine (qAll_any HQ.out.q).mono ?_
      rintro e w2 ⟨v2, rfl, o2, c2, b2⟩
      have H2 := hide (HQ.out.no c2)
      obtain ⟨a2, cap2, rfl, _, hn2, hrow2⟩ := o2.row Pkt.cells_length
      have HW := hide (And.intro hn2 hrow2)
      clear o2 c2 b2 hn2 hrow2
      go_wp2
      go_loop [14, 16] (fun s i => ∃ k : Nat, k ≤ lq.length ∧ i = .int .i64 k ∧ s = .int .i64 (sumLen (lq.take k))) (fun _ i => lq.length - (intOf i).toNat)
      case atStart => exact ⟨0, by omega, rfl, rfl⟩
      case round =>
        obtain ⟨k2, hk2, rfl, rfl⟩ := hrel
        by_cases hlt2 : k2 < lq.length
        · obtain ⟨g2, o3, rfl, hj⟩ := HW.out.2 k2 hlt2
          have j2 := hj 2 _ rfl
          have es := sumLen_take_succ lq k2 hlt2
          have n1 := ml.out k2
          have n2 := ml.out (k2 + 1)
          rw [es] at n2
          have ES := hide es
          generalize sumLen (lq.take k2) = s at *
          generalize lq[k2] = pq at *
          obtain ⟨n1a, n1b⟩ := n1
          obtain ⟨n2a, n2b⟩ := n2
          have k0 : (0 : Int) ≤ (k2 : Int) := by omega
          have k1 : (k2 : Int) < (lq.length : Int) := by omega
          clear hj es
          go_wp2
          go_round
          case rel => exact ⟨k2 + 1, by omega, by go_num, by rw [ES.out]⟩
          case measure => simp [intOf]; omega
        · have hkl : k2 = lq.length := by omega
          have et : sumLen (lq.take k2) = sumLen lq := by rw [hkl, List.take_length]
          rw [et]
          clear hkl et
          go_wp2_with fail
          refine (qBytes_any H2.out.q).mono ?_
          rintro e w3 ⟨rfl, rfl⟩
          have e5 : (sumLen lq == sumLen lq) = true := by simp
          go_wp2_with fail
          refine (qLen_any H2.out.q).mono ?_
          rintro e w3 ⟨rfl, rfl⟩
          have e6 : ((lq.length : Int) == (lq.length : Int)) = true := by simp
          go_wp2
          go_ret
          exact ⟨rfl, H2.out.c⟩
end Go.Proofs.Ytbghddmjoampiaa
