/- QueueAgain: what was refused for want of room is taken when all has gone; a queue that is emptied holds nothing. For every room, all acts, every packet. -/
import Derived.Test.YtbghddmjoampiaaQueueDo
namespace Go.Proofs.Ytbghddmjoampiaa
set_option linter.unusedVariables false
open Go.RowKit

attribute [local go_sem] eqGuard_pkt stood_pkt
attribute [local go_sem ↓] run_eql_pkt run_neq_pkt

set_option maxHeartbeats 4000000 in
theorem again_ok (l : List Act) (pk bt : Nat) (p : Pkt) (a : Option Addr) (cap : Nat) (W : World) (hl : l.length ≤ 200) (hr : RowAt Act.cells 5 W a l) (h1 : 1 ≤ pk) (h2 : pk ≤ 4096) (h3 : 1 ≤ bt) (h4 : bt ≤ 16777216) :
    Calls Try.prog 5 #[.int .i64 (pk : Int), .int .i64 (bt : Int), .slice a l.length cap, .agg #[.int .u64 p.id, .int .i64 p.cls, .int .i64 p.len, .int .u64 p.at_]] W fun e w' => e = .returned (.bool true) ∧ Chg NoChg W w' := by
  have HR := hide hr
  clear hr
  have b1 : (1 : Int) ≤ pk := by omega
  have AW := hide (fun W => l11awake_any W)
  have hcW : Chg NoChg W (W.alloc (.cells #[.int .u64 p.id, .int .i64 p.cls, .int .i64 p.len, .int .u64 p.at_] 32)) := (Chg.refl _ _).alloc _
  have HP := hide (Blk.new W #[.int .u64 p.id, .int .i64 p.cls, .int .i64 p.len, .int .u64 p.at_] 32)
  obtain ⟨W1, hW1⟩ : ∃ W1, W1 = W.alloc (.cells #[.int .u64 p.id, .int .i64 p.cls, .int .i64 p.len, .int .u64 p.at_] 32) := ⟨_, rfl⟩
  rw [← hW1] at hcW HP
  have hsW : W1.heap.size = W.heap.size + 1 := by rw [hW1]; simp
  have HW1 := hide hW1
  have HS := hide hsW
  have HCW := hide hcW
  clear hW1 hsW hcW
  go_enter Try.func5, Try.ntmps5
  go_wp2_with fail
  rw [← HW1.out]
  refine (AW.out W1).mono ?_
  rintro e w0 ⟨rfl, c0⟩
  have HC0 := hide c0
  clear c0
  go_wp2_with fail
  refine (qNew_ok pk bt _ h1 h2 h3 h4).mono ?_
  rintro e w1 ⟨rfl, q1, c1⟩
  have Q1 := QTwo.start q1 (HC0.out.trans' c1) (by have := HC0.out.size; omega) HC0.out.size
  have HQ1 := hide Q1
  clear Q1 q1 c1
  go_wp2
  go_loopw [10] (fun i wr => ∃ (k r : Nat) (lq : List Pkt), k ≤ l.length ∧ i = .int .i64 k ∧ QTwo W1 wr (w0.heap.size + 1) r pk bt (.slice none 0 0) (.slice none 0 0) lq [] []) (fun i _ => l.length - (intOf i).toNat)
  case atStart => exact ⟨0, w0.heap.size, [], by omega, rfl, HQ1.out⟩
  case round =>
    obtain ⟨k, r, lq, hk, rfl, hq⟩ := hrel
    by_cases hlt : k < l.length
    · obtain ⟨g, o, rfl, hj⟩ := HR.out k hlt
      have hc := HCW.out.trans' hq.c
      have j0 := hc.same (hj 0 _ rfl)
      have j1 := hc.same (hj 1 _ rfl)
      have j2 := hc.same (hj 2 _ rfl)
      have j3 := hc.same (hj 3 _ rfl)
      have j4 := hc.same (hj 4 _ rfl)
      simp only [Nat.add_zero] at j0
      have k0 : (0 : Int) ≤ (k : Int) := by omega
      have k1 : (k : Int) < (l.length : Int) := by omega
      generalize hact : l[k] = act at j0 j1 j2 j3 j4
      have HQ := hide hq
      clear hj hq hact hc
      obtain ⟨ap, pop⟩ := act
      cases pop with
      | true =>
        go_wp2_with fail
        refine (qPop_do HQ.out.q).mono ?_
        rintro e w3 ⟨v3, rfl, q3, c3⟩
        have H3 := hide (HQ.out.step q3 (.inl rfl) c3)
        clear q3 c3
        go_wp2
        go_roundw
        case rel => exact ⟨k + 1, r, lq.tail, by omega, by go_num, H3.out⟩
        case measure => simp [intOf]; omega
      | false =>
        go_wp2_with fail
        refine (qPush_do HQ.out.q ap).mono ?_
        rintro e w3 ⟨r3, rfl, hr3, q3, c3⟩
        have H3 := hide (HQ.out.step q3 hr3 c3)
        clear hr3 q3 c3
        go_wp2
        go_roundw
        case rel => exact ⟨k + 1, r3, pushL pk bt lq ap, by omega, by go_num, H3.out⟩
        case measure => simp [intOf]; omega
    · have HQ := hide hq
      clear hq
      go_wp2_with fail
      refine (qLen_any HQ.out.q).mono ?_
      rintro e w2 ⟨rfl, rfl⟩
      rename_i wr
      go_wp2
      go_loopw [11] (fun n wr => ∃ (r : Nat) (lq : List Pkt), n = .int .i64 lq.length ∧ QTwo W1 wr (w0.heap.size + 1) r pk bt (.slice none 0 0) (.slice none 0 0) lq [] []) (fun n _ => (intOf n).toNat)
      case atStart => exact ⟨r, lq, rfl, HQ.out⟩
      case round =>
        obtain ⟨r2, lq2, rfl, hq2⟩ := hrel
        have hm := hq2.q.many
        cases lq2 with
        | cons p1 lq3 =>
          have H2 := hide hq2
          have hm3 : lq3.length ≤ 4096 := by simp at hm; omega
          clear hq2 hm
          simp only [List.length_cons, Int.natCast_add, Int.cast_ofNat_Int]
          go_wp2_with fail
          refine (qPop_some H2.out.q).mono ?_
          rintro e w3 ⟨rfl, q3, c3⟩
          have H3 := hide ((H2.out.step q3 (.inl rfl) (c3.mono fun _ h => .inl (.inl h))).no ((Chg.refl NoChg _).alloc (.cells #[.int .u64 p1.id, .int .i64 p1.cls, .int .i64 p1.len, .int .u64 p1.at_] 32)))
          clear q3 c3
          go_wp2_with fail
          refine (qLen_any H3.out.q).mono ?_
          rintro e w2 ⟨rfl, rfl⟩
          have e1 : ((lq3.length : Int) != (lq3.length : Int)) = false := by simp
          go_wp2
          go_roundw
          case rel => exact ⟨r2, lq3, rfl, H3.out⟩
          case measure => simp [intOf]
        | nil =>
          have H2 := hide hq2
          clear hq2 hm
          simp only [List.length_nil, Int.cast_ofNat_Int]
          go_wp2_with fail
          refine (qPop_none H2.out.q).mono ?_
          rintro e w3 ⟨rfl, c3⟩
          have H3 := hide ((H2.out.no c3).no ((Chg.refl NoChg _).alloc (.cells #[.int .u64 0, .int .i64 0, .int .i64 0, .int .u64 0] 32)))
          clear c3
          go_wp2_with fail
          refine (qBytes_any H3.out.q).mono ?_
          rintro e w2 ⟨rfl, rfl⟩
          have s0 : sumLen [] = 0 := rfl
          rw [s0]
          go_wp2_with fail
          refine (qAll_any H3.out.q).mono ?_
          rintro e w4 ⟨v4, rfl, o4, c4, b4⟩
          have H4 := hide (H3.out.no c4)
          obtain ⟨a4, cap4, rfl, _, hn4, hrow4⟩ := o4.row Pkt.cells_length
          clear o4 c4 b4 hn4 hrow4
          have B4 := H4.out.c.blk HP.out (fun h => h)
          have p0 := B4.cell 0
          have p1 := B4.cell 1
          have p2 := B4.cell 2
          have p3 := B4.cell 3
          simp at p0 p1 p2 p3
          clear B4
          go_wp2_with fail
          refine (qPush_do H4.out.q p).mono ?_
          rintro e w5 ⟨r5, rfl, hr5, q5, c5⟩
          have H5 := hide (H4.out.step q5 hr5 c5)
          clear hr5 q5 c5 p0 p1 p2 p3
          have B5 := H5.out.c.blk HP.out (fun h => h)
          have p0 := B5.cell 0
          have p1 := B5.cell 1
          have p2 := B5.cell 2
          have p3 := B5.cell 3
          simp at p0 p1 p2 p3
          clear B5
          have HZ := hide (H5.out.c)
          by_cases g1 : p.len < 1
          · have e : pushN pk bt [] p = 100 := if_pos (.inl g1)
            rw [e]
            go_wp2
            go_ret
            exact ⟨rfl, HCW.out.trans' HZ.out⟩
          · by_cases g2 : 65536 ≤ p.len
            · have e : pushN pk bt [] p = 100 := if_pos (.inr (by omega))
              rw [e]
              go_wp2
              go_ret
              exact ⟨rfl, HCW.out.trans' HZ.out⟩
            · have e0 : pushN pk bt [] p = if ([] : List Pkt).length = pk ∨ (bt : Int) - sumLen [] < p.len then 110 else 0 := if_neg (by omega)
              by_cases g3 : p.len ≤ (bt : Int)
              · have e : pushN pk bt [] p = 0 := e0.trans (if_neg (by simp [sumLen]; omega))
                have el : pushL pk bt [] p = [p] := by unfold pushL; rw [if_pos e]; rfl
                rw [el] at H5
                rw [e]
                clear e0 e el
                go_wp2_with fail
                refine (qHead_some (l := []) H5.out.q).mono ?_
                rintro e w6 ⟨rfl, c6⟩
                have H6 := hide (H5.out.no c6)
                have p0 := c6.same p0
                have p1 := c6.same p1
                have p2 := c6.same p2
                have p3 := c6.same p3
                have hs6 : W.heap.size < w6.heap.size := by have := H6.out.c.size; have := HS.out; omega
                clear c6
                go_wp2
                go_ret
                exact ⟨rfl, (HCW.out.trans' H6.out.c).alloc _⟩
              · have g3b : decide (p.len ≤ (bt : Int)) = false := by simpa using g3
                have e : pushN pk bt [] p = 110 := e0.trans (if_pos (.inr (by simp [sumLen]; omega)))
                have el : pushL pk bt [] p = [] := by unfold pushL; rw [if_neg (by rw [e]; decide)]
                rw [el] at H5
                rw [e]
                clear e0 e el
                go_wp2_with fail
                refine (qHead_none H5.out.q).mono ?_
                rintro e w6 ⟨rfl, c6⟩
                have H6 := hide (H5.out.no c6)
                have p0 := c6.same p0
                have p1 := c6.same p1
                have p2 := c6.same p2
                have p3 := c6.same p3
                have hs6 : W.heap.size < w6.heap.size := by have := H6.out.c.size; have := HS.out; omega
                clear c6
                go_wp2
                go_ret
                exact ⟨rfl, (HCW.out.trans' H6.out.c).alloc _⟩
end Go.Proofs.Ytbghddmjoampiaa
