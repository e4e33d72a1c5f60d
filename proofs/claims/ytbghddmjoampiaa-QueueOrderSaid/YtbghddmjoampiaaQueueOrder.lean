/- QueueOrder: what goes came in that order, unaltered, each once; what is refused changes nothing; what went and what is left are all that were taken. For every room and all acts (of more than 200 the law says nothing). -/
import Derived.Test.YtbghddmjoampiaaQueueActs
namespace Go.Proofs.Ytbghddmjoampiaa
set_option linter.unusedVariables false
open Go.RowKit

set_option maxHeartbeats 4000000 in
theorem order_ok (l : List Act) (pk bt : Nat) (a : Option Addr) (cap : Nat) (W : World) (hl : l.length ≤ 200) (hr : RowAt Act.cells 5 W a l) (h1 : 1 ≤ pk) (h2 : pk ≤ 4096) (h3 : 1 ≤ bt) (h4 : bt ≤ 16777216) :
    Calls Try.prog 4 #[.int .i64 (pk : Int), .int .i64 (bt : Int), .slice a l.length cap] W fun e w' => e = .returned (.bool true) ∧ Chg NoChg W w' := by
  have HR := hide hr
  clear hr
  have b1 : (1 : Int) ≤ pk := by omega
  have AW := hide (l11awake_any W)
  go_enter Try.func4, Try.ntmps4
  go_wp2_with fail
  refine AW.out.mono ?_
  rintro e w0 ⟨rfl, c0⟩
  have HC0 := hide c0
  clear c0
  go_wp2_with fail
  refine (qNew_ok pk bt _ h1 h2 h3 h4).mono ?_
  rintro e w1 ⟨rfl, q1, c1⟩
  have c01 := HC0.out.trans' c1
  have hs01 := HC0.out.size
  have Q1 := QTwo.start q1 c01 (by omega) (by omega)
  have HQ1 := hide Q1
  clear Q1 q1 c1 c01
  go_wp2
  go_loopw [8, 9, 10] (fun vt vg i wr => ∃ (k r : Nat) (lq tk gn : List Pkt), k ≤ l.length ∧ i = .int .i64 k ∧ QTwo W wr (w0.heap.size + 1) r pk bt vt vg lq tk gn ∧ gn ++ lq = tk ∧ tk.length ≤ k) (fun _ _ i _ => l.length - (intOf i).toNat)
  case atStart => exact ⟨0, w0.heap.size, [], [], [], by omega, rfl, HQ1.out, rfl, by simp⟩
  case round =>
    obtain ⟨k, r, lq, tk, gn, hk, rfl, hq, he, htk⟩ := hrel
    by_cases hlt : k < l.length
    · obtain ⟨g, o, rfl, hj⟩ := HR.out k hlt
      have j0 := hj 0 _ rfl
      have j1 := hj 1 _ rfl
      have j2 := hj 2 _ rfl
      have j3 := hj 3 _ rfl
      have j4 := hj 4 _ rfl
      simp only [Nat.add_zero] at j0
      have k0 : (0 : Int) ≤ (k : Int) := by omega
      have k1 : (k : Int) < (l.length : Int) := by omega
      generalize hact : l[k] = act at j0 j1 j2 j3 j4
      have HQ := hide (And.intro hq (And.intro he (And.intro htk hact)))
      have HJ := hide (And.intro j0 (And.intro j1 (And.intro j2 (And.intro j3 j4))))
      clear hj hq he htk hact j0 j1 j2 j3 j4
      obtain ⟨p, pop⟩ := act
      go_wp2_with fail
      refine (qAll_any HQ.out.1.q).mono ?_
      rintro e w2 ⟨vw, rfl, ow, cw, bw⟩
      have hq2 := HQ.out.1.no cw
      have i0 := hq2.c.same HJ.out.1
      have i1 := hq2.c.same HJ.out.2.1
      have i2 := hq2.c.same HJ.out.2.2.1
      have i3 := hq2.c.same HJ.out.2.2.2.1
      have i4 := hq2.c.same HJ.out.2.2.2.2
      have HO := hide (And.intro ow (And.intro cw bw))
      obtain ⟨a2, cap2, rfl, _, hn2, hrow2⟩ := ow.row Pkt.cells_length
      have HW := hide (And.intro hq2 (And.intro hn2 hrow2))
      clear ow cw bw hq2 hn2 hrow2
      cases pop with
      | true =>
        cases lq with
        | nil =>
          go_wp2_with fail
          refine (qPop_none HW.out.1.q).mono ?_
          rintro e w3 ⟨rfl, c3⟩
          have H3 := hide (HW.out.1.no c3)
          clear c3
          go_wp2
          go_roundw
          case rel => exact ⟨k + 1, r, [], tk, gn, by omega, by go_num, H3.out.no ((Chg.refl NoChg _).alloc _), HQ.out.2.1, by have := HQ.out.2.2.1; omega⟩
          case measure => simp [intOf]; omega
        | cons p1 lq' =>
          go_wp2_with fail
          refine (qPop_some HW.out.1.q).mono ?_
          rintro e w3 ⟨rfl, q3, c3⟩
          have H3 := hide ((HW.out.1.step q3 (.inl rfl) (c3.mono fun _ h => .inl (.inl h))).no (((Chg.refl NoChg _).alloc (.cells #[.int .u64 p1.id, .int .i64 p1.cls, .int .i64 p1.len, .int .u64 p1.at_] 32)).alloc (.cells #[.int .u64 p1.id, .int .i64 p1.cls, .int .i64 p1.len, .int .u64 p1.at_] 32)))
          have hgn : gn.length ≤ 200 := by
            have h1 := congrArg List.length HQ.out.2.1
            have h2 := HQ.out.2.2.1
            simp at h1
            omega
          clear q3 c3
          go_wp2_with (at_builtin; refine wpList_append_rec pktT rfl (.tmp 51) (.tmp 53) rfl _ gn rfl H3.out.g (some ⟨w3.heap.size + 1, 0, none⟩) 1 [p1] rfl ?b2 ?b3 ?b4 ?b5 ?b6)
          case b2 => intro h; cases h
          case b3 => exact RowBlk.row Pkt.cells_length (l := [p1]) (Blk.new' _ _ (by simp))
          case b4 => simp [maxLen]; omega
          case b5 => simp; omega
          case b6 =>
            intro v' w4 hown4 hc4 hv4
            have H4 := hide (H3.out.vg hown4 hc4 (own_new hv4 (by simp)))
            clear hown4 hc4 hv4
            go_wp2
            go_roundw
            case rel => exact ⟨k + 1, r, lq', tk, gn ++ [p1], by omega, by go_num, H4.out, by have := HQ.out.2.1; simpa using this, by have := HQ.out.2.2.1; omega⟩
            case measure => simp [intOf]; omega
      | false =>
        by_cases hpn : pushN pk bt lq p = 0
        · have HPN := hide hpn
          clear hpn
          go_wp2_with fail
          refine (qPush_ok HW.out.1.q p HPN.out).mono ?_
          rintro e w3 ⟨rfl, r3, hr3, q3, c3⟩
          have H3' := HW.out.1.step q3 hr3 c3
          have i0 := H3'.c.same HJ.out.1
          have i1 := H3'.c.same HJ.out.2.1
          have i2 := H3'.c.same HJ.out.2.2.1
          have i3 := H3'.c.same HJ.out.2.2.2.1
          have H3 := hide (H3'.no ((Chg.refl NoChg _).alloc (.cells #[.int .u64 p.id, .int .i64 p.cls, .int .i64 p.len, .int .u64 p.at_] 32)))
          have htk : tk.length ≤ 199 := by have := HQ.out.2.2.1; omega
          clear q3 c3 hr3 H3'
          go_wp2_with (at_builtin; refine wpList_append_rec pktT rfl (.tmp 64) (.tmp 70) rfl _ tk rfl H3.out.t (some ⟨w3.heap.size, 0, none⟩) 1 [p] rfl ?d2 ?d3 ?d4 ?d5 ?d6)
          case d2 => intro h; cases h
          case d3 => exact RowBlk.row Pkt.cells_length (l := [p]) (Blk.new' _ _ (by simp))
          case d4 => simp [maxLen]; omega
          case d5 => simp; omega
          case d6 =>
            intro v' w4 hown4 hc4 hv4
            have H4 := hide (H3.out.vt hown4 hc4 (own_new hv4 (by simp)))
            clear hown4 hc4 hv4
            go_wp2
            go_roundw
            case rel => exact ⟨k + 1, r3, lq ++ [p], tk ++ [p], gn, by omega, by go_num, H4.out, by have := HQ.out.2.1; rw [← this]; simp, by have := HQ.out.2.2.1; simp; omega⟩
            case measure => simp [intOf]; omega
        · have HPN := hide hpn
          have hb : (pushN pk bt lq p == 0) = false := beq_eq_false_iff_ne.2 hpn
          clear hpn
          go_wp2_with fail
          refine (qPush_no HW.out.1.q p HPN.out).mono ?_
          rintro e w3 ⟨rfl, c3⟩
          have H3 := hide (And.intro (HW.out.1.no c3) c3)
          clear c3
          go_wp2_with fail
          refine (qAll_any H3.out.1.q).mono ?_
          rintro e w4 ⟨v4, rfl, o4, c4, b4⟩
          have H4 := hide (And.intro (H3.out.1.no c4) c4)
          obtain ⟨a4, cap4, rfl, _, hn4, hrow4⟩ := o4.row Pkt.cells_length
          have hlen : lq.length ≤ 4096 := by have := H3.out.1.q.many; omega
          have SM := hide (same_any lq a4 a2 cap4 cap2 w4 (by omega) hrow4 ((HW.out.2.2.keep H3.out.2 (fun _ _ h => h)).keep c4 (fun _ _ h => h)))
          clear o4 c4 b4 hn4 hrow4
          go_wp2_with fail
          refine SM.out.mono ?_
          rintro e w5 ⟨rfl, c5⟩
          have H5 := hide (H4.out.1.no c5)
          clear c5
          go_wp2
          go_roundw
          case rel => exact ⟨k + 1, r, lq, tk, gn, by omega, by go_num, H5.out, HQ.out.2.1, by have := HQ.out.2.2.1; omega⟩
          case measure => simp [intOf]; omega
    · have hkl : k = l.length := by omega
      have HQ := hide (And.intro hq (And.intro he (And.intro htk hkl)))
      have hgl : gn.length ≤ 200 := by
        have h1 := congrArg List.length he
        simp at h1
        omega
      clear hq he htk hkl
      go_wp2_with fail
      refine (qAll_any HQ.out.1.q).mono ?_
      rintro e w2 ⟨v2, rfl, o2, c2, b2⟩
      have H2 := hide (HQ.out.1.no c2)
      obtain ⟨a2, cap2, rfl, _, hn2, hrow2⟩ := o2.row Pkt.cells_length
      have hlen : lq.length ≤ 4096 := by have := H2.out.q.many; omega
      have HW := hide (And.intro hn2 hrow2)
      clear o2 c2 b2 hn2 hrow2
      go_wp2_with (at_builtin; refine wpList_append_rec pktT rfl (.tmp 77) (.tmp 79) rfl _ gn rfl H2.out.g a2 cap2 lq rfl HW.out.1 HW.out.2 ?f4 ?f5 ?f6)
      case f4 => simp [maxLen]; omega
      case f5 => omega
      case f6 =>
        intro v' w4 hown4 hc4 hv4
        rw [HQ.out.2.1] at hown4
        have H4 := hide (H2.out.vg hown4 hc4 (own_new hv4 (Nat.le_refl _)))
        obtain ⟨a4, cap4, rfl, _, hn4, hrow4⟩ := hown4.row Pkt.cells_length
        obtain ⟨a5, cap5, rfl, _, hn5, hrow5⟩ := H4.out.t.row Pkt.cells_length
        have htk : tk.length ≤ 100000 := by
          have h1 := HQ.out.2.2.1
          omega
        have SM := hide (same_any tk a4 a5 cap4 cap5 w4 htk hrow4 hrow5)
        clear hown4 hc4 hv4 hn4 hrow4 hn5 hrow5
        go_wp2_with fail
        refine SM.out.mono ?_
        rintro e w5 ⟨rfl, c5⟩
        have H5 := hide (H4.out.no c5)
        clear c5
        go_wp2
        go_ret
        exact ⟨rfl, H5.out.c⟩
end Go.Proofs.Ytbghddmjoampiaa
