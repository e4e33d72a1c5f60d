/- QueueHolds: whatever comes and goes: what is told, and what the queue holds behind each, is what the chapter says; a copy goes on alone. -/
import Derived.Test.YtbghddmjoampiaaQueueBoth
import Derived.Deep.RegionHeld3
namespace Go.Proofs.Ytbghddmjoampiaa
set_option linter.unusedVariables false
open Go.RowKit

attribute [local go_sem] eqGuard_pkt2 stood_pkt2
attribute [local go_sem ↓] run_neq_pkt2

/-- A queue and the document's, apart from each other, in memory of the call's own. -/
structure QBoth (W wr : World) (b r d : Nat) (v : Value) (pk bt : Nat) (lq lr : List Pkt) : Prop where
  q : QueueIs wr b r pk bt lq
  s : RQueueIs wr d v pk bt lr
  c : Chg NoChg W wr
  low : W.heap.size ≤ b ∧ W.heap.size ≤ r ∧ W.heap.size ≤ d
  lowv : ∀ j, v.ownBlock = some j → W.heap.size ≤ j
  ne : b ≠ d ∧ r ≠ d
  nev : ∀ j, v.ownBlock = some j → j ≠ b ∧ j ≠ r

theorem QBoth.no {W wr wr' : World} {b r d pk bt : Nat} {v : Value} {lq lr : List Pkt} (h : QBoth W wr b r d v pk bt lq lr) (hc : Chg NoChg wr wr') : QBoth W wr' b r d v pk bt lq lr :=
  ⟨h.q.keep hc (fun h => h) (fun h => h), h.s.keep hc (fun h => h) (fun _ _ h => h), h.c.trans' hc, h.low, h.lowv, h.ne, h.nev⟩

theorem QBoth.stepq {W wr wr' : World} {b r r' d pk bt : Nat} {v : Value} {lq lq' lr : List Pkt} (h : QBoth W wr b r d v pk bt lq lr) (hq : QueueIs wr' b r' pk bt lq') (hr : r' = r ∨ wr.heap.size ≤ r') (hc : Chg (fun k => k = b ∨ k = r) wr wr') : QBoth W wr' b r' d v pk bt lq' lr := by
  have hs := h.c.size
  have hd := h.s.blk.lt
  have n := h.ne
  have low := h.low
  have hv := h.s.own.lt
  refine ⟨hq, h.s.keep hc (by rintro (h | h) <;> omega) (fun j hj => by have := h.nev j hj; rintro (h | h) <;> omega), h.c.trans hc (by rintro k (h | h) <;> omega), ?_, h.lowv, ?_, fun j hj => ?_⟩
  · rcases hr with rfl | hr <;> omega
  · rcases hr with rfl | hr <;> omega
  · have n1 := h.nev j hj
    have n2 := hv j hj
    rcases hr with rfl | hr <;> omega

theorem QBoth.stepr {W wr wr' : World} {b r d pk bt : Nat} {v v' : Value} {lq lr lr' : List Pkt} (h : QBoth W wr b r d v pk bt lq lr) (hq : RQueueIs wr' d v' pk bt lr') (hc : Chg (fun k => k = d ∨ v.ownBlock = some k) wr wr') (hv : v'.ownBlock = v.ownBlock ∨ ∀ j, v'.ownBlock = some j → wr.heap.size ≤ j) : QBoth W wr' b r d v' pk bt lq lr' := by
  have hs := h.c.size
  have hl := h.q.lt
  have n := h.ne
  have low := h.low
  refine ⟨h.q.keep hc ?_ ?_, hq, h.c.trans hc ?_, low, fun j hj => ?_, n, fun j hj => ?_⟩
  · rintro (e | e)
    · omega
    · exact (h.nev _ e).1 rfl
  · rintro (e | e)
    · omega
    · exact (h.nev _ e).2 rfl
  · rintro k (e | e)
    · omega
    · exact .inr (h.lowv k e)
  · rcases hv with e | e
    · exact h.lowv j (e ▸ hj)
    · have := e j hj
      omega
  · rcases hv with e | e
    · exact h.nev j (e ▸ hj)
    · have := e j hj
      omega

theorem QBoth.pushq {W w : World} {b r d pk bt : Nat} {v : Value} {lq lr : List Pkt} (h : QBoth W w b r d v pk bt lq lr) (p : Pkt) :
    Calls Try.prog 16 #[.pointer (some ⟨b, 0, none⟩), .agg #[.int .u64 p.id, .int .i64 p.cls, .int .i64 p.len, .int .u64 p.at_]] w fun e w' => e = .returned (.int .i64 (pushN pk bt lq p)) ∧ Chg NoChg W w' ∧ ∃ r', QBoth W w' b r' d v pk bt (pushL pk bt lq p) lr :=
  (qPush_do h.q p).mono fun e w' ⟨r', he, hr, hq, hc⟩ => have H := h.stepq hq hr hc; ⟨he, H.c, r', H⟩

theorem QBoth.pushr {W w : World} {b r d pk bt : Nat} {v : Value} {lq lr : List Pkt} (h : QBoth W w b r d v pk bt lq lr) (p : Pkt) :
    Calls Try.prog 26 #[.pointer (some ⟨d, 0, none⟩), .agg #[.int .u64 p.id, .int .i64 p.cls, .int .i64 p.len, .int .u64 p.at_]] w fun e w' => e = .returned (.int .i64 (pushN pk bt lr p)) ∧ Chg NoChg W w' ∧ ∃ v', QBoth W w' b r d v' pk bt lq (pushL pk bt lr p) :=
  (rPush_do h.s p).mono fun e w' ⟨he, v', hq, hc, hv⟩ => have H := h.stepr hq hc hv; ⟨he, H.c, v', H⟩

theorem QBoth.popq {W w : World} {b r d pk bt : Nat} {v : Value} {lq lr : List Pkt} (h : QBoth W w b r d v pk bt lq lr) :
    Calls Try.prog 15 #[.pointer (some ⟨b, 0, none⟩)] w fun e w' => e = .returned (.tuple #[.agg #[.int .u64 (headP lq).id, .int .i64 (headP lq).cls, .int .i64 (headP lq).len, .int .u64 (headP lq).at_], .bool (hasB lq)]) ∧ QBoth W w' b r d v pk bt lq.tail lr :=
  (qPop_both h.q).mono fun e w' ⟨he, hq, hc⟩ => ⟨he, h.stepq hq (.inl rfl) (hc.mono fun k hk => .inl (.inl hk))⟩

theorem QBoth.popr {W w : World} {b r d pk bt : Nat} {v : Value} {lq lr : List Pkt} (h : QBoth W w b r d v pk bt lq lr) :
    Calls Try.prog 25 #[.pointer (some ⟨d, 0, none⟩)] w fun e w' => e = .returned (.tuple #[.agg #[.int .u64 (headP lr).id, .int .i64 (headP lr).cls, .int .i64 (headP lr).len, .int .u64 (headP lr).at_], .bool (hasB lr)]) ∧ Chg (fun k => k = d) w w' ∧ ∃ v', QBoth W w' b r d v' pk bt lq lr.tail :=
  (rPop_both h.s).mono fun e w' ⟨he, v', hq, hc, hv⟩ => ⟨he, hc, v', h.stepr hq (hc.mono fun k hk => .inl (.inl hk)) hv⟩

theorem QBoth.same {W w : World} {b r d pk bt : Nat} {v : Value} {l : List Pkt} (h : QBoth W w b r d v pk bt l l) :
    Calls Try.prog 24 #[.pointer (some ⟨b, 0, none⟩), .pointer (some ⟨d, 0, none⟩)] w fun e w' => e = .returned (.bool true) ∧ QBoth W w' b r d v pk bt l l :=
  (l11same_any h.q h.s).mono fun e w' ⟨he, hc⟩ => ⟨he, h.no hc⟩

/-- A copy that goes on alone, beside the two. -/
structure QCopy (wo wr : World) (b r pk bt : Nat) (l : List Pkt) : Prop where
  q : QueueIs wr b r pk bt l
  c : Chg NoChg wo wr
  low : wo.heap.size ≤ b ∧ wo.heap.size ≤ r

theorem QCopy.pop {wo w : World} {b r pk bt : Nat} {l : List Pkt} (h : QCopy wo w b r pk bt l) :
    Calls Try.prog 15 #[.pointer (some ⟨b, 0, none⟩)] w fun e w' => e = .returned (.tuple #[.agg #[.int .u64 (headP l).id, .int .i64 (headP l).cls, .int .i64 (headP l).len, .int .u64 (headP l).at_], .bool (hasB l)]) ∧ QCopy wo w' b r pk bt l.tail :=
  (qPop_both h.q).mono fun e w' ⟨he, hq, hc⟩ => ⟨he, hq, h.c.trans hc (fun k hk => .inr (by have := h.low; omega)), h.low⟩

theorem QCopy.push {wo w : World} {b r pk bt : Nat} {l : List Pkt} (h : QCopy wo w b r pk bt l) (p : Pkt) :
    Calls Try.prog 16 #[.pointer (some ⟨b, 0, none⟩), .agg #[.int .u64 p.id, .int .i64 p.cls, .int .i64 p.len, .int .u64 p.at_]] w fun e w' => e = .returned (.int .i64 (pushN pk bt l p)) ∧ ∃ r', QCopy wo w' b r' pk bt (pushL pk bt l p) :=
  (qPush_do h.q p).mono fun e w' ⟨r', he, hr, hq, hc⟩ => ⟨he, r', hq, h.c.trans hc (by have := h.low; rintro k (h | h) <;> omega), by have := h.low; have := h.c.size; rcases hr with rfl | hr <;> omega⟩

set_option maxRecDepth 100000 in
set_option maxHeartbeats 4000000 in
theorem holds_ok (l : List Act) (at_ : Int) (pk bt : Nat) (a : Option Addr) (cap : Nat) (W : World) (hl : l.length ≤ 150) (hr : RowAt Act.cells 5 W a l) (h1 : 1 ≤ pk) (h2 : pk ≤ 4096) (h3 : 1 ≤ bt) (h4 : bt ≤ 16777216) :
    Calls Try.prog 9 #[.int .i64 (pk : Int), .int .i64 (bt : Int), .slice a l.length cap, .int .i64 at_] W fun e w' => e = .returned (.bool true) ∧ Chg NoChg W w' := by
  have HR := hide hr
  clear hr
  have b1 : (1 : Int) ≤ pk := by omega
  go_enter Try.func9, Try.ntmps9
  go_wp2_with fail
  refine (qNew_ok pk bt _ h1 h2 h3 h4).mono ?_
  rintro e w1 ⟨rfl, q1, c1⟩
  have H1 := hide (And.intro q1 c1)
  clear q1 c1
  go_wp2_with fail
  refine (rNew_ok pk bt _ h1 h2 h3 h4).mono ?_
  rintro e w2 ⟨rfl, q2, c2⟩
  have HQ0 : QBoth W w2 (W.heap.size + 1) W.heap.size w1.heap.size (.slice none 0 0) pk bt [] [] := by
    have := H1.out.2.size
    have := H1.out.1.lt
    exact ⟨H1.out.1.keep c2 (fun h => h) (fun h => h), q2, H1.out.2.trans' c2, by omega, fun j hj => by simp [Value.ownBlock] at hj, by omega, fun j hj => by simp [Value.ownBlock] at hj⟩
  have HQ1 := hide HQ0
  clear q2 c2 HQ0
  go_wp2
  go_loopw [11] (fun i wr => ∃ (k r : Nat) (v : Value) (lq : List Pkt), k ≤ l.length ∧ i = .int .i64 k ∧ QBoth W wr (W.heap.size + 1) r w1.heap.size v pk bt lq lq) (fun i _ => l.length - (intOf i).toNat)
  case atStart => exact ⟨0, _, _, _, by omega, rfl, HQ1.out⟩
  case round =>
    obtain ⟨k, r, v, lq, hk, rfl, hq⟩ := hrel
    rename_i wr
    obtain ⟨wo, hwo⟩ : ∃ wo : World, wo = wr := ⟨_, rfl⟩
    subst hwo
    have HQ := hide hq
    clear hq
    by_cases hlt : k < l.length
    · obtain ⟨g, o, rfl, hj⟩ := HR.out k hlt
      have k0 : (0 : Int) ≤ (k : Int) := by omega
      have k1 : (k : Int) < (l.length : Int) := by omega
      generalize l[k] = act at hj
      obtain ⟨ap, pop⟩ := act
      have HJ := hide hj
      clear hj
      by_cases hat : (k : Int) = at_
      · subst hat
        go_wp2_with fail
        refine (qCopy_any HQ.out.q).mono ?_
        rintro e w2 ⟨rfl, q2, c2⟩
        have HC2 := hide (And.intro q2 c2)
        clear q2 c2
        go_wp2_with fail
        refine (l11same_any HC2.out.1 (HQ.out.no HC2.out.2).s).mono ?_
        rintro e w3 ⟨rfl, c3⟩
        have HC3 : QCopy wo w3 wo.heap.size (wo.heap.size + 1) pk bt lq := ⟨HC2.out.1.keep c3 (fun h => h) (fun h => h), HC2.out.2.trans' c3, by omega⟩
        have HC := hide HC3
        clear c3 HC3 HC2
        go_wp2
        go_loopw [13] (fun i wr => ∃ (k2 r2 : Nat) (lc : List Pkt), k2 ≤ l.length ∧ i = .int .i64 k2 ∧ QCopy wo wr wo.heap.size r2 pk bt lc) (fun i _ => l.length - (intOf i).toNat)
        case atStart => exact ⟨k, _, _, by omega, rfl, HC.out⟩
        case round =>
          obtain ⟨k2, r2, lc, hk2, rfl, hc⟩ := hrel
          rename_i wr
          obtain ⟨wp, hwp⟩ : ∃ wp : World, wp = wr := ⟨_, rfl⟩
          subst hwp
          have HC2 := hide hc
          clear hc
          by_cases hlt2 : k2 < l.length
          · obtain ⟨g2, o2, eg, hj2⟩ := HR.out k2 hlt2
            injection eg with eg
            injection eg with eg1 eg2
            subst eg1 eg2
            have m0 : (0 : Int) ≤ (k2 : Int) := by omega
            have m1 : (k2 : Int) < (l.length : Int) := by omega
            generalize l[k2] = act2 at hj2
            obtain ⟨ap2, pop2⟩ := act2
            have HJ2 := hide hj2
            clear hj2
            go_wp2_with fail
            refine (HC2.out.pop).mono ?_
            rintro e w4 ⟨rfl, h4⟩
            have H4 := hide h4
            have e0 := (HQ.out.c.trans' h4.c).same (HJ2.out 0 _ rfl)
            have e1 := (HQ.out.c.trans' h4.c).same (HJ2.out 1 _ rfl)
            have e2 := (HQ.out.c.trans' h4.c).same (HJ2.out 2 _ rfl)
            have e3 := (HQ.out.c.trans' h4.c).same (HJ2.out 3 _ rfl)
            simp only [Nat.add_zero] at e0
            clear h4
            go_wp2_with fail
            refine (H4.out.push ap2).mono ?_
            rintro e w5 ⟨rfl, r5, h5⟩
            have H5 := hide h5
            clear h5 e0 e1 e2 e3
            go_wp2
            go_roundw
            case rel => exact ⟨k2 + 1, _, _, by omega, by go_num, H5.out⟩
            case measure => simp [intOf]; omega
          · have HQ2 := hide (HQ.out.no HC2.out.c)
            have e0 := HQ2.out.c.same (HJ.out 0 _ rfl)
            have e1 := HQ2.out.c.same (HJ.out 1 _ rfl)
            have e2 := HQ2.out.c.same (HJ.out 2 _ rfl)
            have e3 := HQ2.out.c.same (HJ.out 3 _ rfl)
            have e4 := HQ2.out.c.same (HJ.out 4 _ rfl)
            simp only [Nat.add_zero] at e0
            cases pop with
            | true =>
              go_wp2_with fail
              refine (HQ2.out.popq).mono ?_
              rintro e w3 ⟨rfl, h3⟩
              have H3 := hide h3
              have hd3 := h3.s.blk.lt
              clear h3 e0 e1 e2 e3 e4
              go_wp2_with fail
              refine ((H3.out.no ((Chg.refl NoChg w3).alloc _)).popr).mono ?_
              rintro e w4 ⟨rfl, c4, v4, h4⟩
              have z1 := c4.blk (Blk.new w3 #[.int .u64 (headP lq).id, .int .i64 (headP lq).cls, .int .i64 (headP lq).len, .int .u64 (headP lq).at_] 32) (by omega)
              have a0 := z1.cell 0
              have a1 := z1.cell 1
              have a2 := z1.cell 2
              have a3 := z1.cell 3
              have s34 := z1.lt
              simp at a0 a1 a2 a3
              have H4 := hide h4
              clear h4 c4 z1
              have t1 : (hasB lq != hasB lq) = false := by cases hasB lq <;> rfl
              go_wp2_with fail
              refine ((H4.out.no ((Chg.refl NoChg w4).alloc _)).same).mono ?_
              rintro e w5 ⟨rfl, h5⟩
              have H5 := hide h5
              clear h5
              go_wp2
              go_roundw
              case rel => exact ⟨k + 1, _, _, _, by omega, by go_num, H5.out⟩
              case measure => simp [intOf]; omega
            | false =>
              have KEEP := hide (fun (w' : World) (c : Chg NoChg W w') => And.intro (c.same (HJ.out 0 _ rfl)) (And.intro (c.same (HJ.out 1 _ rfl)) (And.intro (c.same (HJ.out 2 _ rfl)) (c.same (HJ.out 3 _ rfl)))))
              simp only [Nat.add_zero] at KEEP
              have PQ := hide (fun (w' : World) (c : Chg NoChg wp w') => (HQ2.out.no c).pushq ap)
              have t1 : (pushN pk bt lq ap != pushN pk bt lq ap) = false := by simp
              clear e0 e1 e2 e3
              go_wp2
              go_region_held3 (fun w' : World => w'.cell? ⟨g, o + k * 5, none⟩ = some (.int .u64 ap.id) ∧ w'.cell? ⟨g, o + k * 5 + 1, none⟩ = some (.int .i64 ap.cls) ∧ w'.cell? ⟨g, o + k * 5 + 2, none⟩ = some (.int .i64 ap.len) ∧ w'.cell? ⟨g, o + k * 5 + 3, none⟩ = some (.int .u64 ap.at_)) (first | exact KEEP.out _ (by assumption) | exact KEEP.out _ HQ2.out.c.drew) (first | (go_at_call 16; refine (PQ.out _ ((Chg.refl _ _).drew)).mono ?_; rintro e w3 ⟨rfl, c3, r3, h3⟩) | (go_at_call 26; refine (h3.pushr ap).mono ?_; rintro e w4 ⟨rfl, c4, v4, h4⟩))
              have H4 := hide h4
              clear h4
              go_wp2_with fail
              refine (H4.out.same).mono ?_
              rintro e w5 ⟨rfl, h5⟩
              have H5 := hide h5
              clear h5
              go_wp2
              go_roundw
              case rel => exact ⟨k + 1, _, _, _, by omega, by go_num, H5.out⟩
              case measure => simp [intOf]; omega
      · have hat2 : ((k : Int) == at_) = false := by simp; exact hat
        have e0 := HQ.out.c.same (HJ.out 0 _ rfl)
        have e1 := HQ.out.c.same (HJ.out 1 _ rfl)
        have e2 := HQ.out.c.same (HJ.out 2 _ rfl)
        have e3 := HQ.out.c.same (HJ.out 3 _ rfl)
        have e4 := HQ.out.c.same (HJ.out 4 _ rfl)
        simp only [Nat.add_zero] at e0
        cases pop with
        | true =>
          go_wp2_with fail
          refine (HQ.out.popq).mono ?_
          rintro e w3 ⟨rfl, h3⟩
          have H3 := hide h3
          have hd3 := h3.s.blk.lt
          clear h3 e0 e1 e2 e3 e4
          go_wp2_with fail
          refine ((H3.out.no ((Chg.refl NoChg w3).alloc _)).popr).mono ?_
          rintro e w4 ⟨rfl, c4, v4, h4⟩
          have z1 := c4.blk (Blk.new w3 #[.int .u64 (headP lq).id, .int .i64 (headP lq).cls, .int .i64 (headP lq).len, .int .u64 (headP lq).at_] 32) (by omega)
          have a0 := z1.cell 0
          have a1 := z1.cell 1
          have a2 := z1.cell 2
          have a3 := z1.cell 3
          have s34 := z1.lt
          simp at a0 a1 a2 a3
          have H4 := hide h4
          clear h4 c4 z1
          have t1 : (hasB lq != hasB lq) = false := by cases hasB lq <;> rfl
          go_wp2_with fail
          refine ((H4.out.no ((Chg.refl NoChg w4).alloc _)).same).mono ?_
          rintro e w5 ⟨rfl, h5⟩
          have H5 := hide h5
          clear h5
          go_wp2
          go_roundw
          case rel => exact ⟨k + 1, _, _, _, by omega, by go_num, H5.out⟩
          case measure => simp [intOf]; omega
        | false =>
          have KEEP := hide (fun (w' : World) (c : Chg NoChg W w') => And.intro (c.same (HJ.out 0 _ rfl)) (And.intro (c.same (HJ.out 1 _ rfl)) (And.intro (c.same (HJ.out 2 _ rfl)) (c.same (HJ.out 3 _ rfl)))))
          simp only [Nat.add_zero] at KEEP
          have PQ := hide (fun (w' : World) (c : Chg NoChg wo w') => (HQ.out.no c).pushq ap)
          have t1 : (pushN pk bt lq ap != pushN pk bt lq ap) = false := by simp
          clear e0 e1 e2 e3
          go_wp2
          go_region_held3 (fun w' : World => w'.cell? ⟨g, o + k * 5, none⟩ = some (.int .u64 ap.id) ∧ w'.cell? ⟨g, o + k * 5 + 1, none⟩ = some (.int .i64 ap.cls) ∧ w'.cell? ⟨g, o + k * 5 + 2, none⟩ = some (.int .i64 ap.len) ∧ w'.cell? ⟨g, o + k * 5 + 3, none⟩ = some (.int .u64 ap.at_)) (first | exact KEEP.out _ (by assumption) | exact KEEP.out _ HQ.out.c.drew) (first | (go_at_call 16; refine (PQ.out _ ((Chg.refl _ _).drew)).mono ?_; rintro e w3 ⟨rfl, c3, r3, h3⟩) | (go_at_call 26; refine (h3.pushr ap).mono ?_; rintro e w4 ⟨rfl, c4, v4, h4⟩))
          have H4 := hide h4
          clear h4
          go_wp2_with fail
          refine (H4.out.same).mono ?_
          rintro e w5 ⟨rfl, h5⟩
          have H5 := hide h5
          clear h5
          go_wp2
          go_roundw
          case rel => exact ⟨k + 1, _, _, _, by omega, by go_num, H5.out⟩
          case measure => simp [intOf]; omega
    · go_wp2
      go_ret
      exact ⟨rfl, HQ.out.c⟩
end Go.Proofs.Ytbghddmjoampiaa
