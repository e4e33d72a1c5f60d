/- The same packets are told to be the same; the chapter's example of the queue. -/
import Derived.Test.YtbghddmjoampiaaQueue6
namespace Go.Proofs.Ytbghddmjoampiaa
set_option linter.unusedVariables false
open Go.RowKit

theorem eqGuard_pkt : Try.prog.eqGuardType Try.prog.depth 32 = false := by kernel_rfl
theorem stood_pkt : Try.prog.stoodInHeld 32 = false := by kernel_rfl
attribute [local go_sem] eqGuard_pkt stood_pkt
theorem run_eql_pkt (a b c d : Int) (w : World) : (binOp .eql 32 (.agg #[.int .u64 a, .int .i64 b, .int .i64 c, .int .u64 d]) (.agg #[.int .u64 a, .int .i64 b, .int .i64 c, .int .u64 d])).run Try.prog w = .ok (.bool true) w := by
  go_simp
theorem run_neq_pkt (a b c d : Int) (w : World) : (binOp .neq 32 (.agg #[.int .u64 a, .int .i64 b, .int .i64 c, .int .u64 d]) (.agg #[.int .u64 a, .int .i64 b, .int .i64 c, .int .u64 d])).run Try.prog w = .ok (.bool false) w := by
  go_simp
attribute [local go_sem ↓] run_eql_pkt run_neq_pkt

theorem same_any (l : List Pkt) (a b : Option Addr) (ca cb : Nat) (w : World) (hl : l.length ≤ 100000) (ha : RowAt Pkt.cells 4 w a l) (hb : RowAt Pkt.cells 4 w b l) :
    Calls Try.prog 17 #[.slice a l.length ca, .slice b l.length cb] w fun e w' => e = .returned (.bool true) ∧ Chg NoChg w w' := by
  have HR := hide (And.intro ha hb)
  clear ha hb
  have hne : ((l.length : Int) != (l.length : Int)) = false := by simp
  go_enter Try.func17, Try.ntmps17
  go_wp2
  go_loopw [5] (fun i wr => ∃ k : Nat, k ≤ l.length ∧ i = .int .i64 k ∧ Chg NoChg w wr) (fun i _ => l.length - (intOf i).toNat)
  case atStart => exact ⟨0, by omega, rfl, Chg.refl _ _⟩
  case round =>
    obtain ⟨k, hk, rfl, hc⟩ := hrel
    by_cases hlt : k < l.length
    · obtain ⟨g, o, rfl, hj⟩ := HR.out.1.keep hc (fun _ _ h => h) k hlt
      obtain ⟨g2, o2, rfl, hj2⟩ := HR.out.2.keep hc (fun _ _ h => h) k hlt
      have s0 := hj 0 _ rfl
      have s1 := hj 1 _ rfl
      have s2 := hj 2 _ rfl
      have s3 := hj 3 _ rfl
      have t0 := hj2 0 _ rfl
      have t1 := hj2 1 _ rfl
      have t2 := hj2 2 _ rfl
      have t3 := hj2 3 _ rfl
      simp only [Nat.add_zero] at s0 t0
      have HC := hide hc
      have k0 : (0 : Int) ≤ (k : Int) := by omega
      have k1 : (k : Int) < (l.length : Int) := by omega
      clear hj hj2 hc
      go_wp2
      go_quiet (fail)
      go_wp2
      go_roundw
      case rel => exact ⟨k + 1, by omega, by go_num, HC.out.drewN _⟩
      case measure => simp [intOf]; omega
    · have HC := hide hc
      clear hc
      go_wp2
      go_ret
      exact ⟨rfl, HC.out⟩

theorem l11awake_any (w : World) : Calls Try.prog 12 #[] w fun e w' => e = .returned (.bool true) ∧ Chg NoChg w w' := by
  go_enter Try.func12, Try.ntmps12
  go_wp2_with fail
  refine (qNew_ok 2 100 _ (by omega) (by omega) (by omega) (by omega)).mono ?_
  rintro e w1 ⟨rfl, q1, c1⟩
  have H1 := hide (And.intro q1 c1)
  clear q1 c1
  go_wp2_with fail
  refine (qNew_nil 0 100 _ (by omega)).mono ?_
  rintro e w' ⟨rfl, rfl⟩
  go_wp2_with fail
  refine (qNew_nil 4097 1 _ (by omega)).mono ?_
  rintro e w' ⟨rfl, rfl⟩
  go_wp2_with fail
  refine (qPush_ok H1.out.1 ⟨0, 0, 60, 0⟩ (by simp [pushN, sumLen])).mono ?_
  rintro e w2 ⟨rfl, r2, hr2, q2, c2⟩
  have H2 := hide (And.intro hr2 (And.intro q2 c2))
  clear hr2 q2 c2
  go_wp2_with fail
  refine (qPush_no H2.out.2.1 ⟨0, 0, 41, 0⟩ (by simp [pushN, sumLen])).mono ?_
  rintro e w3 ⟨rfl, c3⟩
  have H3 := hide c3
  clear c3
  have e3 : pushN 2 100 ([] ++ [⟨0, 0, 60, 0⟩]) ⟨0, 0, 41, 0⟩ = 110 := by simp [pushN, sumLen]
  go_wp2_with fail
  refine (qPush_ok (H2.out.2.1.keep H3.out (fun h => h) (fun h => h)) ⟨9, 0, 40, 0⟩ (by simp [pushN, sumLen])).mono ?_
  rintro e w4 ⟨rfl, r4, hr4, q4, c4⟩
  have H4 := hide (And.intro hr4 (And.intro q4 c4))
  clear hr4 q4 c4
  go_wp2_with fail
  refine (qPush_no H4.out.2.1 ⟨0, 0, 1, 0⟩ (by simp [pushN, sumLen])).mono ?_
  rintro e w5 ⟨rfl, c5⟩
  have H5 := hide c5
  clear c5
  have e5 : pushN 2 100 ([] ++ [⟨0, 0, 60, 0⟩] ++ [⟨9, 0, 40, 0⟩]) ⟨0, 0, 1, 0⟩ = 110 := by simp [pushN, sumLen]
  have Q5 := H4.out.2.1.keep H5.out (fun h => h) (fun h => h)
  have HQ5 := hide Q5
  clear Q5
  go_wp2_with fail
  refine (qPush_no HQ5.out ⟨0, 0, 0, 0⟩ (by simp [pushN])).mono ?_
  rintro e w6 ⟨rfl, c6⟩
  have e6 : pushN 2 100 ([] ++ [⟨0, 0, 60, 0⟩] ++ [⟨9, 0, 40, 0⟩]) ⟨0, 0, 0, 0⟩ = 100 := by simp [pushN]
  have HQ6 := hide (HQ5.out.keep c6 (fun h => h) (fun h => h))
  have H6 := hide c6
  clear c6
  go_wp2_with fail
  refine (qPop_some (p := ⟨0, 0, 60, 0⟩) (l := [⟨9, 0, 40, 0⟩]) HQ6.out).mono ?_
  rintro e w7 ⟨rfl, q7, c7⟩
  have H7 := hide (And.intro q7 c7)
  clear q7 c7
  go_wp2_with fail
  refine (qHead_some (p := ⟨9, 0, 40, 0⟩) (l := []) (H7.out.1.keep ((Chg.refl NoChg w7).alloc _) (fun h => h) (fun h => h))).mono ?_
  rintro e w8 ⟨rfl, c8⟩
  have Z8 := c8.blk (Blk.new w7 #[.int .u64 0, .int .i64 0, .int .i64 60, .int .u64 0] 32) (fun h => h)
  have z0 := Z8.cell 0
  have z1 := Z8.cell 1
  have z2 := Z8.cell 2
  have z3 := Z8.cell 3
  simp at z0 z1 z2 z3
  have hs8 : w7.heap.size < w8.heap.size := by have := c8.size; simp at this; omega
  have Q8 := hide ((H7.out.1.keep ((Chg.refl NoChg w7).alloc (.cells #[.int .u64 0, .int .i64 0, .int .i64 60, .int .u64 0] 32)) (fun h => h) (fun h => h)).keep c8 (fun h => h) (fun h => h))
  have H8 := hide c8
  clear Z8 c8
  go_wp2_with fail
  refine (qLen_any (Q8.out.keep ((Chg.refl NoChg w8).alloc _) (fun h => h) (fun h => h))).mono ?_
  rintro e w9 ⟨rfl, rfl⟩
  go_wp2_with fail
  refine (qBytes_any (Q8.out.keep ((Chg.refl NoChg w8).alloc _) (fun h => h) (fun h => h))).mono ?_
  rintro e w9 ⟨rfl, rfl⟩
  have e9 : (sumLen [⟨9, 0, 40, 0⟩] == 40) = true := by simp [sumLen]
  go_wp2
  go_ret
  refine ⟨rfl, ?_⟩
  have h1 := H1.out.2.size
  have d2 := (H1.out.2).trans H2.out.2.2 (fun k hk => .inr (by rcases hk with h | h <;> omega))
  have s2 := d2.size
  have d4 := (d2.trans' H3.out).trans H4.out.2.2 (fun k hk => .inr (by
    have := H2.out.1
    rcases hk with h | h <;> omega))
  have d7 := ((d4.trans' H5.out).trans' H6.out).trans H7.out.2 (fun k hk => .inr (by omega))
  have d8 := (d7.alloc (.cells #[.int .u64 0, .int .i64 0, .int .i64 60, .int .u64 0] 32)).trans' H8.out
  (repeat' (first | (with_reducible exact Chg.refl _ _) | (with_reducible assumption) | (with_reducible refine Chg.alloc ?_ _) | (with_reducible refine Chg.drewN ?_ _) | (with_reducible refine Chg.drew ?_) | (with_reducible refine Chg.setCell ?_ _ ?_) | (apply Or.inl; with_reducible rfl) | (apply Or.inl; simp; done) | (apply Or.inr; simp; done) | (apply Or.inr; simp; omega)))
end Go.Proofs.Ytbghddmjoampiaa
