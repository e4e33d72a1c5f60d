/- FairNil: walked. -/
import Derived.Test.YtpfkahpnfpockaaGreatFairNil2
namespace Go.Proofs.YtpfkahpnfpockaaGreat
set_option linter.unusedVariables false
open Go.RowKit

theorem eqGuard_pair : Tryz.prog.eqGuardType Tryz.prog.depth 57 = false := by kernel_rfl
theorem stood_pair : Tryz.prog.stoodInHeld 57 = false := by kernel_rfl
theorem eqGuard_rep : Tryz.prog.eqGuardType Tryz.prog.depth 62 = false := by kernel_rfl
theorem stood_rep : Tryz.prog.stoodInHeld 62 = false := by kernel_rfl
attribute [local go_sem] eqGuard_pair stood_pair eqGuard_rep stood_rep
theorem run_eql_pair (a b : Int) (w : World) : (binOp .eql 57 (.agg #[.int .i64 a, .int .i64 b, .int .u64 0, .int .u64 0, .int .u64 0, .int .u64 0]) (.agg #[.int .i64 a, .int .i64 b, .int .u64 0, .int .u64 0, .int .u64 0, .int .u64 0])).run Tryz.prog w = .ok (.bool true) w := by
  go_simp
theorem run_eql_rep (w : World) : (binOp .eql 62 (.agg #[.int .i64 0, .int .i64 0]) (.agg #[.int .i64 0, .int .i64 0])).run Tryz.prog w = .ok (.bool true) w := by
  go_simp
attribute [local go_sem ↓] run_eql_pair run_eql_rep

set_option maxRecDepth 100000 in
set_option maxHeartbeats 8000000 in
theorem fairNil_any (a b t : Int) (W : World) (h0 : 0 ≤ t) : Calls Tryz.prog 4 #[.int .i64 a, .int .i64 b, .int .u64 t] W fun e w' => e = .returned (.bool true) ∧ Chg NoChg W w' := by
  have DF := hide (fDiffer_nil a b)
  have RA := hide (fRace_nil a t)
  have VA := hide (fVain_nil t)
  have EV := hide (fEven_nil a)
  have W1 := hide (fun w => fWithin_one a b t w h0)
  have W0 := hide (fun w => fWithin_zero a b t w h0)
  have te : (decide (a = 0) == (a == 0)) = true := by
    by_cases h : a = 0 <;> simp [h]
  clear h0
  go_enter Tryz.func4, Tryz.ntmps4
  go_wp2_with fail
  refine (fBegin_nil a b _).mono ?_
  rintro e w1 ⟨rfl, c1⟩
  have C1 := hide (c1.alloc (.cells #[.int .i64 a, .int .i64 b, .int .u64 0, .int .u64 0, .int .u64 0, .int .u64 0] 57))
  clear c1
  have KEEP := hide (pair_keep a b w1)
  go_wp2_with fail
  refine (DF.out _).mono ?_
  rintro e w2 ⟨rfl, c2⟩
  have K2 := KEEP.out _ c2
  obtain ⟨k0, k1, k2, k3, k4, k5⟩ := K2
  have C2 := hide c2
  clear c2
  go_wp2_with fail
  refine (RA.out _).mono ?_
  rintro e w3 ⟨rfl, c3⟩
  have C3 := hide (C2.out.trans' c3)
  clear k0 k1 k2 k3 k4 k5 c3
  obtain ⟨k0, k1, k2, k3, k4, k5⟩ := KEEP.out _ C3.out
  go_wp2_with fail
  refine (VA.out _).mono ?_
  rintro e w4 ⟨rfl, c4⟩
  have C4 := hide (C3.out.trans' c4)
  clear k0 k1 k2 k3 k4 k5 c4
  obtain ⟨k0, k1, k2, k3, k4, k5⟩ := KEEP.out _ C4.out
  go_wp2_with fail
  refine (EV.out _).mono ?_
  rintro e w5 ⟨rfl, c5⟩
  have C5 := hide (C4.out.trans' c5)
  clear k0 k1 k2 k3 k4 k5 c5
  obtain ⟨k0, k1, k2, k3, k4, k5⟩ := KEEP.out _ C5.out
  go_wp2_with fail
  refine (W1.out _).mono ?_
  rintro e w6 ⟨rfl, c6⟩
  have C6 := hide (C5.out.trans' c6)
  clear k0 k1 k2 k3 k4 k5 c6
  obtain ⟨k0, k1, k2, k3, k4, k5⟩ := KEEP.out _ C6.out
  go_wp2_with fail
  refine (W0.out _).mono ?_
  rintro e w7 ⟨rfl, c7⟩
  have C7 := hide (C6.out.trans' c7)
  clear k0 k1 k2 k3 k4 k5 c7
  obtain ⟨k0, k1, k2, k3, k4, k5⟩ := KEEP.out _ C7.out
  go_wp2
  go_ret
  exact ⟨rfl, C1.out.trans' C7.out⟩
end Go.Proofs.YtpfkahpnfpockaaGreat
