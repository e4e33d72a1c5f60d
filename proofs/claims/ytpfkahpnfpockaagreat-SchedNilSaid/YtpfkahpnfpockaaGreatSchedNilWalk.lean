/- SchedNil: walked. -/
import Derived.Test.YtpfkahpnfpockaaGreatSchedNil
namespace Go.Proofs.YtpfkahpnfpockaaGreat
set_option linter.unusedVariables false
open Go.RowKit

theorem eqGuard_cho : Tryz.prog.eqGuardType Tryz.prog.depth 38 = false := by kernel_rfl
theorem stood_cho : Tryz.prog.stoodInHeld 38 = false := by kernel_rfl
attribute [local go_sem] eqGuard_cho stood_cho
theorem run_neq_cho (w : World) : (binOp .neq 38 (.agg #[.int .u64 0, .int .i64 0, .int .i64 0, .int .u64 0, .int .u8 0, .int .u64 0]) (.agg #[.int .u64 0, .int .i64 0, .int .i64 0, .int .u64 0, .int .u8 0, .int .u64 0])).run Tryz.prog w = .ok (.bool false) w := by
  go_simp
attribute [local go_sem ↓] run_neq_cho

/-- What the loop's rounds find. -/
structure SchedNilScene (W wr : World) (sb : Nat) (s : SpecR) (p : PktR) : Prop where
  spec : SpecAt wr W.heap.size s
  pkt : PktAt wr (W.heap.size + 1) p
  two : ∀ k, k < 2 → ∃ v, wr.cell? ⟨sb, k, none⟩ = some v ∧ NoOneI 0 wr v
  c : Chg NoChg W wr
theorem SchedNilScene.keep {W wr wr' : World} {sb : Nat} {s : SpecR} {p : PktR} (h : SchedNilScene W wr sb s p) (hc : Chg NoChg wr wr') : SchedNilScene W wr' sb s p :=
  ⟨h.spec.keep hc, h.pkt.keep hc, fun k hk => (h.two k hk).imp fun v hv => ⟨hc.same hv.1, hv.2.keep hc⟩, h.c.trans' hc⟩

theorem SchedNilScene.start (W : World) (s : SpecR) (p : PktR) : SchedNilScene W ((((W.alloc (.cells #[.int .i64 s.id, .int .i64 s.par, .bool s.leaf, .int .u64 s.rf, .int .u64 s.rl, .int .u64 s.rr, .int .u64 s.sf, .int .u64 s.sl, .int .u64 s.sr, .int .u64 s.uf, .int .u64 s.ul, .int .u64 s.ur, .int .i64 s.pk, .int .i64 s.bt] 26)).alloc (.cells #[.int .u64 p.id, .int .i64 p.cls, .int .i64 p.len, .int .u64 p.at_] 28)).alloc (.cells #[.int .i64 0, .pointer none, .map none, .pointer none, .pointer none] 35)).alloc (.cells #[.pointer none, .pointer (some ⟨W.heap.size + 1 + 1, 0, none⟩)] 29)) (W.heap.size + 1 + 1 + 1) s p := by
  have B := Blk.new' (w := ((W.alloc (.cells #[.int .i64 s.id, .int .i64 s.par, .bool s.leaf, .int .u64 s.rf, .int .u64 s.rl, .int .u64 s.rr, .int .u64 s.sf, .int .u64 s.sl, .int .u64 s.sr, .int .u64 s.uf, .int .u64 s.ul, .int .u64 s.ur, .int .i64 s.pk, .int .i64 s.bt] 26)).alloc (.cells #[.int .u64 p.id, .int .i64 p.cls, .int .i64 p.len, .int .u64 p.at_] 28)).alloc (.cells #[.int .i64 0, .pointer none, .map none, .pointer none, .pointer none] 35)) (n := W.heap.size + 1 + 1 + 1) #[.pointer none, .pointer (some ⟨W.heap.size + 1 + 1, 0, none⟩)] 29 (by simp)
  have E := (Blk.new' (w := (W.alloc (.cells #[.int .i64 s.id, .int .i64 s.par, .bool s.leaf, .int .u64 s.rf, .int .u64 s.rl, .int .u64 s.rr, .int .u64 s.sf, .int .u64 s.sl, .int .u64 s.sr, .int .u64 s.uf, .int .u64 s.ul, .int .u64 s.ur, .int .i64 s.pk, .int .i64 s.bt] 26)).alloc (.cells #[.int .u64 p.id, .int .i64 p.cls, .int .i64 p.len, .int .u64 p.at_] 28)) (n := W.heap.size + 1 + 1) #[.int .i64 0, .pointer none, .map none, .pointer none, .pointer none] 35 (by simp)).alloc (.cells #[.pointer none, .pointer (some ⟨W.heap.size + 1 + 1, 0, none⟩)] 29)
  refine ⟨SpecAt.of ((((Blk.new W #[.int .i64 s.id, .int .i64 s.par, .bool s.leaf, .int .u64 s.rf, .int .u64 s.rl, .int .u64 s.rr, .int .u64 s.sf, .int .u64 s.sl, .int .u64 s.sr, .int .u64 s.uf, .int .u64 s.ul, .int .u64 s.ur, .int .i64 s.pk, .int .i64 s.bt] 26).alloc _).alloc _).alloc _), PktAt.of (((Blk.new' (w := W.alloc (.cells #[.int .i64 s.id, .int .i64 s.par, .bool s.leaf, .int .u64 s.rf, .int .u64 s.rl, .int .u64 s.rr, .int .u64 s.sf, .int .u64 s.sl, .int .u64 s.sr, .int .u64 s.uf, .int .u64 s.ul, .int .u64 s.ur, .int .i64 s.pk, .int .i64 s.bt] 26)) (n := W.heap.size + 1) #[.int .u64 p.id, .int .i64 p.cls, .int .i64 p.len, .int .u64 p.at_] 28 (by simp)).alloc _).alloc _), fun k hk => ?_, (((((Chg.refl NoChg W).alloc _).alloc _).alloc _).alloc _)⟩
  obtain rfl | rfl : k = 0 ∨ k = 1 := by omega
  · exact ⟨_, B.cell 0, .inl rfl⟩
  · exact ⟨_, B.cell 1, .inr ⟨_, rfl, E.cell 0⟩⟩

set_option maxRecDepth 100000 in
set_option maxHeartbeats 4000000 in
theorem schedNil_any (s : SpecR) (p : PktR) (t : Int) (W : World) :
    Calls Tryz.prog 3 #[.agg #[.int .i64 s.id, .int .i64 s.par, .bool s.leaf, .int .u64 s.rf, .int .u64 s.rl, .int .u64 s.rr, .int .u64 s.sf, .int .u64 s.sl, .int .u64 s.sr, .int .u64 s.uf, .int .u64 s.ul, .int .u64 s.ur, .int .i64 s.pk, .int .i64 s.bt], .agg #[.int .u64 p.id, .int .i64 p.cls, .int .i64 p.len, .int .u64 p.at_], .int .u64 t] W fun e w' => e = .returned (.bool true) ∧ Chg NoChg W w' := by
  have S0 := hide (SchedNilScene.start W s p)
  go_enter Tryz.func3, Tryz.ntmps3
  go_wp2
  go_loopw [9] (fun i wr => ∃ k : Nat, k ≤ 2 ∧ i = .int .i64 k ∧ SchedNilScene W wr (W.heap.size + 1 + 1 + 1) s p) (fun i _ => 2 - (intOf i).toNat)
  case atStart => exact ⟨0, by omega, rfl, S0.out⟩
  case round =>
    obtain ⟨k, hk, rfl, hq⟩ := hrel
    rename_i wr
    by_cases hlt : k < 2
    · obtain ⟨v, hv, hn⟩ := hq.two k hlt
      have k0 : (0 : Int) ≤ (k : Int) := by omega
      have k1 : (k : Int) < 2 := by omega
      have H0 := hide hq
      have N0 := hide hn
      obtain ⟨w0, hw0⟩ : ∃ x : World, x = wr := ⟨_, rfl⟩
      subst hw0
      clear hq hn
      obtain ⟨a0, a1, a2, a3, a4, a5, a6, a7, a8, a9, a10, a11, a12, a13⟩ := H0.out.spec
      obtain ⟨d0, d1, d2, d3⟩ := H0.out.pkt

      go_wp2_with fail
      refine (zsNext_no N0.out t).mono ?_
      rintro e w1 ⟨rfl, c1⟩
      have H1 := hide (H0.out.keep c1)
      have N1 := hide (N0.out.keep c1)
      have s1 := H1.out.c.size
      have z1 := cell_lt H1.out.pkt.c0
      have y1 := cell_lt H1.out.spec.c0
      simp only at z1 y1
      clear c1
      clear a0 a1 a2 a3 a4 a5 a6 a7 a8 a9 a10 a11 a12 a13 d0 d1 d2 d3
      obtain ⟨a0, a1, a2, a3, a4, a5, a6, a7, a8, a9, a10, a11, a12, a13⟩ := H1.out.spec
      obtain ⟨d0, d1, d2, d3⟩ := H1.out.pkt
      go_wp2_with fail
      refine (zsWaiting_no (N1.out.keep ((Chg.refl NoChg w1).alloc (.cells #[.int .u64 0, .int .i64 0, .int .i64 0, .int .u64 0, .int .u8 0, .int .u64 0] 38))) s.id).mono ?_
      rintro e w2 ⟨rfl, c2⟩
      have X2 := hide (c2.blk (Blk.new w1 #[.int .u64 0, .int .i64 0, .int .i64 0, .int .u64 0, .int .u8 0, .int .u64 0] 38) (fun h => h))
      have H2 := hide (H1.out.keep (((Chg.refl NoChg w1).alloc (.cells #[.int .u64 0, .int .i64 0, .int .i64 0, .int .u64 0, .int .u8 0, .int .u64 0] 38)).trans' c2))
      have N2 := hide (N1.out.keep (((Chg.refl NoChg w1).alloc (.cells #[.int .u64 0, .int .i64 0, .int .i64 0, .int .u64 0, .int .u8 0, .int .u64 0] 38)).trans' c2))
      have s2 := H2.out.c.size
      have z2 := cell_lt H2.out.pkt.c0
      have y2 := cell_lt H2.out.spec.c0
      simp only at z2 y2
      clear c2
      clear a0 a1 a2 a3 a4 a5 a6 a7 a8 a9 a10 a11 a12 a13 d0 d1 d2 d3
      obtain ⟨a0, a1, a2, a3, a4, a5, a6, a7, a8, a9, a10, a11, a12, a13⟩ := H2.out.spec
      obtain ⟨d0, d1, d2, d3⟩ := H2.out.pkt
      go_wp2_with fail
      refine (zsTicks_no N2.out s.id).mono ?_
      rintro e w3 ⟨rfl, c3⟩
      have X3 := hide (c3.blk X2.out (fun h => h))
      have H3 := hide (H2.out.keep c3)
      have N3 := hide (N2.out.keep c3)
      have s3 := H3.out.c.size
      have z3 := cell_lt H3.out.pkt.c0
      have y3 := cell_lt H3.out.spec.c0
      simp only at z3 y3
      clear c3
      clear a0 a1 a2 a3 a4 a5 a6 a7 a8 a9 a10 a11 a12 a13 d0 d1 d2 d3
      obtain ⟨a0, a1, a2, a3, a4, a5, a6, a7, a8, a9, a10, a11, a12, a13⟩ := H3.out.spec
      obtain ⟨d0, d1, d2, d3⟩ := H3.out.pkt
      go_wp2_with fail
      refine (zsShares_no N3.out s.id).mono ?_
      rintro e w4 ⟨rfl, c4⟩
      have X4 := c4.blk X3.out (fun h => h)
      have xl := X4.lt
      have x0 := X4.cell 0
      have x1 := X4.cell 1
      have x2 := X4.cell 2
      have x3 := X4.cell 3
      have x4 := X4.cell 4
      have x5 := X4.cell 5
      simp at x0 x1 x2 x3 x4 x5
      clear X4
      have H4 := hide (H3.out.keep c4)
      have N4 := hide (N3.out.keep c4)
      have s4 := H4.out.c.size
      have z4 := cell_lt H4.out.pkt.c0
      have y4 := cell_lt H4.out.spec.c0
      simp only at z4 y4
      clear c4
      clear a0 a1 a2 a3 a4 a5 a6 a7 a8 a9 a10 a11 a12 a13 d0 d1 d2 d3
      obtain ⟨a0, a1, a2, a3, a4, a5, a6, a7, a8, a9, a10, a11, a12, a13⟩ := H4.out.spec
      obtain ⟨d0, d1, d2, d3⟩ := H4.out.pkt
      go_wp2_with fail
      refine (zsAdd_no N4.out s).mono ?_
      rintro e w5 ⟨rfl, c5⟩
      have H5 := hide (H4.out.keep c5)
      have N5 := hide (N4.out.keep c5)
      have s5 := H5.out.c.size
      have z5 := cell_lt H5.out.pkt.c0
      have y5 := cell_lt H5.out.spec.c0
      simp only at z5 y5
      clear c5
      clear a0 a1 a2 a3 a4 a5 a6 a7 a8 a9 a10 a11 a12 a13 d0 d1 d2 d3
      obtain ⟨a0, a1, a2, a3, a4, a5, a6, a7, a8, a9, a10, a11, a12, a13⟩ := H5.out.spec
      obtain ⟨d0, d1, d2, d3⟩ := H5.out.pkt
      go_wp2_with fail
      refine (zsChange_no N5.out s).mono ?_
      rintro e w6 ⟨rfl, c6⟩
      have H6 := hide (H5.out.keep c6)
      have N6 := hide (N5.out.keep c6)
      have s6 := H6.out.c.size
      have z6 := cell_lt H6.out.pkt.c0
      have y6 := cell_lt H6.out.spec.c0
      simp only at z6 y6
      clear c6
      clear a0 a1 a2 a3 a4 a5 a6 a7 a8 a9 a10 a11 a12 a13 d0 d1 d2 d3
      obtain ⟨a0, a1, a2, a3, a4, a5, a6, a7, a8, a9, a10, a11, a12, a13⟩ := H6.out.spec
      obtain ⟨d0, d1, d2, d3⟩ := H6.out.pkt
      go_wp2_with fail
      refine (zsDrop_no N6.out s.id).mono ?_
      rintro e w7 ⟨rfl, c7⟩
      have H7 := hide (H6.out.keep c7)
      have N7 := hide (N6.out.keep c7)
      have s7 := H7.out.c.size
      have z7 := cell_lt H7.out.pkt.c0
      have y7 := cell_lt H7.out.spec.c0
      simp only at z7 y7
      clear c7
      clear a0 a1 a2 a3 a4 a5 a6 a7 a8 a9 a10 a11 a12 a13 d0 d1 d2 d3
      obtain ⟨a0, a1, a2, a3, a4, a5, a6, a7, a8, a9, a10, a11, a12, a13⟩ := H7.out.spec
      obtain ⟨d0, d1, d2, d3⟩ := H7.out.pkt
      go_wp2_with fail
      refine (zsPush_no N7.out p t).mono ?_
      rintro e w8 ⟨rfl, c8⟩
      have H8 := hide (H7.out.keep c8)
      have N8 := hide (N7.out.keep c8)
      have s8 := H8.out.c.size
      have z8 := cell_lt H8.out.pkt.c0
      have y8 := cell_lt H8.out.spec.c0
      simp only at z8 y8
      clear c8
      clear a0 a1 a2 a3 a4 a5 a6 a7 a8 a9 a10 a11 a12 a13 d0 d1 d2 d3
      obtain ⟨a0, a1, a2, a3, a4, a5, a6, a7, a8, a9, a10, a11, a12, a13⟩ := H8.out.spec
      obtain ⟨d0, d1, d2, d3⟩ := H8.out.pkt
      go_wp2_with fail
      refine (zsTick_no N8.out).mono ?_
      rintro e w9 ⟨rfl, c9⟩
      have H9 := hide (H8.out.keep c9)
      have N9 := hide (N8.out.keep c9)
      have s9 := H9.out.c.size
      have z9 := cell_lt H9.out.pkt.c0
      have y9 := cell_lt H9.out.spec.c0
      simp only at z9 y9
      clear c9
      clear a0 a1 a2 a3 a4 a5 a6 a7 a8 a9 a10 a11 a12 a13 d0 d1 d2 d3
      obtain ⟨a0, a1, a2, a3, a4, a5, a6, a7, a8, a9, a10, a11, a12, a13⟩ := H9.out.spec
      obtain ⟨d0, d1, d2, d3⟩ := H9.out.pkt
      go_wp2_with fail
      refine (zsClasses_no N9.out).mono ?_
      rintro e w10 ⟨rfl, c10⟩
      have H10 := hide (H9.out.keep c10)
      have N10 := hide (N9.out.keep c10)
      have s10 := H10.out.c.size
      have z10 := cell_lt H10.out.pkt.c0
      have y10 := cell_lt H10.out.spec.c0
      simp only at z10 y10
      clear c10
      clear a0 a1 a2 a3 a4 a5 a6 a7 a8 a9 a10 a11 a12 a13 d0 d1 d2 d3
      obtain ⟨a0, a1, a2, a3, a4, a5, a6, a7, a8, a9, a10, a11, a12, a13⟩ := H10.out.spec
      obtain ⟨d0, d1, d2, d3⟩ := H10.out.pkt
      go_wp2_with fail
      refine (zsOwed_no N10.out).mono ?_
      rintro e w11 ⟨rfl, c11⟩
      have H11 := hide (H10.out.keep c11)
      have N11 := hide (N10.out.keep c11)
      have s11 := H11.out.c.size
      have z11 := cell_lt H11.out.pkt.c0
      have y11 := cell_lt H11.out.spec.c0
      simp only at z11 y11
      clear c11
      clear a0 a1 a2 a3 a4 a5 a6 a7 a8 a9 a10 a11 a12 a13 d0 d1 d2 d3
      obtain ⟨a0, a1, a2, a3, a4, a5, a6, a7, a8, a9, a10, a11, a12, a13⟩ := H11.out.spec
      obtain ⟨d0, d1, d2, d3⟩ := H11.out.pkt
      clear a0 a1 a2 a3 a4 a5 a6 a7 a8 a9 a10 a11 a12 a13 d0 d1 d2 d3
      go_wp2
      go_roundw
      case rel => exact ⟨k + 1, by omega, by go_num, H11.out⟩
      case measure => simp [intOf]; omega
    · have H0 := hide hq
      clear hq
      go_wp2_with fail
      refine (zsCopy_nil _).mono ?_
      rintro e w2 ⟨rfl, rfl⟩
      go_wp2
      go_ret
      exact ⟨rfl, H0.out.c⟩
end Go.Proofs.YtpfkahpnfpockaaGreat
