/- The chapter's example of packets. Condition: the library's tables and errors are what it lays. -/
import Derived.Test.YtofgajlpdnokdaaDoorPk
namespace Go.Proofs.YtofgajlpdnokdaaDoor
set_option linter.unusedVariables false
open Go.Shelf Go.RowKit Go.Sort Go.Lib

theorem eqGuard_pkt : Tryd.prog.eqGuardType Tryd.prog.depth 24 = false := by kernel_rfl
theorem stood_pkt : Tryd.prog.stoodInHeld 24 = false := by kernel_rfl
section
attribute [local go_sem] eqGuard_pkt stood_pkt
theorem run_eql_pkt (a b c d : Int) (w : World) : (binOp .eql 24 (.agg #[.int .u64 a, .int .i64 b, .int .i64 c, .int .u64 d]) (.agg #[.int .u64 a, .int .i64 b, .int .i64 c, .int .u64 d])).run Tryd.prog w = .ok (.bool true) w := by
  go_simp
theorem run_neq_pkt (a b c d : Int) (w : World) : (binOp .neq 24 (.agg #[.int .u64 a, .int .i64 b, .int .i64 c, .int .u64 d]) (.agg #[.int .u64 a, .int .i64 b, .int .i64 c, .int .u64 d])).run Tryd.prog w = .ok (.bool false) w := by
  go_simp
end
attribute [local go_sem ↓] run_eql_pkt

theorem dec_7 : Lib.decDigits 7 = [55] := by rw [dec_small (by omega)]; rfl
theorem dec_3 : Lib.decDigits 3 = [51] := by rw [dec_small (by omega)]; rfl
theorem dec_12 : Lib.decDigits 12 = [49, 50] := by rw [dec_big (by omega), dec_small (by omega)]; rfl
theorem dec_100 : Lib.decDigits 100 = [49, 48, 48] := by rw [dec_big (by omega), dec_big (by omega), dec_small (by omega)]; rfl
theorem aw_text : pkText 7 3 100 12 = [55, 32, 51, 32, 49, 48, 48, 32, 49, 50] := by
  unfold pkText
  rw [dec_7, dec_3, dec_12, dec_100]
  rfl
theorem aw_none : NoPk [55, 32, 51, 32, 48, 49, 48, 48, 32, 49, 50] := by
  refine NoPk.word (ws := [[55], [51], [48, 49, 48, 48], [49, 50]]) (by decide) 2 [48, 49, 48, 48] rfl (by omega) (fun u _ _ e => ?_)
  have h := spell_dec u
  rw [← e] at h
  have h2 : spell 0 [48, 49, 48, 48] = 100 := by decide
  rw [h2] at h
  subst h
  rw [dec_100] at e
  simp at e

theorem awText (w : World) (hd : Door w) : Calls Tryd.prog 9 #[.agg #[.int .u64 7, .int .i64 3, .int .i64 100, .int .u64 12]] w fun e w' => e = .returned (.tuple #[.string ⟨#[55, 32, 51, 32, 49, 48, 48, 32, 49, 50]⟩, .int .i64 0]) ∧ Chg NoChg w w' := by
  have h := pkText_good 7 3 100 12 (by omega) (by omega) (by omega) (by omega) w hd
  rw [aw_text] at h
  exact h
theorem awParse1 (w : World) (hd : Door w) : Calls Tryd.prog 11 #[.string ⟨#[55, 32, 51, 32, 49, 48, 48, 32, 49, 50]⟩] w fun e w' => e = .returned (.tuple #[.agg #[.int .u64 7, .int .i64 3, .int .i64 100, .int .u64 12], .int .i64 0]) ∧ Chg NoChg w w' :=
  (pkParse_any ⟨#[55, 32, 51, 32, 49, 48, 48, 32, 49, 50]⟩ w hd (by decide)).mono fun e w' ⟨h, c⟩ => ⟨by
    have hp : IsPk [55, 32, 51, 32, 49, 48, 48, 32, 49, 50] 7 3 100 12 := ⟨aw_text.symm, by omega, by omega, by omega, by omega⟩
    rcases h with ⟨i', c', n', t', hp', rfl⟩ | ⟨hno, _⟩
    · obtain ⟨rfl, rfl, rfl, rfl⟩ := pkText_inj (hp.1.symm.trans hp'.1)
      rfl
    · exact absurd hp (hno 7 3 100 12), c⟩
theorem awParse2 (w : World) (hd : Door w) : Calls Tryd.prog 11 #[.string ⟨#[55, 32, 51, 32, 48, 49, 48, 48, 32, 49, 50]⟩] w fun e w' => e = .returned (.tuple #[.agg #[.int .u64 0, .int .i64 0, .int .i64 0, .int .u64 0], .int .i64 2]) ∧ Chg NoChg w w' :=
  (pkParse_any ⟨#[55, 32, 51, 32, 48, 49, 48, 48, 32, 49, 50]⟩ w hd (by decide)).mono fun e w' ⟨h, c⟩ => ⟨by
    rcases h with ⟨i', c', n', t', hp', rfl⟩ | ⟨hno, h⟩
    · exact absurd hp' (aw_none _ _ _ _)
    · exact h, c⟩

set_option maxRecDepth 100000 in
set_option maxHeartbeats 4000000 in
theorem l10awake_any (w : World) (hd : Door w) : Calls Tryd.prog 13 #[] w fun e w' => e = .returned (.bool true) ∧ Chg NoChg w w' := by
  have HD := hide hd
  have B0 := hide (Blk.new w #[.int .u64 7, .int .i64 3, .int .i64 100, .int .u64 12] 24)
  have C0 := hide ((Chg.refl NoChg w).alloc (.cells #[.int .u64 7, .int .i64 3, .int .i64 100, .int .u64 12] 24))
  clear hd
  go_enter Tryd.func13, Tryd.ntmps13
  go_wp2_with fail
  refine (awText _ (HD.out.keep C0.out)).mono ?_
  rintro e w1 ⟨rfl, c1⟩
  have C1 := hide (C0.out.trans' c1)
  have B1 := hide (c1.blk B0.out (fun h => h))
  clear c1
  go_wp2_with fail
  refine (awParse1 _ (HD.out.keep C1.out)).mono ?_
  rintro e w2 ⟨rfl, c2⟩
  have C2 := hide ((C1.out.trans' c2).alloc (.cells #[.int .u64 7, .int .i64 3, .int .i64 100, .int .u64 12] 24))
  have B2 := hide ((c2.blk B1.out (fun h => h)).alloc (.cells #[.int .u64 7, .int .i64 3, .int .i64 100, .int .u64 12] 24))
  have Q2 := hide (Blk.new w2 #[.int .u64 7, .int .i64 3, .int .i64 100, .int .u64 12] 24)
  clear c2
  go_wp2_with fail
  refine (awParse2 _ (HD.out.keep C2.out)).mono ?_
  rintro e w3 ⟨rfl, c3⟩
  have C3 := hide ((C2.out.trans' c3).alloc (.cells #[.int .u64 0, .int .i64 0, .int .i64 0, .int .u64 0] 24))
  have B3 := hide ((c3.blk B2.out (fun h => h)).alloc (.cells #[.int .u64 0, .int .i64 0, .int .i64 0, .int .u64 0] 24))
  have Q3 := hide ((c3.blk Q2.out (fun h => h)).alloc (.cells #[.int .u64 0, .int .i64 0, .int .i64 0, .int .u64 0] 24))
  have B3' := hide (c3.blk B2.out (fun h => h))
  have Q3' := hide (c3.blk Q2.out (fun h => h))
  clear c3
  have hz := B3'.out.lt
  have hz2 := Q3'.out.lt
  obtain ⟨p0, p1, p2, p3⟩ := Pkt.cells4 B3'.out (Chg.refl _ _)
  obtain ⟨q0, q1, q2, q3⟩ := Pkt.cells4 Q3'.out (Chg.refl _ _)
  go_wp2_with fail
  refine (pkGrains_any 7 12 3 100 (by omega) _).mono ?_
  rintro e w4 ⟨rfl, c4⟩
  have C4 := hide (C3.out.trans' c4)
  have B4 := hide (c4.blk B3.out (fun h => h))
  have Q4 := hide (c4.blk Q3.out (fun h => h))
  rw [show gr 100 = 25600 from by decide]
  clear c4 p0 p1 p2 p3 q0 q1 q2 q3 hz hz2
  have hz := B4.out.lt
  have hz2 := Q4.out.lt
  obtain ⟨p0, p1, p2, p3⟩ := Pkt.cells4 B4.out (Chg.refl _ _)
  obtain ⟨q0, q1, q2, q3⟩ := Pkt.cells4 Q4.out (Chg.refl _ _)
  go_wp2_with fail
  refine (pkTicks_any 7 12 3 100 (by omega) 1000 (by omega) _).mono ?_
  rintro e w5 ⟨rfl, c5⟩
  have C5 := hide (C4.out.trans' c5)
  have B5 := hide (c5.blk B4.out (fun h => h))
  have Q5 := hide (c5.blk Q4.out (fun h => h))
  rw [show tk (gr 100) 1000 = 26 from by decide]
  clear c5 p0 p1 p2 p3 q0 q1 q2 q3 hz hz2
  have hz := B5.out.lt
  have hz2 := Q5.out.lt
  obtain ⟨p0, p1, p2, p3⟩ := Pkt.cells4 B5.out (Chg.refl _ _)
  obtain ⟨q0, q1, q2, q3⟩ := Pkt.cells4 Q5.out (Chg.refl _ _)
  go_wp2_with fail
  refine (pkTicks_any 7 12 3 100 (by omega) 25600 (by omega) _).mono ?_
  rintro e w6 ⟨rfl, c6⟩
  have C6 := hide (C5.out.trans' c6)
  have B6 := hide (c6.blk B5.out (fun h => h))
  have Q6 := hide (c6.blk Q5.out (fun h => h))
  rw [show tk (gr 100) 25600 = 1 from by decide]
  clear c6 p0 p1 p2 p3 q0 q1 q2 q3 hz hz2
  have hz := B6.out.lt
  have hz2 := Q6.out.lt
  obtain ⟨p0, p1, p2, p3⟩ := Pkt.cells4 B6.out (Chg.refl _ _)
  obtain ⟨q0, q1, q2, q3⟩ := Pkt.cells4 Q6.out (Chg.refl _ _)
  go_wp2_with fail
  refine (pkTicks_any 7 12 3 100 (by omega) 0 (by omega) _).mono ?_
  rintro e w7 ⟨rfl, c7⟩
  have C7 := hide (C6.out.trans' c7)
  have B7 := hide (c7.blk B6.out (fun h => h))
  have Q7 := hide (c7.blk Q6.out (fun h => h))
  rw [show tk (gr 100) 0 = 9223372036854775808 from by decide]
  clear c7 p0 p1 p2 p3 q0 q1 q2 q3 hz hz2
  have hz := B7.out.lt
  have hz2 := Q7.out.lt
  obtain ⟨p0, p1, p2, p3⟩ := Pkt.cells4 B7.out (Chg.refl _ _)
  obtain ⟨q0, q1, q2, q3⟩ := Pkt.cells4 Q7.out (Chg.refl _ _)
  go_wp2_with fail
  refine (pkMay_any 7 12 3 100 100 _).mono ?_
  rintro e w8 ⟨rfl, c8⟩
  have C8 := hide (C7.out.trans' c8)
  have B8 := hide (c8.blk B7.out (fun h => h))
  have Q8 := hide (c8.blk Q7.out (fun h => h))
  rw [show mayE 100 100 = 0 from by decide]
  clear c8 p0 p1 p2 p3 q0 q1 q2 q3 hz hz2
  have hz := B8.out.lt
  have hz2 := Q8.out.lt
  obtain ⟨p0, p1, p2, p3⟩ := Pkt.cells4 B8.out (Chg.refl _ _)
  obtain ⟨q0, q1, q2, q3⟩ := Pkt.cells4 Q8.out (Chg.refl _ _)
  go_wp2_with fail
  refine (pkMay_any 7 12 3 100 99 _).mono ?_
  rintro e w9 ⟨rfl, c9⟩
  have C9 := hide (C8.out.trans' c9)
  have B9 := hide (c9.blk B8.out (fun h => h))
  have Q9 := hide (c9.blk Q8.out (fun h => h))
  rw [show mayE 100 99 = 100 from by decide]
  clear c9 p0 p1 p2 p3 q0 q1 q2 q3 hz hz2
  have hz := B9.out.lt
  have hz2 := Q9.out.lt
  obtain ⟨p0, p1, p2, p3⟩ := Pkt.cells4 B9.out (Chg.refl _ _)
  obtain ⟨q0, q1, q2, q3⟩ := Pkt.cells4 Q9.out (Chg.refl _ _)
  go_wp2_with fail
  refine (pkMay_any 7 12 3 100 65536 _).mono ?_
  rintro e w10 ⟨rfl, c10⟩
  have C10 := hide (C9.out.trans' c10)
  have B10 := hide (c10.blk B9.out (fun h => h))
  have Q10 := hide (c10.blk Q9.out (fun h => h))
  rw [show mayE 100 65536 = 2 from by decide]
  clear c10 p0 p1 p2 p3 q0 q1 q2 q3 hz hz2
  have hz := B10.out.lt
  have hz2 := Q10.out.lt
  obtain ⟨p0, p1, p2, p3⟩ := Pkt.cells4 B10.out (Chg.refl _ _)
  obtain ⟨q0, q1, q2, q3⟩ := Pkt.cells4 Q10.out (Chg.refl _ _)
  go_wp2_with fail
  refine (pkBefore_any 7 12 7 12 3 100 3 100 _).mono ?_
  rintro e w11 ⟨rfl, c11⟩
  have C11 := hide (C10.out.trans' c11)
  have B11 := hide (c11.blk B10.out (fun h => h))
  have Q11 := hide (c11.blk Q10.out (fun h => h))
  rw [show bef 12 7 12 7 = false from by decide]
  clear c11 p0 p1 p2 p3 q0 q1 q2 q3 hz hz2
  have hz := B11.out.lt
  have hz2 := Q11.out.lt
  obtain ⟨p0, p1, p2, p3⟩ := Pkt.cells4 B11.out (Chg.refl _ _)
  obtain ⟨q0, q1, q2, q3⟩ := Pkt.cells4 Q11.out (Chg.refl _ _)
  go_wp2
  go_ret
  exact ⟨rfl, C11.out⟩
end Go.Proofs.YtofgajlpdnokdaaDoor
