/- SpecBack, walked. Conditions of the lemmas here: what spec.Text, spec.Parse tell. -/
import Derived.Test.YtofgajlpdnokdaaGreatDoorLaw13
namespace Go.Proofs.YtofgajlpdnokdaaGreatDoor
set_option linter.unusedVariables false
open Go.RowKit
attribute [local go_sem ↓] run_eql_spc run_neq_spc

set_option maxRecDepth 100000 in
theorem back_far (i p k t r1 r2 r3 h1 h2 h3 u1 u2 u3 : Int) (b : Bool) (y : ByteArray) (hsz : (400 : Int) < (y.size : Int)) (w : World) (hd : Door w) :
    Calls Tryz.prog 3 #[.agg #[.int .i64 i, .int .i64 p, .bool b, .int .u64 r1, .int .u64 r2, .int .u64 r3, .int .u64 h1, .int .u64 h2, .int .u64 h3, .int .u64 u1, .int .u64 u2, .int .u64 u3, .int .i64 k, .int .i64 t], .string y] w fun e w' => e = .returned (.bool true) ∧ Chg NoChg w w' := by
  have HD := hide hd
  have C0 := hide ((Chg.refl NoChg w).alloc (.cells #[.int .i64 i, .int .i64 p, .bool b, .int .u64 r1, .int .u64 r2, .int .u64 r3, .int .u64 h1, .int .u64 h2, .int .u64 h3, .int .u64 u1, .int .u64 u2, .int .u64 u3, .int .i64 k, .int .i64 t] 26))
  clear hd
  go_enter Tryz.func3, Tryz.ntmps3
  go_wp2_with fail
  refine (l13awake_any _ (HD.out.keep C0.out)).mono ?_
  rintro e w1 ⟨rfl, c1⟩
  have C1 := hide (C0.out.trans' c1)
  clear c1
  go_wp2
  go_ret
  exact ⟨rfl, C1.out⟩

set_option maxRecDepth 100000 in
set_option maxHeartbeats 8000000 in
theorem back_good_yes (i p k t r1 r2 r3 h1 h2 h3 u1 u2 u3 : Int) (b : Bool) (i' p' k' t' r1' r2' r3' h1' h2' h3' u1' u2' u3' : Int) (b' : Bool) (y : ByteArray) (hsz : ¬ (400 : Int) < (y.size : Int)) (n0 : 0 ≤ i) (n1 : 0 ≤ p) (n2 : 0 ≤ k) (n3 : 0 ≤ t) (X : ByteArray) (hT : ∀ w, Door w → Calls Tryz.prog 8 #[.agg #[.int .i64 i, .int .i64 p, .bool b, .int .u64 r1, .int .u64 r2, .int .u64 r3, .int .u64 h1, .int .u64 h2, .int .u64 h3, .int .u64 u1, .int .u64 u2, .int .u64 u3, .int .i64 k, .int .i64 t]] w fun e w' => e = .returned (.tuple #[.string X, .int .i64 0]) ∧ Chg NoChg w w') (hP : ∀ w, Door w → Calls Tryz.prog 9 #[.string X] w fun e w' => e = .returned (.tuple #[.agg #[.int .i64 i, .int .i64 p, .bool b, .int .u64 r1, .int .u64 r2, .int .u64 r3, .int .u64 h1, .int .u64 h2, .int .u64 h3, .int .u64 u1, .int .u64 u2, .int .u64 u3, .int .i64 k, .int .i64 t], .int .i64 0]) ∧ Chg NoChg w w') (hQ : ∀ w, Door w → Calls Tryz.prog 9 #[.string y] w fun e w' => e = .returned (.tuple #[.agg #[.int .i64 i', .int .i64 p', .bool b', .int .u64 r1', .int .u64 r2', .int .u64 r3', .int .u64 h1', .int .u64 h2', .int .u64 h3', .int .u64 u1', .int .u64 u2', .int .u64 u3', .int .i64 k', .int .i64 t'], .int .i64 0]) ∧ Chg NoChg w w') (hU : ∀ w, Door w → Calls Tryz.prog 8 #[.agg #[.int .i64 i', .int .i64 p', .bool b', .int .u64 r1', .int .u64 r2', .int .u64 r3', .int .u64 h1', .int .u64 h2', .int .u64 h3', .int .u64 u1', .int .u64 u2', .int .u64 u3', .int .i64 k', .int .i64 t']] w fun e w' => e = .returned (.tuple #[.string y, .int .i64 0]) ∧ Chg NoChg w w') (w : World) (hd : Door w) :
    Calls Tryz.prog 3 #[.agg #[.int .i64 i, .int .i64 p, .bool b, .int .u64 r1, .int .u64 r2, .int .u64 r3, .int .u64 h1, .int .u64 h2, .int .u64 h3, .int .u64 u1, .int .u64 u2, .int .u64 u3, .int .i64 k, .int .i64 t], .string y] w fun e w' => e = .returned (.bool true) ∧ Chg NoChg w w' := by
  have HD := hide hd
  have HT := hide hT
  have HQ := hide hQ
  have HP := hide hP
  have HU := hide hU
  clear hd hT hQ hP hU
  have Bs0 := hide (Blk.new w #[.int .i64 i, .int .i64 p, .bool b, .int .u64 r1, .int .u64 r2, .int .u64 r3, .int .u64 h1, .int .u64 h2, .int .u64 h3, .int .u64 u1, .int .u64 u2, .int .u64 u3, .int .i64 k, .int .i64 t] 26)
  have C0 := hide ((Chg.refl NoChg w).alloc (.cells #[.int .i64 i, .int .i64 p, .bool b, .int .u64 r1, .int .u64 r2, .int .u64 r3, .int .u64 h1, .int .u64 h2, .int .u64 h3, .int .u64 u1, .int .u64 u2, .int .u64 u3, .int .i64 k, .int .i64 t] 26))
  go_enter Tryz.func3, Tryz.ntmps3
  go_wp2_with fail
  refine (l13awake_any _ (HD.out.keep C0.out)).mono ?_
  rintro e w1 ⟨rfl, c1⟩
  have D1 := hide (c1)
  have Bs1 := hide (D1.out.blk Bs0.out (fun h => h))
  have C1 := hide (C0.out.trans' D1.out)
  clear c1 D1 C0 Bs0
  obtain ⟨a0, a1, a2, a3, a4, a5, a6, a7, a8, a9, a10, a11, a12, a13⟩ := spc_cellsI Bs1.out
  go_wp2_with fail
  refine (HT.out _ (HD.out.keep C1.out)).mono ?_
  rintro e w2 ⟨rfl, c2⟩
  have D2 := hide (c2)
  have Bs2 := hide (D2.out.blk Bs1.out (fun h => h))
  have C2 := hide (C1.out.trans' D2.out)
  clear c2 D2 C1 Bs1 a0 a1 a2 a3 a4 a5 a6 a7 a8 a9 a10 a11 a12 a13
  obtain ⟨a0, a1, a2, a3, a4, a5, a6, a7, a8, a9, a10, a11, a12, a13⟩ := spc_cellsI Bs2.out
  go_wp2_with fail
  refine (HP.out _ (HD.out.keep C2.out)).mono ?_
  rintro e w3 ⟨rfl, c3⟩
  have D3 := hide ((c3).alloc (.cells #[.int .i64 i, .int .i64 p, .bool b, .int .u64 r1, .int .u64 r2, .int .u64 r3, .int .u64 h1, .int .u64 h2, .int .u64 h3, .int .u64 u1, .int .u64 u2, .int .u64 u3, .int .i64 k, .int .i64 t] 26))
  have Bs3 := hide (D3.out.blk Bs2.out (fun h => h))
  have Bx3 := hide (Blk.new w3 #[.int .i64 i, .int .i64 p, .bool b, .int .u64 r1, .int .u64 r2, .int .u64 r3, .int .u64 h1, .int .u64 h2, .int .u64 h3, .int .u64 u1, .int .u64 u2, .int .u64 u3, .int .i64 k, .int .i64 t] 26)
  have C3 := hide (C2.out.trans' D3.out)
  clear c3 D3 C2 Bs2 a0 a1 a2 a3 a4 a5 a6 a7 a8 a9 a10 a11 a12 a13
  obtain ⟨a0, a1, a2, a3, a4, a5, a6, a7, a8, a9, a10, a11, a12, a13⟩ := spc_cellsI Bs3.out
  obtain ⟨b0, b1, b2, b3, b4, b5, b6, b7, b8, b9, b10, b11, b12, b13⟩ := spc_cellsI Bx3.out
  go_wp2_with fail
  refine (HQ.out _ (HD.out.keep C3.out)).mono ?_
  rintro e w4 ⟨rfl, c4⟩
  have D4 := hide ((c4).alloc (.cells #[.int .i64 i', .int .i64 p', .bool b', .int .u64 r1', .int .u64 r2', .int .u64 r3', .int .u64 h1', .int .u64 h2', .int .u64 h3', .int .u64 u1', .int .u64 u2', .int .u64 u3', .int .i64 k', .int .i64 t'] 26))
  have Bs4 := hide (D4.out.blk Bs3.out (fun h => h))
  have Bx4 := hide (D4.out.blk Bx3.out (fun h => h))
  have Bq4 := hide (Blk.new w4 #[.int .i64 i', .int .i64 p', .bool b', .int .u64 r1', .int .u64 r2', .int .u64 r3', .int .u64 h1', .int .u64 h2', .int .u64 h3', .int .u64 u1', .int .u64 u2', .int .u64 u3', .int .i64 k', .int .i64 t'] 26)
  have C4 := hide (C3.out.trans' D4.out)
  clear c4 D4 C3 Bs3 Bx3 a0 a1 a2 a3 a4 a5 a6 a7 a8 a9 a10 a11 a12 a13 b0 b1 b2 b3 b4 b5 b6 b7 b8 b9 b10 b11 b12 b13
  obtain ⟨a0, a1, a2, a3, a4, a5, a6, a7, a8, a9, a10, a11, a12, a13⟩ := spc_cellsI Bq4.out
  go_wp2_with fail
  refine (HU.out _ (HD.out.keep C4.out)).mono ?_
  rintro e w5 ⟨rfl, c5⟩
  have D5 := hide (c5)
  have Bs5 := hide (D5.out.blk Bs4.out (fun h => h))
  have Bx5 := hide (D5.out.blk Bx4.out (fun h => h))
  have Bq5 := hide (D5.out.blk Bq4.out (fun h => h))
  have C5 := hide (C4.out.trans' D5.out)
  clear c5 D5 C4 Bs4 Bx4 Bq4 a0 a1 a2 a3 a4 a5 a6 a7 a8 a9 a10 a11 a12 a13
  go_wp2
  go_ret
  exact ⟨rfl, C5.out⟩

set_option maxRecDepth 100000 in
set_option maxHeartbeats 8000000 in
theorem back_good_no (i p k t r1 r2 r3 h1 h2 h3 u1 u2 u3 : Int) (b : Bool)  (y : ByteArray) (hsz : ¬ (400 : Int) < (y.size : Int)) (n0 : 0 ≤ i) (n1 : 0 ≤ p) (n2 : 0 ≤ k) (n3 : 0 ≤ t) (X : ByteArray) (hT : ∀ w, Door w → Calls Tryz.prog 8 #[.agg #[.int .i64 i, .int .i64 p, .bool b, .int .u64 r1, .int .u64 r2, .int .u64 r3, .int .u64 h1, .int .u64 h2, .int .u64 h3, .int .u64 u1, .int .u64 u2, .int .u64 u3, .int .i64 k, .int .i64 t]] w fun e w' => e = .returned (.tuple #[.string X, .int .i64 0]) ∧ Chg NoChg w w') (hP : ∀ w, Door w → Calls Tryz.prog 9 #[.string X] w fun e w' => e = .returned (.tuple #[.agg #[.int .i64 i, .int .i64 p, .bool b, .int .u64 r1, .int .u64 r2, .int .u64 r3, .int .u64 h1, .int .u64 h2, .int .u64 h3, .int .u64 u1, .int .u64 u2, .int .u64 u3, .int .i64 k, .int .i64 t], .int .i64 0]) ∧ Chg NoChg w w') (hQ : ∀ w, Door w → Calls Tryz.prog 9 #[.string y] w fun e w' => e = .returned (.tuple #[.agg #[.int .i64 0, .int .i64 0, .bool false, .int .u64 0, .int .u64 0, .int .u64 0, .int .u64 0, .int .u64 0, .int .u64 0, .int .u64 0, .int .u64 0, .int .u64 0, .int .i64 0, .int .i64 0], .int .i64 2]) ∧ Chg NoChg w w') (w : World) (hd : Door w) :
    Calls Tryz.prog 3 #[.agg #[.int .i64 i, .int .i64 p, .bool b, .int .u64 r1, .int .u64 r2, .int .u64 r3, .int .u64 h1, .int .u64 h2, .int .u64 h3, .int .u64 u1, .int .u64 u2, .int .u64 u3, .int .i64 k, .int .i64 t], .string y] w fun e w' => e = .returned (.bool true) ∧ Chg NoChg w w' := by
  have HD := hide hd
  have HT := hide hT
  have HQ := hide hQ
  have HP := hide hP
  clear hd hT hQ hP
  have Bs0 := hide (Blk.new w #[.int .i64 i, .int .i64 p, .bool b, .int .u64 r1, .int .u64 r2, .int .u64 r3, .int .u64 h1, .int .u64 h2, .int .u64 h3, .int .u64 u1, .int .u64 u2, .int .u64 u3, .int .i64 k, .int .i64 t] 26)
  have C0 := hide ((Chg.refl NoChg w).alloc (.cells #[.int .i64 i, .int .i64 p, .bool b, .int .u64 r1, .int .u64 r2, .int .u64 r3, .int .u64 h1, .int .u64 h2, .int .u64 h3, .int .u64 u1, .int .u64 u2, .int .u64 u3, .int .i64 k, .int .i64 t] 26))
  go_enter Tryz.func3, Tryz.ntmps3
  go_wp2_with fail
  refine (l13awake_any _ (HD.out.keep C0.out)).mono ?_
  rintro e w1 ⟨rfl, c1⟩
  have D1 := hide (c1)
  have Bs1 := hide (D1.out.blk Bs0.out (fun h => h))
  have C1 := hide (C0.out.trans' D1.out)
  clear c1 D1 C0 Bs0
  obtain ⟨a0, a1, a2, a3, a4, a5, a6, a7, a8, a9, a10, a11, a12, a13⟩ := spc_cellsI Bs1.out
  go_wp2_with fail
  refine (HT.out _ (HD.out.keep C1.out)).mono ?_
  rintro e w2 ⟨rfl, c2⟩
  have D2 := hide (c2)
  have Bs2 := hide (D2.out.blk Bs1.out (fun h => h))
  have C2 := hide (C1.out.trans' D2.out)
  clear c2 D2 C1 Bs1 a0 a1 a2 a3 a4 a5 a6 a7 a8 a9 a10 a11 a12 a13
  obtain ⟨a0, a1, a2, a3, a4, a5, a6, a7, a8, a9, a10, a11, a12, a13⟩ := spc_cellsI Bs2.out
  go_wp2_with fail
  refine (HP.out _ (HD.out.keep C2.out)).mono ?_
  rintro e w3 ⟨rfl, c3⟩
  have D3 := hide ((c3).alloc (.cells #[.int .i64 i, .int .i64 p, .bool b, .int .u64 r1, .int .u64 r2, .int .u64 r3, .int .u64 h1, .int .u64 h2, .int .u64 h3, .int .u64 u1, .int .u64 u2, .int .u64 u3, .int .i64 k, .int .i64 t] 26))
  have Bs3 := hide (D3.out.blk Bs2.out (fun h => h))
  have Bx3 := hide (Blk.new w3 #[.int .i64 i, .int .i64 p, .bool b, .int .u64 r1, .int .u64 r2, .int .u64 r3, .int .u64 h1, .int .u64 h2, .int .u64 h3, .int .u64 u1, .int .u64 u2, .int .u64 u3, .int .i64 k, .int .i64 t] 26)
  have C3 := hide (C2.out.trans' D3.out)
  clear c3 D3 C2 Bs2 a0 a1 a2 a3 a4 a5 a6 a7 a8 a9 a10 a11 a12 a13
  obtain ⟨a0, a1, a2, a3, a4, a5, a6, a7, a8, a9, a10, a11, a12, a13⟩ := spc_cellsI Bs3.out
  obtain ⟨b0, b1, b2, b3, b4, b5, b6, b7, b8, b9, b10, b11, b12, b13⟩ := spc_cellsI Bx3.out
  go_wp2_with fail
  refine (HQ.out _ (HD.out.keep C3.out)).mono ?_
  rintro e w4 ⟨rfl, c4⟩
  have D4 := hide ((c4).alloc (.cells #[.int .i64 0, .int .i64 0, .bool false, .int .u64 0, .int .u64 0, .int .u64 0, .int .u64 0, .int .u64 0, .int .u64 0, .int .u64 0, .int .u64 0, .int .u64 0, .int .i64 0, .int .i64 0] 26))
  have Bs4 := hide (D4.out.blk Bs3.out (fun h => h))
  have Bx4 := hide (D4.out.blk Bx3.out (fun h => h))
  have Bq4 := hide (Blk.new w4 #[.int .i64 0, .int .i64 0, .bool false, .int .u64 0, .int .u64 0, .int .u64 0, .int .u64 0, .int .u64 0, .int .u64 0, .int .u64 0, .int .u64 0, .int .u64 0, .int .i64 0, .int .i64 0] 26)
  have C4 := hide (C3.out.trans' D4.out)
  clear c4 D4 C3 Bs3 Bx3 a0 a1 a2 a3 a4 a5 a6 a7 a8 a9 a10 a11 a12 a13 b0 b1 b2 b3 b4 b5 b6 b7 b8 b9 b10 b11 b12 b13
  obtain ⟨a0, a1, a2, a3, a4, a5, a6, a7, a8, a9, a10, a11, a12, a13⟩ := spc_cellsI Bq4.out
  go_wp2
  go_ret
  exact ⟨rfl, C4.out⟩

set_option maxRecDepth 100000 in
set_option maxHeartbeats 8000000 in
theorem back_bad0_yes (i p k t r1 r2 r3 h1 h2 h3 u1 u2 u3 : Int) (b : Bool) (i' p' k' t' r1' r2' r3' h1' h2' h3' u1' u2' u3' : Int) (b' : Bool) (y : ByteArray) (hsz : ¬ (400 : Int) < (y.size : Int)) (g0 : i < 0) (hT : ∀ w, Door w → Calls Tryz.prog 8 #[.agg #[.int .i64 i, .int .i64 p, .bool b, .int .u64 r1, .int .u64 r2, .int .u64 r3, .int .u64 h1, .int .u64 h2, .int .u64 h3, .int .u64 u1, .int .u64 u2, .int .u64 u3, .int .i64 k, .int .i64 t]] w fun e w' => e = .returned (.tuple #[.string ⟨#[]⟩, .int .i64 2]) ∧ Chg NoChg w w') (hQ : ∀ w, Door w → Calls Tryz.prog 9 #[.string y] w fun e w' => e = .returned (.tuple #[.agg #[.int .i64 i', .int .i64 p', .bool b', .int .u64 r1', .int .u64 r2', .int .u64 r3', .int .u64 h1', .int .u64 h2', .int .u64 h3', .int .u64 u1', .int .u64 u2', .int .u64 u3', .int .i64 k', .int .i64 t'], .int .i64 0]) ∧ Chg NoChg w w') (hU : ∀ w, Door w → Calls Tryz.prog 8 #[.agg #[.int .i64 i', .int .i64 p', .bool b', .int .u64 r1', .int .u64 r2', .int .u64 r3', .int .u64 h1', .int .u64 h2', .int .u64 h3', .int .u64 u1', .int .u64 u2', .int .u64 u3', .int .i64 k', .int .i64 t']] w fun e w' => e = .returned (.tuple #[.string y, .int .i64 0]) ∧ Chg NoChg w w') (w : World) (hd : Door w) :
    Calls Tryz.prog 3 #[.agg #[.int .i64 i, .int .i64 p, .bool b, .int .u64 r1, .int .u64 r2, .int .u64 r3, .int .u64 h1, .int .u64 h2, .int .u64 h3, .int .u64 u1, .int .u64 u2, .int .u64 u3, .int .i64 k, .int .i64 t], .string y] w fun e w' => e = .returned (.bool true) ∧ Chg NoChg w w' := by
  have HD := hide hd
  have HT := hide hT
  have HQ := hide hQ
  have HU := hide hU
  clear hd hT hQ hU
  have Bs0 := hide (Blk.new w #[.int .i64 i, .int .i64 p, .bool b, .int .u64 r1, .int .u64 r2, .int .u64 r3, .int .u64 h1, .int .u64 h2, .int .u64 h3, .int .u64 u1, .int .u64 u2, .int .u64 u3, .int .i64 k, .int .i64 t] 26)
  have C0 := hide ((Chg.refl NoChg w).alloc (.cells #[.int .i64 i, .int .i64 p, .bool b, .int .u64 r1, .int .u64 r2, .int .u64 r3, .int .u64 h1, .int .u64 h2, .int .u64 h3, .int .u64 u1, .int .u64 u2, .int .u64 u3, .int .i64 k, .int .i64 t] 26))
  go_enter Tryz.func3, Tryz.ntmps3
  go_wp2_with fail
  refine (l13awake_any _ (HD.out.keep C0.out)).mono ?_
  rintro e w1 ⟨rfl, c1⟩
  have D1 := hide (c1)
  have Bs1 := hide (D1.out.blk Bs0.out (fun h => h))
  have C1 := hide (C0.out.trans' D1.out)
  clear c1 D1 C0 Bs0
  obtain ⟨a0, a1, a2, a3, a4, a5, a6, a7, a8, a9, a10, a11, a12, a13⟩ := spc_cellsI Bs1.out
  go_wp2_with fail
  refine (HT.out _ (HD.out.keep C1.out)).mono ?_
  rintro e w2 ⟨rfl, c2⟩
  have D2 := hide (c2)
  have Bs2 := hide (D2.out.blk Bs1.out (fun h => h))
  have C2 := hide (C1.out.trans' D2.out)
  clear c2 D2 C1 Bs1 a0 a1 a2 a3 a4 a5 a6 a7 a8 a9 a10 a11 a12 a13
  obtain ⟨a0, a1, a2, a3, a4, a5, a6, a7, a8, a9, a10, a11, a12, a13⟩ := spc_cellsI Bs2.out
  go_wp2_with fail
  refine (HQ.out _ (HD.out.keep C2.out)).mono ?_
  rintro e w3 ⟨rfl, c3⟩
  have D3 := hide ((c3).alloc (.cells #[.int .i64 i', .int .i64 p', .bool b', .int .u64 r1', .int .u64 r2', .int .u64 r3', .int .u64 h1', .int .u64 h2', .int .u64 h3', .int .u64 u1', .int .u64 u2', .int .u64 u3', .int .i64 k', .int .i64 t'] 26))
  have Bs3 := hide (D3.out.blk Bs2.out (fun h => h))
  have Bq3 := hide (Blk.new w3 #[.int .i64 i', .int .i64 p', .bool b', .int .u64 r1', .int .u64 r2', .int .u64 r3', .int .u64 h1', .int .u64 h2', .int .u64 h3', .int .u64 u1', .int .u64 u2', .int .u64 u3', .int .i64 k', .int .i64 t'] 26)
  have C3 := hide (C2.out.trans' D3.out)
  clear c3 D3 C2 Bs2 a0 a1 a2 a3 a4 a5 a6 a7 a8 a9 a10 a11 a12 a13
  obtain ⟨a0, a1, a2, a3, a4, a5, a6, a7, a8, a9, a10, a11, a12, a13⟩ := spc_cellsI Bq3.out
  go_wp2_with fail
  refine (HU.out _ (HD.out.keep C3.out)).mono ?_
  rintro e w4 ⟨rfl, c4⟩
  have D4 := hide (c4)
  have Bs4 := hide (D4.out.blk Bs3.out (fun h => h))
  have Bq4 := hide (D4.out.blk Bq3.out (fun h => h))
  have C4 := hide (C3.out.trans' D4.out)
  clear c4 D4 C3 Bs3 Bq3 a0 a1 a2 a3 a4 a5 a6 a7 a8 a9 a10 a11 a12 a13
  go_wp2
  go_ret
  exact ⟨rfl, C4.out⟩

set_option maxRecDepth 100000 in
set_option maxHeartbeats 8000000 in
theorem back_bad0_no (i p k t r1 r2 r3 h1 h2 h3 u1 u2 u3 : Int) (b : Bool)  (y : ByteArray) (hsz : ¬ (400 : Int) < (y.size : Int)) (g0 : i < 0) (hT : ∀ w, Door w → Calls Tryz.prog 8 #[.agg #[.int .i64 i, .int .i64 p, .bool b, .int .u64 r1, .int .u64 r2, .int .u64 r3, .int .u64 h1, .int .u64 h2, .int .u64 h3, .int .u64 u1, .int .u64 u2, .int .u64 u3, .int .i64 k, .int .i64 t]] w fun e w' => e = .returned (.tuple #[.string ⟨#[]⟩, .int .i64 2]) ∧ Chg NoChg w w') (hQ : ∀ w, Door w → Calls Tryz.prog 9 #[.string y] w fun e w' => e = .returned (.tuple #[.agg #[.int .i64 0, .int .i64 0, .bool false, .int .u64 0, .int .u64 0, .int .u64 0, .int .u64 0, .int .u64 0, .int .u64 0, .int .u64 0, .int .u64 0, .int .u64 0, .int .i64 0, .int .i64 0], .int .i64 2]) ∧ Chg NoChg w w') (w : World) (hd : Door w) :
    Calls Tryz.prog 3 #[.agg #[.int .i64 i, .int .i64 p, .bool b, .int .u64 r1, .int .u64 r2, .int .u64 r3, .int .u64 h1, .int .u64 h2, .int .u64 h3, .int .u64 u1, .int .u64 u2, .int .u64 u3, .int .i64 k, .int .i64 t], .string y] w fun e w' => e = .returned (.bool true) ∧ Chg NoChg w w' := by
  have HD := hide hd
  have HT := hide hT
  have HQ := hide hQ
  clear hd hT hQ
  have Bs0 := hide (Blk.new w #[.int .i64 i, .int .i64 p, .bool b, .int .u64 r1, .int .u64 r2, .int .u64 r3, .int .u64 h1, .int .u64 h2, .int .u64 h3, .int .u64 u1, .int .u64 u2, .int .u64 u3, .int .i64 k, .int .i64 t] 26)
  have C0 := hide ((Chg.refl NoChg w).alloc (.cells #[.int .i64 i, .int .i64 p, .bool b, .int .u64 r1, .int .u64 r2, .int .u64 r3, .int .u64 h1, .int .u64 h2, .int .u64 h3, .int .u64 u1, .int .u64 u2, .int .u64 u3, .int .i64 k, .int .i64 t] 26))
  go_enter Tryz.func3, Tryz.ntmps3
  go_wp2_with fail
  refine (l13awake_any _ (HD.out.keep C0.out)).mono ?_
  rintro e w1 ⟨rfl, c1⟩
  have D1 := hide (c1)
  have Bs1 := hide (D1.out.blk Bs0.out (fun h => h))
  have C1 := hide (C0.out.trans' D1.out)
  clear c1 D1 C0 Bs0
  obtain ⟨a0, a1, a2, a3, a4, a5, a6, a7, a8, a9, a10, a11, a12, a13⟩ := spc_cellsI Bs1.out
  go_wp2_with fail
  refine (HT.out _ (HD.out.keep C1.out)).mono ?_
  rintro e w2 ⟨rfl, c2⟩
  have D2 := hide (c2)
  have Bs2 := hide (D2.out.blk Bs1.out (fun h => h))
  have C2 := hide (C1.out.trans' D2.out)
  clear c2 D2 C1 Bs1 a0 a1 a2 a3 a4 a5 a6 a7 a8 a9 a10 a11 a12 a13
  obtain ⟨a0, a1, a2, a3, a4, a5, a6, a7, a8, a9, a10, a11, a12, a13⟩ := spc_cellsI Bs2.out
  go_wp2_with fail
  refine (HQ.out _ (HD.out.keep C2.out)).mono ?_
  rintro e w3 ⟨rfl, c3⟩
  have D3 := hide ((c3).alloc (.cells #[.int .i64 0, .int .i64 0, .bool false, .int .u64 0, .int .u64 0, .int .u64 0, .int .u64 0, .int .u64 0, .int .u64 0, .int .u64 0, .int .u64 0, .int .u64 0, .int .i64 0, .int .i64 0] 26))
  have Bs3 := hide (D3.out.blk Bs2.out (fun h => h))
  have Bq3 := hide (Blk.new w3 #[.int .i64 0, .int .i64 0, .bool false, .int .u64 0, .int .u64 0, .int .u64 0, .int .u64 0, .int .u64 0, .int .u64 0, .int .u64 0, .int .u64 0, .int .u64 0, .int .i64 0, .int .i64 0] 26)
  have C3 := hide (C2.out.trans' D3.out)
  clear c3 D3 C2 Bs2 a0 a1 a2 a3 a4 a5 a6 a7 a8 a9 a10 a11 a12 a13
  obtain ⟨a0, a1, a2, a3, a4, a5, a6, a7, a8, a9, a10, a11, a12, a13⟩ := spc_cellsI Bq3.out
  go_wp2
  go_ret
  exact ⟨rfl, C3.out⟩

set_option maxRecDepth 100000 in
set_option maxHeartbeats 8000000 in
theorem back_bad1_yes (i p k t r1 r2 r3 h1 h2 h3 u1 u2 u3 : Int) (b : Bool) (i' p' k' t' r1' r2' r3' h1' h2' h3' u1' u2' u3' : Int) (b' : Bool) (y : ByteArray) (hsz : ¬ (400 : Int) < (y.size : Int)) (g0 : 0 ≤ i) (g1 : p < 0) (hT : ∀ w, Door w → Calls Tryz.prog 8 #[.agg #[.int .i64 i, .int .i64 p, .bool b, .int .u64 r1, .int .u64 r2, .int .u64 r3, .int .u64 h1, .int .u64 h2, .int .u64 h3, .int .u64 u1, .int .u64 u2, .int .u64 u3, .int .i64 k, .int .i64 t]] w fun e w' => e = .returned (.tuple #[.string ⟨#[]⟩, .int .i64 2]) ∧ Chg NoChg w w') (hQ : ∀ w, Door w → Calls Tryz.prog 9 #[.string y] w fun e w' => e = .returned (.tuple #[.agg #[.int .i64 i', .int .i64 p', .bool b', .int .u64 r1', .int .u64 r2', .int .u64 r3', .int .u64 h1', .int .u64 h2', .int .u64 h3', .int .u64 u1', .int .u64 u2', .int .u64 u3', .int .i64 k', .int .i64 t'], .int .i64 0]) ∧ Chg NoChg w w') (hU : ∀ w, Door w → Calls Tryz.prog 8 #[.agg #[.int .i64 i', .int .i64 p', .bool b', .int .u64 r1', .int .u64 r2', .int .u64 r3', .int .u64 h1', .int .u64 h2', .int .u64 h3', .int .u64 u1', .int .u64 u2', .int .u64 u3', .int .i64 k', .int .i64 t']] w fun e w' => e = .returned (.tuple #[.string y, .int .i64 0]) ∧ Chg NoChg w w') (w : World) (hd : Door w) :
    Calls Tryz.prog 3 #[.agg #[.int .i64 i, .int .i64 p, .bool b, .int .u64 r1, .int .u64 r2, .int .u64 r3, .int .u64 h1, .int .u64 h2, .int .u64 h3, .int .u64 u1, .int .u64 u2, .int .u64 u3, .int .i64 k, .int .i64 t], .string y] w fun e w' => e = .returned (.bool true) ∧ Chg NoChg w w' := by
  have HD := hide hd
  have HT := hide hT
  have HQ := hide hQ
  have HU := hide hU
  clear hd hT hQ hU
  have Bs0 := hide (Blk.new w #[.int .i64 i, .int .i64 p, .bool b, .int .u64 r1, .int .u64 r2, .int .u64 r3, .int .u64 h1, .int .u64 h2, .int .u64 h3, .int .u64 u1, .int .u64 u2, .int .u64 u3, .int .i64 k, .int .i64 t] 26)
  have C0 := hide ((Chg.refl NoChg w).alloc (.cells #[.int .i64 i, .int .i64 p, .bool b, .int .u64 r1, .int .u64 r2, .int .u64 r3, .int .u64 h1, .int .u64 h2, .int .u64 h3, .int .u64 u1, .int .u64 u2, .int .u64 u3, .int .i64 k, .int .i64 t] 26))
  go_enter Tryz.func3, Tryz.ntmps3
  go_wp2_with fail
  refine (l13awake_any _ (HD.out.keep C0.out)).mono ?_
  rintro e w1 ⟨rfl, c1⟩
  have D1 := hide (c1)
  have Bs1 := hide (D1.out.blk Bs0.out (fun h => h))
  have C1 := hide (C0.out.trans' D1.out)
  clear c1 D1 C0 Bs0
  obtain ⟨a0, a1, a2, a3, a4, a5, a6, a7, a8, a9, a10, a11, a12, a13⟩ := spc_cellsI Bs1.out
  go_wp2_with fail
  refine (HT.out _ (HD.out.keep C1.out)).mono ?_
  rintro e w2 ⟨rfl, c2⟩
  have D2 := hide (c2)
  have Bs2 := hide (D2.out.blk Bs1.out (fun h => h))
  have C2 := hide (C1.out.trans' D2.out)
  clear c2 D2 C1 Bs1 a0 a1 a2 a3 a4 a5 a6 a7 a8 a9 a10 a11 a12 a13
  obtain ⟨a0, a1, a2, a3, a4, a5, a6, a7, a8, a9, a10, a11, a12, a13⟩ := spc_cellsI Bs2.out
  go_wp2_with fail
  refine (HQ.out _ (HD.out.keep C2.out)).mono ?_
  rintro e w3 ⟨rfl, c3⟩
  have D3 := hide ((c3).alloc (.cells #[.int .i64 i', .int .i64 p', .bool b', .int .u64 r1', .int .u64 r2', .int .u64 r3', .int .u64 h1', .int .u64 h2', .int .u64 h3', .int .u64 u1', .int .u64 u2', .int .u64 u3', .int .i64 k', .int .i64 t'] 26))
  have Bs3 := hide (D3.out.blk Bs2.out (fun h => h))
  have Bq3 := hide (Blk.new w3 #[.int .i64 i', .int .i64 p', .bool b', .int .u64 r1', .int .u64 r2', .int .u64 r3', .int .u64 h1', .int .u64 h2', .int .u64 h3', .int .u64 u1', .int .u64 u2', .int .u64 u3', .int .i64 k', .int .i64 t'] 26)
  have C3 := hide (C2.out.trans' D3.out)
  clear c3 D3 C2 Bs2 a0 a1 a2 a3 a4 a5 a6 a7 a8 a9 a10 a11 a12 a13
  obtain ⟨a0, a1, a2, a3, a4, a5, a6, a7, a8, a9, a10, a11, a12, a13⟩ := spc_cellsI Bq3.out
  go_wp2_with fail
  refine (HU.out _ (HD.out.keep C3.out)).mono ?_
  rintro e w4 ⟨rfl, c4⟩
  have D4 := hide (c4)
  have Bs4 := hide (D4.out.blk Bs3.out (fun h => h))
  have Bq4 := hide (D4.out.blk Bq3.out (fun h => h))
  have C4 := hide (C3.out.trans' D4.out)
  clear c4 D4 C3 Bs3 Bq3 a0 a1 a2 a3 a4 a5 a6 a7 a8 a9 a10 a11 a12 a13
  go_wp2
  go_ret
  exact ⟨rfl, C4.out⟩

set_option maxRecDepth 100000 in
set_option maxHeartbeats 8000000 in
theorem back_bad1_no (i p k t r1 r2 r3 h1 h2 h3 u1 u2 u3 : Int) (b : Bool)  (y : ByteArray) (hsz : ¬ (400 : Int) < (y.size : Int)) (g0 : 0 ≤ i) (g1 : p < 0) (hT : ∀ w, Door w → Calls Tryz.prog 8 #[.agg #[.int .i64 i, .int .i64 p, .bool b, .int .u64 r1, .int .u64 r2, .int .u64 r3, .int .u64 h1, .int .u64 h2, .int .u64 h3, .int .u64 u1, .int .u64 u2, .int .u64 u3, .int .i64 k, .int .i64 t]] w fun e w' => e = .returned (.tuple #[.string ⟨#[]⟩, .int .i64 2]) ∧ Chg NoChg w w') (hQ : ∀ w, Door w → Calls Tryz.prog 9 #[.string y] w fun e w' => e = .returned (.tuple #[.agg #[.int .i64 0, .int .i64 0, .bool false, .int .u64 0, .int .u64 0, .int .u64 0, .int .u64 0, .int .u64 0, .int .u64 0, .int .u64 0, .int .u64 0, .int .u64 0, .int .i64 0, .int .i64 0], .int .i64 2]) ∧ Chg NoChg w w') (w : World) (hd : Door w) :
    Calls Tryz.prog 3 #[.agg #[.int .i64 i, .int .i64 p, .bool b, .int .u64 r1, .int .u64 r2, .int .u64 r3, .int .u64 h1, .int .u64 h2, .int .u64 h3, .int .u64 u1, .int .u64 u2, .int .u64 u3, .int .i64 k, .int .i64 t], .string y] w fun e w' => e = .returned (.bool true) ∧ Chg NoChg w w' := by
  have HD := hide hd
  have HT := hide hT
  have HQ := hide hQ
  clear hd hT hQ
  have Bs0 := hide (Blk.new w #[.int .i64 i, .int .i64 p, .bool b, .int .u64 r1, .int .u64 r2, .int .u64 r3, .int .u64 h1, .int .u64 h2, .int .u64 h3, .int .u64 u1, .int .u64 u2, .int .u64 u3, .int .i64 k, .int .i64 t] 26)
  have C0 := hide ((Chg.refl NoChg w).alloc (.cells #[.int .i64 i, .int .i64 p, .bool b, .int .u64 r1, .int .u64 r2, .int .u64 r3, .int .u64 h1, .int .u64 h2, .int .u64 h3, .int .u64 u1, .int .u64 u2, .int .u64 u3, .int .i64 k, .int .i64 t] 26))
  go_enter Tryz.func3, Tryz.ntmps3
  go_wp2_with fail
  refine (l13awake_any _ (HD.out.keep C0.out)).mono ?_
  rintro e w1 ⟨rfl, c1⟩
  have D1 := hide (c1)
  have Bs1 := hide (D1.out.blk Bs0.out (fun h => h))
  have C1 := hide (C0.out.trans' D1.out)
  clear c1 D1 C0 Bs0
  obtain ⟨a0, a1, a2, a3, a4, a5, a6, a7, a8, a9, a10, a11, a12, a13⟩ := spc_cellsI Bs1.out
  go_wp2_with fail
  refine (HT.out _ (HD.out.keep C1.out)).mono ?_
  rintro e w2 ⟨rfl, c2⟩
  have D2 := hide (c2)
  have Bs2 := hide (D2.out.blk Bs1.out (fun h => h))
  have C2 := hide (C1.out.trans' D2.out)
  clear c2 D2 C1 Bs1 a0 a1 a2 a3 a4 a5 a6 a7 a8 a9 a10 a11 a12 a13
  obtain ⟨a0, a1, a2, a3, a4, a5, a6, a7, a8, a9, a10, a11, a12, a13⟩ := spc_cellsI Bs2.out
  go_wp2_with fail
  refine (HQ.out _ (HD.out.keep C2.out)).mono ?_
  rintro e w3 ⟨rfl, c3⟩
  have D3 := hide ((c3).alloc (.cells #[.int .i64 0, .int .i64 0, .bool false, .int .u64 0, .int .u64 0, .int .u64 0, .int .u64 0, .int .u64 0, .int .u64 0, .int .u64 0, .int .u64 0, .int .u64 0, .int .i64 0, .int .i64 0] 26))
  have Bs3 := hide (D3.out.blk Bs2.out (fun h => h))
  have Bq3 := hide (Blk.new w3 #[.int .i64 0, .int .i64 0, .bool false, .int .u64 0, .int .u64 0, .int .u64 0, .int .u64 0, .int .u64 0, .int .u64 0, .int .u64 0, .int .u64 0, .int .u64 0, .int .i64 0, .int .i64 0] 26)
  have C3 := hide (C2.out.trans' D3.out)
  clear c3 D3 C2 Bs2 a0 a1 a2 a3 a4 a5 a6 a7 a8 a9 a10 a11 a12 a13
  obtain ⟨a0, a1, a2, a3, a4, a5, a6, a7, a8, a9, a10, a11, a12, a13⟩ := spc_cellsI Bq3.out
  go_wp2
  go_ret
  exact ⟨rfl, C3.out⟩

set_option maxRecDepth 100000 in
set_option maxHeartbeats 8000000 in
theorem back_bad2_yes (i p k t r1 r2 r3 h1 h2 h3 u1 u2 u3 : Int) (b : Bool) (i' p' k' t' r1' r2' r3' h1' h2' h3' u1' u2' u3' : Int) (b' : Bool) (y : ByteArray) (hsz : ¬ (400 : Int) < (y.size : Int)) (g0 : 0 ≤ i) (g1 : 0 ≤ p) (g2 : k < 0) (hT : ∀ w, Door w → Calls Tryz.prog 8 #[.agg #[.int .i64 i, .int .i64 p, .bool b, .int .u64 r1, .int .u64 r2, .int .u64 r3, .int .u64 h1, .int .u64 h2, .int .u64 h3, .int .u64 u1, .int .u64 u2, .int .u64 u3, .int .i64 k, .int .i64 t]] w fun e w' => e = .returned (.tuple #[.string ⟨#[]⟩, .int .i64 2]) ∧ Chg NoChg w w') (hQ : ∀ w, Door w → Calls Tryz.prog 9 #[.string y] w fun e w' => e = .returned (.tuple #[.agg #[.int .i64 i', .int .i64 p', .bool b', .int .u64 r1', .int .u64 r2', .int .u64 r3', .int .u64 h1', .int .u64 h2', .int .u64 h3', .int .u64 u1', .int .u64 u2', .int .u64 u3', .int .i64 k', .int .i64 t'], .int .i64 0]) ∧ Chg NoChg w w') (hU : ∀ w, Door w → Calls Tryz.prog 8 #[.agg #[.int .i64 i', .int .i64 p', .bool b', .int .u64 r1', .int .u64 r2', .int .u64 r3', .int .u64 h1', .int .u64 h2', .int .u64 h3', .int .u64 u1', .int .u64 u2', .int .u64 u3', .int .i64 k', .int .i64 t']] w fun e w' => e = .returned (.tuple #[.string y, .int .i64 0]) ∧ Chg NoChg w w') (w : World) (hd : Door w) :
    Calls Tryz.prog 3 #[.agg #[.int .i64 i, .int .i64 p, .bool b, .int .u64 r1, .int .u64 r2, .int .u64 r3, .int .u64 h1, .int .u64 h2, .int .u64 h3, .int .u64 u1, .int .u64 u2, .int .u64 u3, .int .i64 k, .int .i64 t], .string y] w fun e w' => e = .returned (.bool true) ∧ Chg NoChg w w' := by
  have HD := hide hd
  have HT := hide hT
  have HQ := hide hQ
  have HU := hide hU
  clear hd hT hQ hU
  have Bs0 := hide (Blk.new w #[.int .i64 i, .int .i64 p, .bool b, .int .u64 r1, .int .u64 r2, .int .u64 r3, .int .u64 h1, .int .u64 h2, .int .u64 h3, .int .u64 u1, .int .u64 u2, .int .u64 u3, .int .i64 k, .int .i64 t] 26)
  have C0 := hide ((Chg.refl NoChg w).alloc (.cells #[.int .i64 i, .int .i64 p, .bool b, .int .u64 r1, .int .u64 r2, .int .u64 r3, .int .u64 h1, .int .u64 h2, .int .u64 h3, .int .u64 u1, .int .u64 u2, .int .u64 u3, .int .i64 k, .int .i64 t] 26))
  go_enter Tryz.func3, Tryz.ntmps3
  go_wp2_with fail
  refine (l13awake_any _ (HD.out.keep C0.out)).mono ?_
  rintro e w1 ⟨rfl, c1⟩
  have D1 := hide (c1)
  have Bs1 := hide (D1.out.blk Bs0.out (fun h => h))
  have C1 := hide (C0.out.trans' D1.out)
  clear c1 D1 C0 Bs0
  obtain ⟨a0, a1, a2, a3, a4, a5, a6, a7, a8, a9, a10, a11, a12, a13⟩ := spc_cellsI Bs1.out
  go_wp2_with fail
  refine (HT.out _ (HD.out.keep C1.out)).mono ?_
  rintro e w2 ⟨rfl, c2⟩
  have D2 := hide (c2)
  have Bs2 := hide (D2.out.blk Bs1.out (fun h => h))
  have C2 := hide (C1.out.trans' D2.out)
  clear c2 D2 C1 Bs1 a0 a1 a2 a3 a4 a5 a6 a7 a8 a9 a10 a11 a12 a13
  obtain ⟨a0, a1, a2, a3, a4, a5, a6, a7, a8, a9, a10, a11, a12, a13⟩ := spc_cellsI Bs2.out
  go_wp2_with fail
  refine (HQ.out _ (HD.out.keep C2.out)).mono ?_
  rintro e w3 ⟨rfl, c3⟩
  have D3 := hide ((c3).alloc (.cells #[.int .i64 i', .int .i64 p', .bool b', .int .u64 r1', .int .u64 r2', .int .u64 r3', .int .u64 h1', .int .u64 h2', .int .u64 h3', .int .u64 u1', .int .u64 u2', .int .u64 u3', .int .i64 k', .int .i64 t'] 26))
  have Bs3 := hide (D3.out.blk Bs2.out (fun h => h))
  have Bq3 := hide (Blk.new w3 #[.int .i64 i', .int .i64 p', .bool b', .int .u64 r1', .int .u64 r2', .int .u64 r3', .int .u64 h1', .int .u64 h2', .int .u64 h3', .int .u64 u1', .int .u64 u2', .int .u64 u3', .int .i64 k', .int .i64 t'] 26)
  have C3 := hide (C2.out.trans' D3.out)
  clear c3 D3 C2 Bs2 a0 a1 a2 a3 a4 a5 a6 a7 a8 a9 a10 a11 a12 a13
  obtain ⟨a0, a1, a2, a3, a4, a5, a6, a7, a8, a9, a10, a11, a12, a13⟩ := spc_cellsI Bq3.out
  go_wp2_with fail
  refine (HU.out _ (HD.out.keep C3.out)).mono ?_
  rintro e w4 ⟨rfl, c4⟩
  have D4 := hide (c4)
  have Bs4 := hide (D4.out.blk Bs3.out (fun h => h))
  have Bq4 := hide (D4.out.blk Bq3.out (fun h => h))
  have C4 := hide (C3.out.trans' D4.out)
  clear c4 D4 C3 Bs3 Bq3 a0 a1 a2 a3 a4 a5 a6 a7 a8 a9 a10 a11 a12 a13
  go_wp2
  go_ret
  exact ⟨rfl, C4.out⟩

set_option maxRecDepth 100000 in
set_option maxHeartbeats 8000000 in
theorem back_bad2_no (i p k t r1 r2 r3 h1 h2 h3 u1 u2 u3 : Int) (b : Bool)  (y : ByteArray) (hsz : ¬ (400 : Int) < (y.size : Int)) (g0 : 0 ≤ i) (g1 : 0 ≤ p) (g2 : k < 0) (hT : ∀ w, Door w → Calls Tryz.prog 8 #[.agg #[.int .i64 i, .int .i64 p, .bool b, .int .u64 r1, .int .u64 r2, .int .u64 r3, .int .u64 h1, .int .u64 h2, .int .u64 h3, .int .u64 u1, .int .u64 u2, .int .u64 u3, .int .i64 k, .int .i64 t]] w fun e w' => e = .returned (.tuple #[.string ⟨#[]⟩, .int .i64 2]) ∧ Chg NoChg w w') (hQ : ∀ w, Door w → Calls Tryz.prog 9 #[.string y] w fun e w' => e = .returned (.tuple #[.agg #[.int .i64 0, .int .i64 0, .bool false, .int .u64 0, .int .u64 0, .int .u64 0, .int .u64 0, .int .u64 0, .int .u64 0, .int .u64 0, .int .u64 0, .int .u64 0, .int .i64 0, .int .i64 0], .int .i64 2]) ∧ Chg NoChg w w') (w : World) (hd : Door w) :
    Calls Tryz.prog 3 #[.agg #[.int .i64 i, .int .i64 p, .bool b, .int .u64 r1, .int .u64 r2, .int .u64 r3, .int .u64 h1, .int .u64 h2, .int .u64 h3, .int .u64 u1, .int .u64 u2, .int .u64 u3, .int .i64 k, .int .i64 t], .string y] w fun e w' => e = .returned (.bool true) ∧ Chg NoChg w w' := by
  have HD := hide hd
  have HT := hide hT
  have HQ := hide hQ
  clear hd hT hQ
  have Bs0 := hide (Blk.new w #[.int .i64 i, .int .i64 p, .bool b, .int .u64 r1, .int .u64 r2, .int .u64 r3, .int .u64 h1, .int .u64 h2, .int .u64 h3, .int .u64 u1, .int .u64 u2, .int .u64 u3, .int .i64 k, .int .i64 t] 26)
  have C0 := hide ((Chg.refl NoChg w).alloc (.cells #[.int .i64 i, .int .i64 p, .bool b, .int .u64 r1, .int .u64 r2, .int .u64 r3, .int .u64 h1, .int .u64 h2, .int .u64 h3, .int .u64 u1, .int .u64 u2, .int .u64 u3, .int .i64 k, .int .i64 t] 26))
  go_enter Tryz.func3, Tryz.ntmps3
  go_wp2_with fail
  refine (l13awake_any _ (HD.out.keep C0.out)).mono ?_
  rintro e w1 ⟨rfl, c1⟩
  have D1 := hide (c1)
  have Bs1 := hide (D1.out.blk Bs0.out (fun h => h))
  have C1 := hide (C0.out.trans' D1.out)
  clear c1 D1 C0 Bs0
  obtain ⟨a0, a1, a2, a3, a4, a5, a6, a7, a8, a9, a10, a11, a12, a13⟩ := spc_cellsI Bs1.out
  go_wp2_with fail
  refine (HT.out _ (HD.out.keep C1.out)).mono ?_
  rintro e w2 ⟨rfl, c2⟩
  have D2 := hide (c2)
  have Bs2 := hide (D2.out.blk Bs1.out (fun h => h))
  have C2 := hide (C1.out.trans' D2.out)
  clear c2 D2 C1 Bs1 a0 a1 a2 a3 a4 a5 a6 a7 a8 a9 a10 a11 a12 a13
  obtain ⟨a0, a1, a2, a3, a4, a5, a6, a7, a8, a9, a10, a11, a12, a13⟩ := spc_cellsI Bs2.out
  go_wp2_with fail
  refine (HQ.out _ (HD.out.keep C2.out)).mono ?_
  rintro e w3 ⟨rfl, c3⟩
  have D3 := hide ((c3).alloc (.cells #[.int .i64 0, .int .i64 0, .bool false, .int .u64 0, .int .u64 0, .int .u64 0, .int .u64 0, .int .u64 0, .int .u64 0, .int .u64 0, .int .u64 0, .int .u64 0, .int .i64 0, .int .i64 0] 26))
  have Bs3 := hide (D3.out.blk Bs2.out (fun h => h))
  have Bq3 := hide (Blk.new w3 #[.int .i64 0, .int .i64 0, .bool false, .int .u64 0, .int .u64 0, .int .u64 0, .int .u64 0, .int .u64 0, .int .u64 0, .int .u64 0, .int .u64 0, .int .u64 0, .int .i64 0, .int .i64 0] 26)
  have C3 := hide (C2.out.trans' D3.out)
  clear c3 D3 C2 Bs2 a0 a1 a2 a3 a4 a5 a6 a7 a8 a9 a10 a11 a12 a13
  obtain ⟨a0, a1, a2, a3, a4, a5, a6, a7, a8, a9, a10, a11, a12, a13⟩ := spc_cellsI Bq3.out
  go_wp2
  go_ret
  exact ⟨rfl, C3.out⟩

set_option maxRecDepth 100000 in
set_option maxHeartbeats 8000000 in
theorem back_bad3_yes (i p k t r1 r2 r3 h1 h2 h3 u1 u2 u3 : Int) (b : Bool) (i' p' k' t' r1' r2' r3' h1' h2' h3' u1' u2' u3' : Int) (b' : Bool) (y : ByteArray) (hsz : ¬ (400 : Int) < (y.size : Int)) (g0 : 0 ≤ i) (g1 : 0 ≤ p) (g2 : 0 ≤ k) (g3 : t < 0) (hT : ∀ w, Door w → Calls Tryz.prog 8 #[.agg #[.int .i64 i, .int .i64 p, .bool b, .int .u64 r1, .int .u64 r2, .int .u64 r3, .int .u64 h1, .int .u64 h2, .int .u64 h3, .int .u64 u1, .int .u64 u2, .int .u64 u3, .int .i64 k, .int .i64 t]] w fun e w' => e = .returned (.tuple #[.string ⟨#[]⟩, .int .i64 2]) ∧ Chg NoChg w w') (hQ : ∀ w, Door w → Calls Tryz.prog 9 #[.string y] w fun e w' => e = .returned (.tuple #[.agg #[.int .i64 i', .int .i64 p', .bool b', .int .u64 r1', .int .u64 r2', .int .u64 r3', .int .u64 h1', .int .u64 h2', .int .u64 h3', .int .u64 u1', .int .u64 u2', .int .u64 u3', .int .i64 k', .int .i64 t'], .int .i64 0]) ∧ Chg NoChg w w') (hU : ∀ w, Door w → Calls Tryz.prog 8 #[.agg #[.int .i64 i', .int .i64 p', .bool b', .int .u64 r1', .int .u64 r2', .int .u64 r3', .int .u64 h1', .int .u64 h2', .int .u64 h3', .int .u64 u1', .int .u64 u2', .int .u64 u3', .int .i64 k', .int .i64 t']] w fun e w' => e = .returned (.tuple #[.string y, .int .i64 0]) ∧ Chg NoChg w w') (w : World) (hd : Door w) :
    Calls Tryz.prog 3 #[.agg #[.int .i64 i, .int .i64 p, .bool b, .int .u64 r1, .int .u64 r2, .int .u64 r3, .int .u64 h1, .int .u64 h2, .int .u64 h3, .int .u64 u1, .int .u64 u2, .int .u64 u3, .int .i64 k, .int .i64 t], .string y] w fun e w' => e = .returned (.bool true) ∧ Chg NoChg w w' := by
  have HD := hide hd
  have HT := hide hT
  have HQ := hide hQ
  have HU := hide hU
  clear hd hT hQ hU
  have Bs0 := hide (Blk.new w #[.int .i64 i, .int .i64 p, .bool b, .int .u64 r1, .int .u64 r2, .int .u64 r3, .int .u64 h1, .int .u64 h2, .int .u64 h3, .int .u64 u1, .int .u64 u2, .int .u64 u3, .int .i64 k, .int .i64 t] 26)
  have C0 := hide ((Chg.refl NoChg w).alloc (.cells #[.int .i64 i, .int .i64 p, .bool b, .int .u64 r1, .int .u64 r2, .int .u64 r3, .int .u64 h1, .int .u64 h2, .int .u64 h3, .int .u64 u1, .int .u64 u2, .int .u64 u3, .int .i64 k, .int .i64 t] 26))
  go_enter Tryz.func3, Tryz.ntmps3
  go_wp2_with fail
  refine (l13awake_any _ (HD.out.keep C0.out)).mono ?_
  rintro e w1 ⟨rfl, c1⟩
  have D1 := hide (c1)
  have Bs1 := hide (D1.out.blk Bs0.out (fun h => h))
  have C1 := hide (C0.out.trans' D1.out)
  clear c1 D1 C0 Bs0
  obtain ⟨a0, a1, a2, a3, a4, a5, a6, a7, a8, a9, a10, a11, a12, a13⟩ := spc_cellsI Bs1.out
  go_wp2_with fail
  refine (HT.out _ (HD.out.keep C1.out)).mono ?_
  rintro e w2 ⟨rfl, c2⟩
  have D2 := hide (c2)
  have Bs2 := hide (D2.out.blk Bs1.out (fun h => h))
  have C2 := hide (C1.out.trans' D2.out)
  clear c2 D2 C1 Bs1 a0 a1 a2 a3 a4 a5 a6 a7 a8 a9 a10 a11 a12 a13
  obtain ⟨a0, a1, a2, a3, a4, a5, a6, a7, a8, a9, a10, a11, a12, a13⟩ := spc_cellsI Bs2.out
  go_wp2_with fail
  refine (HQ.out _ (HD.out.keep C2.out)).mono ?_
  rintro e w3 ⟨rfl, c3⟩
  have D3 := hide ((c3).alloc (.cells #[.int .i64 i', .int .i64 p', .bool b', .int .u64 r1', .int .u64 r2', .int .u64 r3', .int .u64 h1', .int .u64 h2', .int .u64 h3', .int .u64 u1', .int .u64 u2', .int .u64 u3', .int .i64 k', .int .i64 t'] 26))
  have Bs3 := hide (D3.out.blk Bs2.out (fun h => h))
  have Bq3 := hide (Blk.new w3 #[.int .i64 i', .int .i64 p', .bool b', .int .u64 r1', .int .u64 r2', .int .u64 r3', .int .u64 h1', .int .u64 h2', .int .u64 h3', .int .u64 u1', .int .u64 u2', .int .u64 u3', .int .i64 k', .int .i64 t'] 26)
  have C3 := hide (C2.out.trans' D3.out)
  clear c3 D3 C2 Bs2 a0 a1 a2 a3 a4 a5 a6 a7 a8 a9 a10 a11 a12 a13
  obtain ⟨a0, a1, a2, a3, a4, a5, a6, a7, a8, a9, a10, a11, a12, a13⟩ := spc_cellsI Bq3.out
  go_wp2_with fail
  refine (HU.out _ (HD.out.keep C3.out)).mono ?_
  rintro e w4 ⟨rfl, c4⟩
  have D4 := hide (c4)
  have Bs4 := hide (D4.out.blk Bs3.out (fun h => h))
  have Bq4 := hide (D4.out.blk Bq3.out (fun h => h))
  have C4 := hide (C3.out.trans' D4.out)
  clear c4 D4 C3 Bs3 Bq3 a0 a1 a2 a3 a4 a5 a6 a7 a8 a9 a10 a11 a12 a13
  go_wp2
  go_ret
  exact ⟨rfl, C4.out⟩

set_option maxRecDepth 100000 in
set_option maxHeartbeats 8000000 in
theorem back_bad3_no (i p k t r1 r2 r3 h1 h2 h3 u1 u2 u3 : Int) (b : Bool)  (y : ByteArray) (hsz : ¬ (400 : Int) < (y.size : Int)) (g0 : 0 ≤ i) (g1 : 0 ≤ p) (g2 : 0 ≤ k) (g3 : t < 0) (hT : ∀ w, Door w → Calls Tryz.prog 8 #[.agg #[.int .i64 i, .int .i64 p, .bool b, .int .u64 r1, .int .u64 r2, .int .u64 r3, .int .u64 h1, .int .u64 h2, .int .u64 h3, .int .u64 u1, .int .u64 u2, .int .u64 u3, .int .i64 k, .int .i64 t]] w fun e w' => e = .returned (.tuple #[.string ⟨#[]⟩, .int .i64 2]) ∧ Chg NoChg w w') (hQ : ∀ w, Door w → Calls Tryz.prog 9 #[.string y] w fun e w' => e = .returned (.tuple #[.agg #[.int .i64 0, .int .i64 0, .bool false, .int .u64 0, .int .u64 0, .int .u64 0, .int .u64 0, .int .u64 0, .int .u64 0, .int .u64 0, .int .u64 0, .int .u64 0, .int .i64 0, .int .i64 0], .int .i64 2]) ∧ Chg NoChg w w') (w : World) (hd : Door w) :
    Calls Tryz.prog 3 #[.agg #[.int .i64 i, .int .i64 p, .bool b, .int .u64 r1, .int .u64 r2, .int .u64 r3, .int .u64 h1, .int .u64 h2, .int .u64 h3, .int .u64 u1, .int .u64 u2, .int .u64 u3, .int .i64 k, .int .i64 t], .string y] w fun e w' => e = .returned (.bool true) ∧ Chg NoChg w w' := by
  have HD := hide hd
  have HT := hide hT
  have HQ := hide hQ
  clear hd hT hQ
  have Bs0 := hide (Blk.new w #[.int .i64 i, .int .i64 p, .bool b, .int .u64 r1, .int .u64 r2, .int .u64 r3, .int .u64 h1, .int .u64 h2, .int .u64 h3, .int .u64 u1, .int .u64 u2, .int .u64 u3, .int .i64 k, .int .i64 t] 26)
  have C0 := hide ((Chg.refl NoChg w).alloc (.cells #[.int .i64 i, .int .i64 p, .bool b, .int .u64 r1, .int .u64 r2, .int .u64 r3, .int .u64 h1, .int .u64 h2, .int .u64 h3, .int .u64 u1, .int .u64 u2, .int .u64 u3, .int .i64 k, .int .i64 t] 26))
  go_enter Tryz.func3, Tryz.ntmps3
  go_wp2_with fail
  refine (l13awake_any _ (HD.out.keep C0.out)).mono ?_
  rintro e w1 ⟨rfl, c1⟩
  have D1 := hide (c1)
  have Bs1 := hide (D1.out.blk Bs0.out (fun h => h))
  have C1 := hide (C0.out.trans' D1.out)
  clear c1 D1 C0 Bs0
  obtain ⟨a0, a1, a2, a3, a4, a5, a6, a7, a8, a9, a10, a11, a12, a13⟩ := spc_cellsI Bs1.out
  go_wp2_with fail
  refine (HT.out _ (HD.out.keep C1.out)).mono ?_
  rintro e w2 ⟨rfl, c2⟩
  have D2 := hide (c2)
  have Bs2 := hide (D2.out.blk Bs1.out (fun h => h))
  have C2 := hide (C1.out.trans' D2.out)
  clear c2 D2 C1 Bs1 a0 a1 a2 a3 a4 a5 a6 a7 a8 a9 a10 a11 a12 a13
  obtain ⟨a0, a1, a2, a3, a4, a5, a6, a7, a8, a9, a10, a11, a12, a13⟩ := spc_cellsI Bs2.out
  go_wp2_with fail
  refine (HQ.out _ (HD.out.keep C2.out)).mono ?_
  rintro e w3 ⟨rfl, c3⟩
  have D3 := hide ((c3).alloc (.cells #[.int .i64 0, .int .i64 0, .bool false, .int .u64 0, .int .u64 0, .int .u64 0, .int .u64 0, .int .u64 0, .int .u64 0, .int .u64 0, .int .u64 0, .int .u64 0, .int .i64 0, .int .i64 0] 26))
  have Bs3 := hide (D3.out.blk Bs2.out (fun h => h))
  have Bq3 := hide (Blk.new w3 #[.int .i64 0, .int .i64 0, .bool false, .int .u64 0, .int .u64 0, .int .u64 0, .int .u64 0, .int .u64 0, .int .u64 0, .int .u64 0, .int .u64 0, .int .u64 0, .int .i64 0, .int .i64 0] 26)
  have C3 := hide (C2.out.trans' D3.out)
  clear c3 D3 C2 Bs2 a0 a1 a2 a3 a4 a5 a6 a7 a8 a9 a10 a11 a12 a13
  obtain ⟨a0, a1, a2, a3, a4, a5, a6, a7, a8, a9, a10, a11, a12, a13⟩ := spc_cellsI Bq3.out
  go_wp2
  go_ret
  exact ⟨rfl, C3.out⟩
end Go.Proofs.YtofgajlpdnokdaaGreatDoor
