/- SpecKinds, walked. Conditions of the lemmas here: what is called tells so. -/
import Derived.Test.YtofgajlpdnokdaaGreatDoorLaw13
import Derived.Test.YtofgajlpdnokdaaGreatDoorSumsK
import Derived.Deep.RegionHeld3
namespace Go.Proofs.YtofgajlpdnokdaaGreatDoor
set_option linter.unusedVariables false
open Go.RowKit

theorem spc_six {w : World} {g : Nat} {i p k t r1 r2 r3 h1 h2 h3 u1 u2 u3 : Int} {b : Bool} (hb : Blk w g #[.int .i64 i, .int .i64 p, .bool b, .int .u64 r1, .int .u64 r2, .int .u64 r3, .int .u64 h1, .int .u64 h2, .int .u64 h3, .int .u64 u1, .int .u64 u2, .int .u64 u3, .int .i64 k, .int .i64 t] 26) : w.cell? ⟨g, 3, none⟩ = some (.int .u64 r1) ∧ w.cell? ⟨g, 4, none⟩ = some (.int .u64 r2) ∧ w.cell? ⟨g, 5, none⟩ = some (.int .u64 r3) ∧ w.cell? ⟨g, 9, none⟩ = some (.int .u64 u1) ∧ w.cell? ⟨g, 10, none⟩ = some (.int .u64 u2) ∧ w.cell? ⟨g, 11, none⟩ = some (.int .u64 u3) := by
  refine ⟨?_, ?_, ?_, ?_, ?_, ?_⟩
  all_goals (rw [Blk.cell hb]; rfl)
theorem cmp_le (m n : Nat) (h : m ≤ n) : cmpN m n ≤ 0 := by
  unfold cmpN
  split
  · omega
  · split <;> omega

set_option maxRecDepth 100000 in
set_option maxHeartbeats 8000000 in
theorem kinds_early (i p r1 r2 r3 h1 h2 h3 u1 u2 u3 k t : Int) (b : Bool) (n : Nat) (E : Int) (hE1 : (E != 0) = true) (hE2 : (E == 0) = false) (hM : ∀ w, Calls Tryz.prog 10 #[.agg #[.int .i64 i, .int .i64 p, .bool b, .int .u64 r1, .int .u64 r2, .int .u64 r3, .int .u64 h1, .int .u64 h2, .int .u64 h3, .int .u64 u1, .int .u64 u2, .int .u64 u3, .int .i64 k, .int .i64 t]] w fun e w' => e = .returned (.int .i64 E) ∧ Chg NoChg w w') (w : World) (hd : Door w) :
    Calls Tryz.prog 4 #[.agg #[.int .i64 i, .int .i64 p, .bool b, .int .u64 r1, .int .u64 r2, .int .u64 r3, .int .u64 h1, .int .u64 h2, .int .u64 h3, .int .u64 u1, .int .u64 u2, .int .u64 u3, .int .i64 k, .int .i64 t], .int .u64 (n : Int)] w fun e w' => e = .returned (.bool true) ∧ Chg NoChg w w' := by
  have HM := hide hM
  have HD := hide hd
  clear hM hd
  have Bs0 := hide (Blk.new w #[.int .i64 i, .int .i64 p, .bool b, .int .u64 r1, .int .u64 r2, .int .u64 r3, .int .u64 h1, .int .u64 h2, .int .u64 h3, .int .u64 u1, .int .u64 u2, .int .u64 u3, .int .i64 k, .int .i64 t] 26)
  have C0 := hide ((Chg.refl NoChg w).alloc (.cells #[.int .i64 i, .int .i64 p, .bool b, .int .u64 r1, .int .u64 r2, .int .u64 r3, .int .u64 h1, .int .u64 h2, .int .u64 h3, .int .u64 u1, .int .u64 u2, .int .u64 u3, .int .i64 k, .int .i64 t] 26))
  go_enter Tryz.func4, Tryz.ntmps4
  go_wp2_with fail
  refine (l13awake_any _ (HD.out.keep C0.out)).mono ?_
  rintro e w1 ⟨rfl, c1⟩
  have D1 := hide (c1)
  have Bs1 := hide (D1.out.blk Bs0.out (fun h => h))
  have C1 := hide (C0.out.trans' D1.out)
  clear c1 D1 C0 Bs0
  obtain ⟨a0, a1, a2, a3, a4, a5, a6, a7, a8, a9, a10, a11, a12, a13⟩ := spc_cellsI Bs1.out
  go_wp2_with fail
  refine (HM.out _).mono ?_
  rintro e w2 ⟨rfl, c2⟩
  have D2 := hide (c2)
  have Bs2 := hide (D2.out.blk Bs1.out (fun h => h))
  have C2 := hide (C1.out.trans' D2.out)
  clear c2 D2 C1 Bs1 a0 a1 a2 a3 a4 a5 a6 a7 a8 a9 a10 a11 a12 a13
  go_wp2
  go_ret
  exact ⟨rfl, C2.out⟩

set_option maxRecDepth 100000 in
set_option maxHeartbeats 8000000 in
theorem kinds_never (i p r1 r2 r3 h1 h2 h3 u1 u2 u3 k t : Int) (b : Bool) (n : Nat) (hM : ∀ w, Calls Tryz.prog 10 #[.agg #[.int .i64 i, .int .i64 p, .bool b, .int .u64 r1, .int .u64 r2, .int .u64 r3, .int .u64 h1, .int .u64 h2, .int .u64 h3, .int .u64 u1, .int .u64 u2, .int .u64 u3, .int .i64 k, .int .i64 t]] w fun e w' => e = .returned (.int .i64 0) ∧ Chg NoChg w w') (hn : (9223372036854775808 : Int) ≤ (n : Int)) (w : World) (hd : Door w) :
    Calls Tryz.prog 4 #[.agg #[.int .i64 i, .int .i64 p, .bool b, .int .u64 r1, .int .u64 r2, .int .u64 r3, .int .u64 h1, .int .u64 h2, .int .u64 h3, .int .u64 u1, .int .u64 u2, .int .u64 u3, .int .i64 k, .int .i64 t], .int .u64 (n : Int)] w fun e w' => e = .returned (.bool true) ∧ Chg NoChg w w' := by
  have HM := hide hM
  have HD := hide hd
  clear hM hd
  have Bs0 := hide (Blk.new w #[.int .i64 i, .int .i64 p, .bool b, .int .u64 r1, .int .u64 r2, .int .u64 r3, .int .u64 h1, .int .u64 h2, .int .u64 h3, .int .u64 u1, .int .u64 u2, .int .u64 u3, .int .i64 k, .int .i64 t] 26)
  have C0 := hide ((Chg.refl NoChg w).alloc (.cells #[.int .i64 i, .int .i64 p, .bool b, .int .u64 r1, .int .u64 r2, .int .u64 r3, .int .u64 h1, .int .u64 h2, .int .u64 h3, .int .u64 u1, .int .u64 u2, .int .u64 u3, .int .i64 k, .int .i64 t] 26))
  go_enter Tryz.func4, Tryz.ntmps4
  go_wp2_with fail
  refine (l13awake_any _ (HD.out.keep C0.out)).mono ?_
  rintro e w1 ⟨rfl, c1⟩
  have D1 := hide (c1)
  have Bs1 := hide (D1.out.blk Bs0.out (fun h => h))
  have C1 := hide (C0.out.trans' D1.out)
  clear c1 D1 C0 Bs0
  obtain ⟨a0, a1, a2, a3, a4, a5, a6, a7, a8, a9, a10, a11, a12, a13⟩ := spc_cellsI Bs1.out
  go_wp2_with fail
  refine (HM.out _).mono ?_
  rintro e w2 ⟨rfl, c2⟩
  have D2 := hide (c2)
  have Bs2 := hide (D2.out.blk Bs1.out (fun h => h))
  have C2 := hide (C1.out.trans' D2.out)
  clear c2 D2 C1 Bs1 a0 a1 a2 a3 a4 a5 a6 a7 a8 a9 a10 a11 a12 a13
  go_wp2
  go_ret
  exact ⟨rfl, C2.out⟩

set_option maxRecDepth 100000 in
set_option maxHeartbeats 8000000 in
theorem kinds_LBt (i p r1 r2 r3 h1 h2 h3 u1 u2 u3 : Int) (k t : Int) (n : Nat) (hM : ∀ w, Calls Tryz.prog 10 #[.agg #[.int .i64 i, .int .i64 p, .bool true, .int .u64 r1, .int .u64 r2, .int .u64 r3, .int .u64 h1, .int .u64 h2, .int .u64 h3, .int .u64 u1, .int .u64 u2, .int .u64 u3, .int .i64 k, .int .i64 t]] w fun e w' => e = .returned (.int .i64 0) ∧ Chg NoChg w w') (hn : decide ((9223372036854775808 : Int) ≤ (n : Int)) = false) (hK : ∀ w, Calls Tryz.prog 11 #[.agg #[.int .i64 i, .int .i64 p, .bool true, .int .u64 r1, .int .u64 r2, .int .u64 r3, .int .u64 h1, .int .u64 h2, .int .u64 h3, .int .u64 u1, .int .u64 u2, .int .u64 u3, .int .i64 k, .int .i64 t]] w fun e w' => e = .returned (.int .u8 3) ∧ Chg NoChg w w') (hF : ∀ w, Calls Tryz.prog 10 #[.agg #[.int .i64 i, .int .i64 p, .bool true, .int .u64 r1, .int .u64 r2, .int .u64 r3, .int .u64 h1, .int .u64 h2, .int .u64 h3, .int .u64 0, .int .u64 0, .int .u64 0, .int .i64 k, .int .i64 t]] w fun e w' => e = .returned (.int .i64 0) ∧ Chg NoChg w w') (hk : (k == 0) = false) (ht : (t == 0) = false) (hR : ∀ w, Calls Tryz.prog 12 #[.agg #[.int .u64 r1, .int .u64 r2, .int .u64 r3]] w fun e w' => e = .returned (.bool false) ∧ Chg NoChg w w') (hS : ∀ w, Calls Tryz.prog 12 #[.agg #[.int .u64 h1, .int .u64 h2, .int .u64 h3]] w fun e w' => e = .returned (.bool false) ∧ Chg NoChg w w') (hU : ∀ w, Calls Tryz.prog 12 #[.agg #[.int .u64 u1, .int .u64 u2, .int .u64 u3]] w fun e w' => e = .returned (.bool true) ∧ Chg NoChg w w') (w : World) (hd : Door w) :
    Calls Tryz.prog 4 #[.agg #[.int .i64 i, .int .i64 p, .bool true, .int .u64 r1, .int .u64 r2, .int .u64 r3, .int .u64 h1, .int .u64 h2, .int .u64 h3, .int .u64 u1, .int .u64 u2, .int .u64 u3, .int .i64 k, .int .i64 t], .int .u64 (n : Int)] w fun e w' => e = .returned (.bool true) ∧ Chg NoChg w w' := by
  have HM := hide hM
  have HD := hide hd
  clear hM hd
  have HK := hide hK
  have HF := hide hF
  have HR := hide hR
  have HS := hide hS
  have HU := hide hU
  clear hK hF hR hS hU
  have Bs0 := hide (Blk.new w #[.int .i64 i, .int .i64 p, .bool true, .int .u64 r1, .int .u64 r2, .int .u64 r3, .int .u64 h1, .int .u64 h2, .int .u64 h3, .int .u64 u1, .int .u64 u2, .int .u64 u3, .int .i64 k, .int .i64 t] 26)
  have C0 := hide ((Chg.refl NoChg w).alloc (.cells #[.int .i64 i, .int .i64 p, .bool true, .int .u64 r1, .int .u64 r2, .int .u64 r3, .int .u64 h1, .int .u64 h2, .int .u64 h3, .int .u64 u1, .int .u64 u2, .int .u64 u3, .int .i64 k, .int .i64 t] 26))
  go_enter Tryz.func4, Tryz.ntmps4
  go_wp2_with fail
  refine (l13awake_any _ (HD.out.keep C0.out)).mono ?_
  rintro e w1 ⟨rfl, c1⟩
  have D1 := hide (c1)
  have Bs1 := hide (D1.out.blk Bs0.out (fun h => h))
  have C1 := hide (C0.out.trans' D1.out)
  clear c1 D1 C0 Bs0
  obtain ⟨a0, a1, a2, a3, a4, a5, a6, a7, a8, a9, a10, a11, a12, a13⟩ := spc_cellsI Bs1.out
  go_wp2_with fail
  refine (HM.out _).mono ?_
  rintro e w2 ⟨rfl, c2⟩
  have D2 := hide (c2)
  have Bs2 := hide (D2.out.blk Bs1.out (fun h => h))
  have C2 := hide (C1.out.trans' D2.out)
  clear c2 D2 C1 Bs1 a0 a1 a2 a3 a4 a5 a6 a7 a8 a9 a10 a11 a12 a13
  obtain ⟨a0, a1, a2, a3, a4, a5, a6, a7, a8, a9, a10, a11, a12, a13⟩ := spc_cellsI Bs2.out
  go_wp2_with fail
  refine (HK.out _).mono ?_
  rintro e w3 ⟨rfl, c3⟩
  have D3 := hide (c3)
  have Bs3 := hide (D3.out.blk Bs2.out (fun h => h))
  have C3 := hide (C2.out.trans' D3.out)
  clear c3 D3 C2 Bs2 a0 a1 a2 a3 a4 a5 a6 a7 a8 a9 a10 a11 a12 a13
  obtain ⟨a0, a1, a2, a3, a4, a5, a6, a7, a8, a9, a10, a11, a12, a13⟩ := spc_cellsI Bs3.out
  have l0 := Bs3.out.lt
  go_wp2_with fail
  refine (HF.out _).mono ?_
  rintro e w4 ⟨rfl, c4⟩
  replace c4 : Chg NoChg w3 w4 := Chg.trans' (by (repeat' (first | (with_reducible exact Chg.refl _ _) | (with_reducible assumption) | (with_reducible refine Chg.alloc ?_ _) | (with_reducible refine Chg.drewN ?_ _) | (with_reducible refine Chg.drew ?_) | (with_reducible refine Chg.setCell ?_ _ ?_) | (apply Or.inl; with_reducible rfl) | (apply Or.inl; simp; done) | (apply Or.inr; simp; done) | (apply Or.inr; simp; omega)))) c4
  have D4 := hide (c4)
  have Bs4 := hide (D4.out.blk Bs3.out (fun h => h))
  have C4 := hide (C3.out.trans' D4.out)
  clear c4 D4 C3 Bs3 a0 a1 a2 a3 a4 a5 a6 a7 a8 a9 a10 a11 a12 a13 l0
  obtain ⟨a0, a1, a2, a3, a4, a5, a6, a7, a8, a9, a10, a11, a12, a13⟩ := spc_cellsI Bs4.out
  go_wp2_with fail
  refine (HR.out _).mono ?_
  rintro e w5 ⟨rfl, c5⟩
  have D5 := hide (c5)
  have Bs5 := hide (D5.out.blk Bs4.out (fun h => h))
  have C5 := hide (C4.out.trans' D5.out)
  clear c5 D5 C4 Bs4 a0 a1 a2 a3 a4 a5 a6 a7 a8 a9 a10 a11 a12 a13
  obtain ⟨a0, a1, a2, a3, a4, a5, a6, a7, a8, a9, a10, a11, a12, a13⟩ := spc_cellsI Bs5.out
  go_wp2_with fail
  refine (HS.out _).mono ?_
  rintro e w6 ⟨rfl, c6⟩
  have D6 := hide (c6)
  have Bs6 := hide (D6.out.blk Bs5.out (fun h => h))
  have C6 := hide (C5.out.trans' D6.out)
  clear c6 D6 C5 Bs5 a0 a1 a2 a3 a4 a5 a6 a7 a8 a9 a10 a11 a12 a13
  obtain ⟨a0, a1, a2, a3, a4, a5, a6, a7, a8, a9, a10, a11, a12, a13⟩ := spc_cellsI Bs6.out
  go_wp2_with fail
  refine (HU.out _).mono ?_
  rintro e w7 ⟨rfl, c7⟩
  have D7 := hide (c7)
  have Bs7 := hide (D7.out.blk Bs6.out (fun h => h))
  have C7 := hide (C6.out.trans' D7.out)
  clear c7 D7 C6 Bs6 a0 a1 a2 a3 a4 a5 a6 a7 a8 a9 a10 a11 a12 a13
  go_wp2
  go_ret
  exact ⟨rfl, C7.out⟩

set_option maxRecDepth 100000 in
set_option maxHeartbeats 8000000 in
theorem kinds_LBf (i p h1 h2 h3 : Int) (k t : Int) (a c : Crv) (ha : a.May) (hc : c.May) (n : Nat) (hM : ∀ w, Calls Tryz.prog 10 #[.agg #[.int .i64 i, .int .i64 p, .bool true, .int .u64 (a.f : Int), .int .u64 (a.l : Int), .int .u64 (a.r : Int), .int .u64 h1, .int .u64 h2, .int .u64 h3, .int .u64 (c.f : Int), .int .u64 (c.l : Int), .int .u64 (c.r : Int), .int .i64 k, .int .i64 t]] w fun e w' => e = .returned (.int .i64 0) ∧ Chg NoChg w w') (hn : decide ((9223372036854775808 : Int) ≤ (n : Int)) = false) (hK : ∀ w, Calls Tryz.prog 11 #[.agg #[.int .i64 i, .int .i64 p, .bool true, .int .u64 (a.f : Int), .int .u64 (a.l : Int), .int .u64 (a.r : Int), .int .u64 h1, .int .u64 h2, .int .u64 h3, .int .u64 (c.f : Int), .int .u64 (c.l : Int), .int .u64 (c.r : Int), .int .i64 k, .int .i64 t]] w fun e w' => e = .returned (.int .u8 3) ∧ Chg NoChg w w') (hF : ∀ w, Calls Tryz.prog 10 #[.agg #[.int .i64 i, .int .i64 p, .bool true, .int .u64 (a.f : Int), .int .u64 (a.l : Int), .int .u64 (a.r : Int), .int .u64 h1, .int .u64 h2, .int .u64 h3, .int .u64 0, .int .u64 0, .int .u64 0, .int .i64 k, .int .i64 t]] w fun e w' => e = .returned (.int .i64 0) ∧ Chg NoChg w w') (hk : (k == 0) = false) (ht : (t == 0) = false) (hR : ∀ w, Calls Tryz.prog 12 #[.agg #[.int .u64 (a.f : Int), .int .u64 (a.l : Int), .int .u64 (a.r : Int)]] w fun e w' => e = .returned (.bool false) ∧ Chg NoChg w w') (hS : ∀ w, Calls Tryz.prog 12 #[.agg #[.int .u64 h1, .int .u64 h2, .int .u64 h3]] w fun e w' => e = .returned (.bool false) ∧ Chg NoChg w w') (hU : ∀ w, Calls Tryz.prog 12 #[.agg #[.int .u64 (c.f : Int), .int .u64 (c.l : Int), .int .u64 (c.r : Int)]] w fun e w' => e = .returned (.bool false) ∧ Chg NoChg w w') (hle : a.at n ≤ c.at n) (w : World) (hd : Door w) :
    Calls Tryz.prog 4 #[.agg #[.int .i64 i, .int .i64 p, .bool true, .int .u64 (a.f : Int), .int .u64 (a.l : Int), .int .u64 (a.r : Int), .int .u64 h1, .int .u64 h2, .int .u64 h3, .int .u64 (c.f : Int), .int .u64 (c.l : Int), .int .u64 (c.r : Int), .int .i64 k, .int .i64 t], .int .u64 (n : Int)] w fun e w' => e = .returned (.bool true) ∧ Chg NoChg w w' := by
  have HM := hide hM
  have HD := hide hd
  clear hM hd
  have HK := hide hK
  have HF := hide hF
  have HR := hide hR
  have HS := hide hS
  have HU := hide hU
  clear hK hF hR hS hU
  have hn64 : n < 18446744073709551616 := by have := of_decide_eq_false hn; omega
  have HMAB := hide (And.intro ha hc)
  have AA := fun (g' : Nat) (w' : World) (h : Blk w' g' #[.int .u64 (a.f : Int), .int .u64 (a.l : Int), .int .u64 (a.r : Int)] 24) => sAt_may [a] ⟨g', 0, none⟩ 1 n w' (rowCrv (l := [a]) h) (by simp) (by simp) (by intro c hc; simp at hc; subst hc; exact HMAB.out.1) hn64
  have BB := fun (g' : Nat) (w' : World) (h : Blk w' g' #[.int .u64 (c.f : Int), .int .u64 (c.l : Int), .int .u64 (c.r : Int)] 24) => sAt_may [c] ⟨g', 0, none⟩ 1 n w' (rowCrv (l := [c]) h) (by simp) (by simp) (by intro c hc; simp at hc; subst hc; exact HMAB.out.2) hn64
  have sa : Crv.sum [a] n = a.at n := by simp [Crv.sum]
  have sb : Crv.sum [c] n = c.at n := by simp [Crv.sum]
  rw [sa] at AA
  rw [sb] at BB
  have CM := wCmp_any (a.at n) (c.at n)
  have cg := cmp_le _ _ hle
  clear sa sb hle
  generalize a.at n = x1 at AA CM cg
  generalize c.at n = x2 at BB CM cg
  generalize ((x1 / 18446744073709551616 : Nat) : Int) = y1 at AA CM
  generalize ((x1 % 18446744073709551616 : Nat) : Int) = y2 at AA CM
  generalize ((x2 / 18446744073709551616 : Nat) : Int) = y3 at BB CM
  generalize ((x2 % 18446744073709551616 : Nat) : Int) = y4 at BB CM
  have HA := hide AA
  have HBB := hide BB
  have HCM := hide CM
  clear AA BB CM ha hc hn64
  have Bs0 := hide (Blk.new w #[.int .i64 i, .int .i64 p, .bool true, .int .u64 (a.f : Int), .int .u64 (a.l : Int), .int .u64 (a.r : Int), .int .u64 h1, .int .u64 h2, .int .u64 h3, .int .u64 (c.f : Int), .int .u64 (c.l : Int), .int .u64 (c.r : Int), .int .i64 k, .int .i64 t] 26)
  have C0 := hide ((Chg.refl NoChg w).alloc (.cells #[.int .i64 i, .int .i64 p, .bool true, .int .u64 (a.f : Int), .int .u64 (a.l : Int), .int .u64 (a.r : Int), .int .u64 h1, .int .u64 h2, .int .u64 h3, .int .u64 (c.f : Int), .int .u64 (c.l : Int), .int .u64 (c.r : Int), .int .i64 k, .int .i64 t] 26))
  go_enter Tryz.func4, Tryz.ntmps4
  go_wp2_with fail
  refine (l13awake_any _ (HD.out.keep C0.out)).mono ?_
  rintro e w1 ⟨rfl, c1⟩
  have D1 := hide (c1)
  have Bs1 := hide (D1.out.blk Bs0.out (fun h => h))
  have C1 := hide (C0.out.trans' D1.out)
  clear c1 D1 C0 Bs0
  obtain ⟨a0, a1, a2, a3, a4, a5, a6, a7, a8, a9, a10, a11, a12, a13⟩ := spc_cellsI Bs1.out
  go_wp2_with fail
  refine (HM.out _).mono ?_
  rintro e w2 ⟨rfl, c2⟩
  have D2 := hide (c2)
  have Bs2 := hide (D2.out.blk Bs1.out (fun h => h))
  have C2 := hide (C1.out.trans' D2.out)
  clear c2 D2 C1 Bs1 a0 a1 a2 a3 a4 a5 a6 a7 a8 a9 a10 a11 a12 a13
  obtain ⟨a0, a1, a2, a3, a4, a5, a6, a7, a8, a9, a10, a11, a12, a13⟩ := spc_cellsI Bs2.out
  go_wp2_with fail
  refine (HK.out _).mono ?_
  rintro e w3 ⟨rfl, c3⟩
  have D3 := hide (c3)
  have Bs3 := hide (D3.out.blk Bs2.out (fun h => h))
  have C3 := hide (C2.out.trans' D3.out)
  clear c3 D3 C2 Bs2 a0 a1 a2 a3 a4 a5 a6 a7 a8 a9 a10 a11 a12 a13
  obtain ⟨a0, a1, a2, a3, a4, a5, a6, a7, a8, a9, a10, a11, a12, a13⟩ := spc_cellsI Bs3.out
  have l0 := Bs3.out.lt
  go_wp2_with fail
  refine (HF.out _).mono ?_
  rintro e w4 ⟨rfl, c4⟩
  replace c4 : Chg NoChg w3 w4 := Chg.trans' (by (repeat' (first | (with_reducible exact Chg.refl _ _) | (with_reducible assumption) | (with_reducible refine Chg.alloc ?_ _) | (with_reducible refine Chg.drewN ?_ _) | (with_reducible refine Chg.drew ?_) | (with_reducible refine Chg.setCell ?_ _ ?_) | (apply Or.inl; with_reducible rfl) | (apply Or.inl; simp; done) | (apply Or.inr; simp; done) | (apply Or.inr; simp; omega)))) c4
  have D4 := hide (c4)
  have Bs4 := hide (D4.out.blk Bs3.out (fun h => h))
  have C4 := hide (C3.out.trans' D4.out)
  clear c4 D4 C3 Bs3 a0 a1 a2 a3 a4 a5 a6 a7 a8 a9 a10 a11 a12 a13 l0
  obtain ⟨a0, a1, a2, a3, a4, a5, a6, a7, a8, a9, a10, a11, a12, a13⟩ := spc_cellsI Bs4.out
  go_wp2_with fail
  refine (HR.out _).mono ?_
  rintro e w5 ⟨rfl, c5⟩
  have D5 := hide (c5)
  have Bs5 := hide (D5.out.blk Bs4.out (fun h => h))
  have C5 := hide (C4.out.trans' D5.out)
  clear c5 D5 C4 Bs4 a0 a1 a2 a3 a4 a5 a6 a7 a8 a9 a10 a11 a12 a13
  obtain ⟨a0, a1, a2, a3, a4, a5, a6, a7, a8, a9, a10, a11, a12, a13⟩ := spc_cellsI Bs5.out
  go_wp2_with fail
  refine (HS.out _).mono ?_
  rintro e w6 ⟨rfl, c6⟩
  have D6 := hide (c6)
  have Bs6 := hide (D6.out.blk Bs5.out (fun h => h))
  have C6 := hide (C5.out.trans' D6.out)
  clear c6 D6 C5 Bs5 a0 a1 a2 a3 a4 a5 a6 a7 a8 a9 a10 a11 a12 a13
  obtain ⟨a0, a1, a2, a3, a4, a5, a6, a7, a8, a9, a10, a11, a12, a13⟩ := spc_cellsI Bs6.out
  go_wp2_with fail
  refine (HU.out _).mono ?_
  rintro e w7 ⟨rfl, c7⟩
  have D7 := hide (c7)
  have Bs7 := hide (D7.out.blk Bs6.out (fun h => h))
  have C7 := hide (C6.out.trans' D7.out)
  clear c7 D7 C6 Bs6 a0 a1 a2 a3 a4 a5 a6 a7 a8 a9 a10 a11 a12 a13
  obtain ⟨a0, a1, a2, a3, a4, a5, a6, a7, a8, a9, a10, a11, a12, a13⟩ := spc_cellsI Bs7.out
  go_wp2_with fail
  refine (HR.out _).mono ?_
  rintro e w8 ⟨rfl, c8⟩
  have D8 := hide (c8)
  have Bs8 := hide (D8.out.blk Bs7.out (fun h => h))
  have C8 := hide (C7.out.trans' D8.out)
  clear c8 D8 C7 Bs7 a0 a1 a2 a3 a4 a5 a6 a7 a8 a9 a10 a11 a12 a13
  have KEEP := hide (fun (w' : World) (h : Chg NoChg w8 w') => spc_six (h.blk Bs8.out (fun h => h)))
  obtain ⟨k0, k1, k2, k3, k4, k5⟩ := KEEP.out w8 (Chg.refl _ _)
  go_wp2
  go_region_held3 (fun w' : World => w'.cell? ⟨w.heap.size, 3, none⟩ = some (.int .u64 (a.f : Int)) ∧ w'.cell? ⟨w.heap.size, 4, none⟩ = some (.int .u64 (a.l : Int)) ∧ w'.cell? ⟨w.heap.size, 5, none⟩ = some (.int .u64 (a.r : Int)) ∧ w'.cell? ⟨w.heap.size, 9, none⟩ = some (.int .u64 (c.f : Int)) ∧ w'.cell? ⟨w.heap.size, 10, none⟩ = some (.int .u64 (c.l : Int)) ∧ w'.cell? ⟨w.heap.size, 11, none⟩ = some (.int .u64 (c.r : Int))) (exact KEEP.out _ (by (repeat' (first | (with_reducible exact Chg.refl _ _) | (with_reducible assumption) | (with_reducible refine Chg.alloc ?_ _) | (with_reducible refine Chg.drewN ?_ _) | (with_reducible refine Chg.drew ?_) | (with_reducible refine Chg.setCell ?_ _ ?_) | (apply Or.inl; with_reducible rfl) | (apply Or.inl; simp; done) | (apply Or.inr; simp; done) | (apply Or.inr; simp; omega))))) (first | (go_at_call 13; with_reducible refine Calls.mono (HA.out _ _ ?_) ?_; (focus ((repeat' (first | (with_reducible refine Blk.new' _ _ ?_; first | rfl | (simp; done)) | (with_reducible refine Blk.alloc ?_ _) | (with_reducible refine Blk.drew ?_) | (with_reducible refine Blk.drewN ?_ _))); done)); rintro e w5x ⟨rfl, c5⟩; have d5 : Chg NoChg w8 w5x := Chg.trans' (by (repeat' (first | (with_reducible exact Chg.refl _ _) | (with_reducible assumption) | (with_reducible refine Chg.alloc ?_ _) | (with_reducible refine Chg.drewN ?_ _) | (with_reducible refine Chg.drew ?_) | (with_reducible refine Chg.setCell ?_ _ ?_) | (apply Or.inl; with_reducible rfl) | (apply Or.inl; simp; done) | (apply Or.inr; simp; done) | (apply Or.inr; simp; omega)))) c5) | (go_at_call 13; with_reducible refine Calls.mono (HBB.out _ _ ?_) ?_; (focus ((repeat' (first | (with_reducible refine Blk.new' _ _ ?_; first | rfl | (simp; done)) | (with_reducible refine Blk.alloc ?_ _) | (with_reducible refine Blk.drew ?_) | (with_reducible refine Blk.drewN ?_ _) | (with_reducible refine Chg.blk c5 ?_ (fun h => h)))); done)); rintro e w6x ⟨rfl, c6⟩; have d6 : Chg NoChg w8 w6x := Chg.trans' (by (repeat' (first | (with_reducible exact Chg.refl _ _) | (with_reducible assumption) | (with_reducible refine Chg.alloc ?_ _) | (with_reducible refine Chg.drewN ?_ _) | (with_reducible refine Chg.drew ?_) | (with_reducible refine Chg.setCell ?_ _ ?_) | (apply Or.inl; with_reducible rfl) | (apply Or.inl; simp; done) | (apply Or.inr; simp; done) | (apply Or.inr; simp; omega)))) c6) | (go_at_call 14; refine (HCM.out _).mono ?_; rintro e w7x ⟨rfl, c7⟩; have d7 : Chg NoChg w8 w7x := Chg.trans' (by (repeat' (first | (with_reducible exact Chg.refl _ _) | (with_reducible assumption) | (with_reducible refine Chg.alloc ?_ _) | (with_reducible refine Chg.drewN ?_ _) | (with_reducible refine Chg.drew ?_) | (with_reducible refine Chg.setCell ?_ _ ?_) | (apply Or.inl; with_reducible rfl) | (apply Or.inl; simp; done) | (apply Or.inr; simp; done) | (apply Or.inr; simp; omega)))) c7))
  all_goals go_wp2
  all_goals go_ret
  all_goals exact ⟨rfl, C8.out.trans' d7⟩

set_option maxRecDepth 100000 in
set_option maxHeartbeats 8000000 in
theorem kinds_LRt (i p r1 r2 r3 h1 h2 h3 u1 u2 u3 : Int) (k t : Int) (n : Nat) (hM : ∀ w, Calls Tryz.prog 10 #[.agg #[.int .i64 i, .int .i64 p, .bool true, .int .u64 r1, .int .u64 r2, .int .u64 r3, .int .u64 h1, .int .u64 h2, .int .u64 h3, .int .u64 u1, .int .u64 u2, .int .u64 u3, .int .i64 k, .int .i64 t]] w fun e w' => e = .returned (.int .i64 0) ∧ Chg NoChg w w') (hn : decide ((9223372036854775808 : Int) ≤ (n : Int)) = false) (hK : ∀ w, Calls Tryz.prog 11 #[.agg #[.int .i64 i, .int .i64 p, .bool true, .int .u64 r1, .int .u64 r2, .int .u64 r3, .int .u64 h1, .int .u64 h2, .int .u64 h3, .int .u64 u1, .int .u64 u2, .int .u64 u3, .int .i64 k, .int .i64 t]] w fun e w' => e = .returned (.int .u8 1) ∧ Chg NoChg w w') (hF : ∀ w, Calls Tryz.prog 10 #[.agg #[.int .i64 i, .int .i64 p, .bool true, .int .u64 r1, .int .u64 r2, .int .u64 r3, .int .u64 h1, .int .u64 h2, .int .u64 h3, .int .u64 0, .int .u64 0, .int .u64 0, .int .i64 k, .int .i64 t]] w fun e w' => e = .returned (.int .i64 0) ∧ Chg NoChg w w') (hk : (k == 0) = false) (ht : (t == 0) = false) (hR : ∀ w, Calls Tryz.prog 12 #[.agg #[.int .u64 r1, .int .u64 r2, .int .u64 r3]] w fun e w' => e = .returned (.bool false) ∧ Chg NoChg w w') (hS : ∀ w, Calls Tryz.prog 12 #[.agg #[.int .u64 h1, .int .u64 h2, .int .u64 h3]] w fun e w' => e = .returned (.bool true) ∧ Chg NoChg w w') (hU : ∀ w, Calls Tryz.prog 12 #[.agg #[.int .u64 u1, .int .u64 u2, .int .u64 u3]] w fun e w' => e = .returned (.bool true) ∧ Chg NoChg w w') (w : World) (hd : Door w) :
    Calls Tryz.prog 4 #[.agg #[.int .i64 i, .int .i64 p, .bool true, .int .u64 r1, .int .u64 r2, .int .u64 r3, .int .u64 h1, .int .u64 h2, .int .u64 h3, .int .u64 u1, .int .u64 u2, .int .u64 u3, .int .i64 k, .int .i64 t], .int .u64 (n : Int)] w fun e w' => e = .returned (.bool true) ∧ Chg NoChg w w' := by
  have HM := hide hM
  have HD := hide hd
  clear hM hd
  have HK := hide hK
  have HF := hide hF
  have HR := hide hR
  have HS := hide hS
  have HU := hide hU
  clear hK hF hR hS hU
  have Bs0 := hide (Blk.new w #[.int .i64 i, .int .i64 p, .bool true, .int .u64 r1, .int .u64 r2, .int .u64 r3, .int .u64 h1, .int .u64 h2, .int .u64 h3, .int .u64 u1, .int .u64 u2, .int .u64 u3, .int .i64 k, .int .i64 t] 26)
  have C0 := hide ((Chg.refl NoChg w).alloc (.cells #[.int .i64 i, .int .i64 p, .bool true, .int .u64 r1, .int .u64 r2, .int .u64 r3, .int .u64 h1, .int .u64 h2, .int .u64 h3, .int .u64 u1, .int .u64 u2, .int .u64 u3, .int .i64 k, .int .i64 t] 26))
  go_enter Tryz.func4, Tryz.ntmps4
  go_wp2_with fail
  refine (l13awake_any _ (HD.out.keep C0.out)).mono ?_
  rintro e w1 ⟨rfl, c1⟩
  have D1 := hide (c1)
  have Bs1 := hide (D1.out.blk Bs0.out (fun h => h))
  have C1 := hide (C0.out.trans' D1.out)
  clear c1 D1 C0 Bs0
  obtain ⟨a0, a1, a2, a3, a4, a5, a6, a7, a8, a9, a10, a11, a12, a13⟩ := spc_cellsI Bs1.out
  go_wp2_with fail
  refine (HM.out _).mono ?_
  rintro e w2 ⟨rfl, c2⟩
  have D2 := hide (c2)
  have Bs2 := hide (D2.out.blk Bs1.out (fun h => h))
  have C2 := hide (C1.out.trans' D2.out)
  clear c2 D2 C1 Bs1 a0 a1 a2 a3 a4 a5 a6 a7 a8 a9 a10 a11 a12 a13
  obtain ⟨a0, a1, a2, a3, a4, a5, a6, a7, a8, a9, a10, a11, a12, a13⟩ := spc_cellsI Bs2.out
  go_wp2_with fail
  refine (HK.out _).mono ?_
  rintro e w3 ⟨rfl, c3⟩
  have D3 := hide (c3)
  have Bs3 := hide (D3.out.blk Bs2.out (fun h => h))
  have C3 := hide (C2.out.trans' D3.out)
  clear c3 D3 C2 Bs2 a0 a1 a2 a3 a4 a5 a6 a7 a8 a9 a10 a11 a12 a13
  obtain ⟨a0, a1, a2, a3, a4, a5, a6, a7, a8, a9, a10, a11, a12, a13⟩ := spc_cellsI Bs3.out
  have l0 := Bs3.out.lt
  go_wp2_with fail
  refine (HF.out _).mono ?_
  rintro e w4 ⟨rfl, c4⟩
  replace c4 : Chg NoChg w3 w4 := Chg.trans' (by (repeat' (first | (with_reducible exact Chg.refl _ _) | (with_reducible assumption) | (with_reducible refine Chg.alloc ?_ _) | (with_reducible refine Chg.drewN ?_ _) | (with_reducible refine Chg.drew ?_) | (with_reducible refine Chg.setCell ?_ _ ?_) | (apply Or.inl; with_reducible rfl) | (apply Or.inl; simp; done) | (apply Or.inr; simp; done) | (apply Or.inr; simp; omega)))) c4
  have D4 := hide (c4)
  have Bs4 := hide (D4.out.blk Bs3.out (fun h => h))
  have C4 := hide (C3.out.trans' D4.out)
  clear c4 D4 C3 Bs3 a0 a1 a2 a3 a4 a5 a6 a7 a8 a9 a10 a11 a12 a13 l0
  obtain ⟨a0, a1, a2, a3, a4, a5, a6, a7, a8, a9, a10, a11, a12, a13⟩ := spc_cellsI Bs4.out
  go_wp2_with fail
  refine (HR.out _).mono ?_
  rintro e w5 ⟨rfl, c5⟩
  have D5 := hide (c5)
  have Bs5 := hide (D5.out.blk Bs4.out (fun h => h))
  have C5 := hide (C4.out.trans' D5.out)
  clear c5 D5 C4 Bs4 a0 a1 a2 a3 a4 a5 a6 a7 a8 a9 a10 a11 a12 a13
  obtain ⟨a0, a1, a2, a3, a4, a5, a6, a7, a8, a9, a10, a11, a12, a13⟩ := spc_cellsI Bs5.out
  go_wp2_with fail
  refine (HS.out _).mono ?_
  rintro e w6 ⟨rfl, c6⟩
  have D6 := hide (c6)
  have Bs6 := hide (D6.out.blk Bs5.out (fun h => h))
  have C6 := hide (C5.out.trans' D6.out)
  clear c6 D6 C5 Bs5 a0 a1 a2 a3 a4 a5 a6 a7 a8 a9 a10 a11 a12 a13
  obtain ⟨a0, a1, a2, a3, a4, a5, a6, a7, a8, a9, a10, a11, a12, a13⟩ := spc_cellsI Bs6.out
  go_wp2_with fail
  refine (HU.out _).mono ?_
  rintro e w7 ⟨rfl, c7⟩
  have D7 := hide (c7)
  have Bs7 := hide (D7.out.blk Bs6.out (fun h => h))
  have C7 := hide (C6.out.trans' D7.out)
  clear c7 D7 C6 Bs6 a0 a1 a2 a3 a4 a5 a6 a7 a8 a9 a10 a11 a12 a13
  go_wp2
  go_ret
  exact ⟨rfl, C7.out⟩

set_option maxRecDepth 100000 in
set_option maxHeartbeats 8000000 in
theorem kinds_LRf (i p h1 h2 h3 : Int) (k t : Int) (a c : Crv) (ha : a.May) (hc : c.May) (n : Nat) (hM : ∀ w, Calls Tryz.prog 10 #[.agg #[.int .i64 i, .int .i64 p, .bool true, .int .u64 (a.f : Int), .int .u64 (a.l : Int), .int .u64 (a.r : Int), .int .u64 h1, .int .u64 h2, .int .u64 h3, .int .u64 (c.f : Int), .int .u64 (c.l : Int), .int .u64 (c.r : Int), .int .i64 k, .int .i64 t]] w fun e w' => e = .returned (.int .i64 0) ∧ Chg NoChg w w') (hn : decide ((9223372036854775808 : Int) ≤ (n : Int)) = false) (hK : ∀ w, Calls Tryz.prog 11 #[.agg #[.int .i64 i, .int .i64 p, .bool true, .int .u64 (a.f : Int), .int .u64 (a.l : Int), .int .u64 (a.r : Int), .int .u64 h1, .int .u64 h2, .int .u64 h3, .int .u64 (c.f : Int), .int .u64 (c.l : Int), .int .u64 (c.r : Int), .int .i64 k, .int .i64 t]] w fun e w' => e = .returned (.int .u8 1) ∧ Chg NoChg w w') (hF : ∀ w, Calls Tryz.prog 10 #[.agg #[.int .i64 i, .int .i64 p, .bool true, .int .u64 (a.f : Int), .int .u64 (a.l : Int), .int .u64 (a.r : Int), .int .u64 h1, .int .u64 h2, .int .u64 h3, .int .u64 0, .int .u64 0, .int .u64 0, .int .i64 k, .int .i64 t]] w fun e w' => e = .returned (.int .i64 0) ∧ Chg NoChg w w') (hk : (k == 0) = false) (ht : (t == 0) = false) (hR : ∀ w, Calls Tryz.prog 12 #[.agg #[.int .u64 (a.f : Int), .int .u64 (a.l : Int), .int .u64 (a.r : Int)]] w fun e w' => e = .returned (.bool false) ∧ Chg NoChg w w') (hS : ∀ w, Calls Tryz.prog 12 #[.agg #[.int .u64 h1, .int .u64 h2, .int .u64 h3]] w fun e w' => e = .returned (.bool true) ∧ Chg NoChg w w') (hU : ∀ w, Calls Tryz.prog 12 #[.agg #[.int .u64 (c.f : Int), .int .u64 (c.l : Int), .int .u64 (c.r : Int)]] w fun e w' => e = .returned (.bool false) ∧ Chg NoChg w w') (hle : a.at n ≤ c.at n) (w : World) (hd : Door w) :
    Calls Tryz.prog 4 #[.agg #[.int .i64 i, .int .i64 p, .bool true, .int .u64 (a.f : Int), .int .u64 (a.l : Int), .int .u64 (a.r : Int), .int .u64 h1, .int .u64 h2, .int .u64 h3, .int .u64 (c.f : Int), .int .u64 (c.l : Int), .int .u64 (c.r : Int), .int .i64 k, .int .i64 t], .int .u64 (n : Int)] w fun e w' => e = .returned (.bool true) ∧ Chg NoChg w w' := by
  have HM := hide hM
  have HD := hide hd
  clear hM hd
  have HK := hide hK
  have HF := hide hF
  have HR := hide hR
  have HS := hide hS
  have HU := hide hU
  clear hK hF hR hS hU
  have hn64 : n < 18446744073709551616 := by have := of_decide_eq_false hn; omega
  have HMAB := hide (And.intro ha hc)
  have AA := fun (g' : Nat) (w' : World) (h : Blk w' g' #[.int .u64 (a.f : Int), .int .u64 (a.l : Int), .int .u64 (a.r : Int)] 24) => sAt_may [a] ⟨g', 0, none⟩ 1 n w' (rowCrv (l := [a]) h) (by simp) (by simp) (by intro c hc; simp at hc; subst hc; exact HMAB.out.1) hn64
  have BB := fun (g' : Nat) (w' : World) (h : Blk w' g' #[.int .u64 (c.f : Int), .int .u64 (c.l : Int), .int .u64 (c.r : Int)] 24) => sAt_may [c] ⟨g', 0, none⟩ 1 n w' (rowCrv (l := [c]) h) (by simp) (by simp) (by intro c hc; simp at hc; subst hc; exact HMAB.out.2) hn64
  have sa : Crv.sum [a] n = a.at n := by simp [Crv.sum]
  have sb : Crv.sum [c] n = c.at n := by simp [Crv.sum]
  rw [sa] at AA
  rw [sb] at BB
  have CM := wCmp_any (a.at n) (c.at n)
  have cg := cmp_le _ _ hle
  clear sa sb hle
  generalize a.at n = x1 at AA CM cg
  generalize c.at n = x2 at BB CM cg
  generalize ((x1 / 18446744073709551616 : Nat) : Int) = y1 at AA CM
  generalize ((x1 % 18446744073709551616 : Nat) : Int) = y2 at AA CM
  generalize ((x2 / 18446744073709551616 : Nat) : Int) = y3 at BB CM
  generalize ((x2 % 18446744073709551616 : Nat) : Int) = y4 at BB CM
  have HA := hide AA
  have HBB := hide BB
  have HCM := hide CM
  clear AA BB CM ha hc hn64
  have Bs0 := hide (Blk.new w #[.int .i64 i, .int .i64 p, .bool true, .int .u64 (a.f : Int), .int .u64 (a.l : Int), .int .u64 (a.r : Int), .int .u64 h1, .int .u64 h2, .int .u64 h3, .int .u64 (c.f : Int), .int .u64 (c.l : Int), .int .u64 (c.r : Int), .int .i64 k, .int .i64 t] 26)
  have C0 := hide ((Chg.refl NoChg w).alloc (.cells #[.int .i64 i, .int .i64 p, .bool true, .int .u64 (a.f : Int), .int .u64 (a.l : Int), .int .u64 (a.r : Int), .int .u64 h1, .int .u64 h2, .int .u64 h3, .int .u64 (c.f : Int), .int .u64 (c.l : Int), .int .u64 (c.r : Int), .int .i64 k, .int .i64 t] 26))
  go_enter Tryz.func4, Tryz.ntmps4
  go_wp2_with fail
  refine (l13awake_any _ (HD.out.keep C0.out)).mono ?_
  rintro e w1 ⟨rfl, c1⟩
  have D1 := hide (c1)
  have Bs1 := hide (D1.out.blk Bs0.out (fun h => h))
  have C1 := hide (C0.out.trans' D1.out)
  clear c1 D1 C0 Bs0
  obtain ⟨a0, a1, a2, a3, a4, a5, a6, a7, a8, a9, a10, a11, a12, a13⟩ := spc_cellsI Bs1.out
  go_wp2_with fail
  refine (HM.out _).mono ?_
  rintro e w2 ⟨rfl, c2⟩
  have D2 := hide (c2)
  have Bs2 := hide (D2.out.blk Bs1.out (fun h => h))
  have C2 := hide (C1.out.trans' D2.out)
  clear c2 D2 C1 Bs1 a0 a1 a2 a3 a4 a5 a6 a7 a8 a9 a10 a11 a12 a13
  obtain ⟨a0, a1, a2, a3, a4, a5, a6, a7, a8, a9, a10, a11, a12, a13⟩ := spc_cellsI Bs2.out
  go_wp2_with fail
  refine (HK.out _).mono ?_
  rintro e w3 ⟨rfl, c3⟩
  have D3 := hide (c3)
  have Bs3 := hide (D3.out.blk Bs2.out (fun h => h))
  have C3 := hide (C2.out.trans' D3.out)
  clear c3 D3 C2 Bs2 a0 a1 a2 a3 a4 a5 a6 a7 a8 a9 a10 a11 a12 a13
  obtain ⟨a0, a1, a2, a3, a4, a5, a6, a7, a8, a9, a10, a11, a12, a13⟩ := spc_cellsI Bs3.out
  have l0 := Bs3.out.lt
  go_wp2_with fail
  refine (HF.out _).mono ?_
  rintro e w4 ⟨rfl, c4⟩
  replace c4 : Chg NoChg w3 w4 := Chg.trans' (by (repeat' (first | (with_reducible exact Chg.refl _ _) | (with_reducible assumption) | (with_reducible refine Chg.alloc ?_ _) | (with_reducible refine Chg.drewN ?_ _) | (with_reducible refine Chg.drew ?_) | (with_reducible refine Chg.setCell ?_ _ ?_) | (apply Or.inl; with_reducible rfl) | (apply Or.inl; simp; done) | (apply Or.inr; simp; done) | (apply Or.inr; simp; omega)))) c4
  have D4 := hide (c4)
  have Bs4 := hide (D4.out.blk Bs3.out (fun h => h))
  have C4 := hide (C3.out.trans' D4.out)
  clear c4 D4 C3 Bs3 a0 a1 a2 a3 a4 a5 a6 a7 a8 a9 a10 a11 a12 a13 l0
  obtain ⟨a0, a1, a2, a3, a4, a5, a6, a7, a8, a9, a10, a11, a12, a13⟩ := spc_cellsI Bs4.out
  go_wp2_with fail
  refine (HR.out _).mono ?_
  rintro e w5 ⟨rfl, c5⟩
  have D5 := hide (c5)
  have Bs5 := hide (D5.out.blk Bs4.out (fun h => h))
  have C5 := hide (C4.out.trans' D5.out)
  clear c5 D5 C4 Bs4 a0 a1 a2 a3 a4 a5 a6 a7 a8 a9 a10 a11 a12 a13
  obtain ⟨a0, a1, a2, a3, a4, a5, a6, a7, a8, a9, a10, a11, a12, a13⟩ := spc_cellsI Bs5.out
  go_wp2_with fail
  refine (HS.out _).mono ?_
  rintro e w6 ⟨rfl, c6⟩
  have D6 := hide (c6)
  have Bs6 := hide (D6.out.blk Bs5.out (fun h => h))
  have C6 := hide (C5.out.trans' D6.out)
  clear c6 D6 C5 Bs5 a0 a1 a2 a3 a4 a5 a6 a7 a8 a9 a10 a11 a12 a13
  obtain ⟨a0, a1, a2, a3, a4, a5, a6, a7, a8, a9, a10, a11, a12, a13⟩ := spc_cellsI Bs6.out
  go_wp2_with fail
  refine (HU.out _).mono ?_
  rintro e w7 ⟨rfl, c7⟩
  have D7 := hide (c7)
  have Bs7 := hide (D7.out.blk Bs6.out (fun h => h))
  have C7 := hide (C6.out.trans' D7.out)
  clear c7 D7 C6 Bs6 a0 a1 a2 a3 a4 a5 a6 a7 a8 a9 a10 a11 a12 a13
  obtain ⟨a0, a1, a2, a3, a4, a5, a6, a7, a8, a9, a10, a11, a12, a13⟩ := spc_cellsI Bs7.out
  go_wp2_with fail
  refine (HR.out _).mono ?_
  rintro e w8 ⟨rfl, c8⟩
  have D8 := hide (c8)
  have Bs8 := hide (D8.out.blk Bs7.out (fun h => h))
  have C8 := hide (C7.out.trans' D8.out)
  clear c8 D8 C7 Bs7 a0 a1 a2 a3 a4 a5 a6 a7 a8 a9 a10 a11 a12 a13
  have KEEP := hide (fun (w' : World) (h : Chg NoChg w8 w') => spc_six (h.blk Bs8.out (fun h => h)))
  obtain ⟨k0, k1, k2, k3, k4, k5⟩ := KEEP.out w8 (Chg.refl _ _)
  go_wp2
  go_region_held3 (fun w' : World => w'.cell? ⟨w.heap.size, 3, none⟩ = some (.int .u64 (a.f : Int)) ∧ w'.cell? ⟨w.heap.size, 4, none⟩ = some (.int .u64 (a.l : Int)) ∧ w'.cell? ⟨w.heap.size, 5, none⟩ = some (.int .u64 (a.r : Int)) ∧ w'.cell? ⟨w.heap.size, 9, none⟩ = some (.int .u64 (c.f : Int)) ∧ w'.cell? ⟨w.heap.size, 10, none⟩ = some (.int .u64 (c.l : Int)) ∧ w'.cell? ⟨w.heap.size, 11, none⟩ = some (.int .u64 (c.r : Int))) (exact KEEP.out _ (by (repeat' (first | (with_reducible exact Chg.refl _ _) | (with_reducible assumption) | (with_reducible refine Chg.alloc ?_ _) | (with_reducible refine Chg.drewN ?_ _) | (with_reducible refine Chg.drew ?_) | (with_reducible refine Chg.setCell ?_ _ ?_) | (apply Or.inl; with_reducible rfl) | (apply Or.inl; simp; done) | (apply Or.inr; simp; done) | (apply Or.inr; simp; omega))))) (first | (go_at_call 13; with_reducible refine Calls.mono (HA.out _ _ ?_) ?_; (focus ((repeat' (first | (with_reducible refine Blk.new' _ _ ?_; first | rfl | (simp; done)) | (with_reducible refine Blk.alloc ?_ _) | (with_reducible refine Blk.drew ?_) | (with_reducible refine Blk.drewN ?_ _))); done)); rintro e w5x ⟨rfl, c5⟩; have d5 : Chg NoChg w8 w5x := Chg.trans' (by (repeat' (first | (with_reducible exact Chg.refl _ _) | (with_reducible assumption) | (with_reducible refine Chg.alloc ?_ _) | (with_reducible refine Chg.drewN ?_ _) | (with_reducible refine Chg.drew ?_) | (with_reducible refine Chg.setCell ?_ _ ?_) | (apply Or.inl; with_reducible rfl) | (apply Or.inl; simp; done) | (apply Or.inr; simp; done) | (apply Or.inr; simp; omega)))) c5) | (go_at_call 13; with_reducible refine Calls.mono (HBB.out _ _ ?_) ?_; (focus ((repeat' (first | (with_reducible refine Blk.new' _ _ ?_; first | rfl | (simp; done)) | (with_reducible refine Blk.alloc ?_ _) | (with_reducible refine Blk.drew ?_) | (with_reducible refine Blk.drewN ?_ _) | (with_reducible refine Chg.blk c5 ?_ (fun h => h)))); done)); rintro e w6x ⟨rfl, c6⟩; have d6 : Chg NoChg w8 w6x := Chg.trans' (by (repeat' (first | (with_reducible exact Chg.refl _ _) | (with_reducible assumption) | (with_reducible refine Chg.alloc ?_ _) | (with_reducible refine Chg.drewN ?_ _) | (with_reducible refine Chg.drew ?_) | (with_reducible refine Chg.setCell ?_ _ ?_) | (apply Or.inl; with_reducible rfl) | (apply Or.inl; simp; done) | (apply Or.inr; simp; done) | (apply Or.inr; simp; omega)))) c6) | (go_at_call 14; refine (HCM.out _).mono ?_; rintro e w7x ⟨rfl, c7⟩; have d7 : Chg NoChg w8 w7x := Chg.trans' (by (repeat' (first | (with_reducible exact Chg.refl _ _) | (with_reducible assumption) | (with_reducible refine Chg.alloc ?_ _) | (with_reducible refine Chg.drewN ?_ _) | (with_reducible refine Chg.drew ?_) | (with_reducible refine Chg.setCell ?_ _ ?_) | (apply Or.inl; with_reducible rfl) | (apply Or.inl; simp; done) | (apply Or.inr; simp; done) | (apply Or.inr; simp; omega)))) c7))
  all_goals go_wp2
  all_goals go_ret
  all_goals exact ⟨rfl, C8.out.trans' d7⟩

set_option maxRecDepth 100000 in
set_option maxHeartbeats 8000000 in
theorem kinds_LSt (i p r1 r2 r3 h1 h2 h3 u1 u2 u3 : Int) (k t : Int) (n : Nat) (hM : ∀ w, Calls Tryz.prog 10 #[.agg #[.int .i64 i, .int .i64 p, .bool true, .int .u64 r1, .int .u64 r2, .int .u64 r3, .int .u64 h1, .int .u64 h2, .int .u64 h3, .int .u64 u1, .int .u64 u2, .int .u64 u3, .int .i64 k, .int .i64 t]] w fun e w' => e = .returned (.int .i64 0) ∧ Chg NoChg w w') (hn : decide ((9223372036854775808 : Int) ≤ (n : Int)) = false) (hK : ∀ w, Calls Tryz.prog 11 #[.agg #[.int .i64 i, .int .i64 p, .bool true, .int .u64 r1, .int .u64 r2, .int .u64 r3, .int .u64 h1, .int .u64 h2, .int .u64 h3, .int .u64 u1, .int .u64 u2, .int .u64 u3, .int .i64 k, .int .i64 t]] w fun e w' => e = .returned (.int .u8 2) ∧ Chg NoChg w w') (hF : ∀ w, Calls Tryz.prog 10 #[.agg #[.int .i64 i, .int .i64 p, .bool true, .int .u64 r1, .int .u64 r2, .int .u64 r3, .int .u64 h1, .int .u64 h2, .int .u64 h3, .int .u64 0, .int .u64 0, .int .u64 0, .int .i64 k, .int .i64 t]] w fun e w' => e = .returned (.int .i64 0) ∧ Chg NoChg w w') (hk : (k == 0) = false) (ht : (t == 0) = false) (hR : ∀ w, Calls Tryz.prog 12 #[.agg #[.int .u64 r1, .int .u64 r2, .int .u64 r3]] w fun e w' => e = .returned (.bool true) ∧ Chg NoChg w w') (hS : ∀ w, Calls Tryz.prog 12 #[.agg #[.int .u64 h1, .int .u64 h2, .int .u64 h3]] w fun e w' => e = .returned (.bool false) ∧ Chg NoChg w w') (hU : ∀ w, Calls Tryz.prog 12 #[.agg #[.int .u64 u1, .int .u64 u2, .int .u64 u3]] w fun e w' => e = .returned (.bool true) ∧ Chg NoChg w w') (w : World) (hd : Door w) :
    Calls Tryz.prog 4 #[.agg #[.int .i64 i, .int .i64 p, .bool true, .int .u64 r1, .int .u64 r2, .int .u64 r3, .int .u64 h1, .int .u64 h2, .int .u64 h3, .int .u64 u1, .int .u64 u2, .int .u64 u3, .int .i64 k, .int .i64 t], .int .u64 (n : Int)] w fun e w' => e = .returned (.bool true) ∧ Chg NoChg w w' := by
  have HM := hide hM
  have HD := hide hd
  clear hM hd
  have HK := hide hK
  have HF := hide hF
  have HR := hide hR
  have HS := hide hS
  have HU := hide hU
  clear hK hF hR hS hU
  have Bs0 := hide (Blk.new w #[.int .i64 i, .int .i64 p, .bool true, .int .u64 r1, .int .u64 r2, .int .u64 r3, .int .u64 h1, .int .u64 h2, .int .u64 h3, .int .u64 u1, .int .u64 u2, .int .u64 u3, .int .i64 k, .int .i64 t] 26)
  have C0 := hide ((Chg.refl NoChg w).alloc (.cells #[.int .i64 i, .int .i64 p, .bool true, .int .u64 r1, .int .u64 r2, .int .u64 r3, .int .u64 h1, .int .u64 h2, .int .u64 h3, .int .u64 u1, .int .u64 u2, .int .u64 u3, .int .i64 k, .int .i64 t] 26))
  go_enter Tryz.func4, Tryz.ntmps4
  go_wp2_with fail
  refine (l13awake_any _ (HD.out.keep C0.out)).mono ?_
  rintro e w1 ⟨rfl, c1⟩
  have D1 := hide (c1)
  have Bs1 := hide (D1.out.blk Bs0.out (fun h => h))
  have C1 := hide (C0.out.trans' D1.out)
  clear c1 D1 C0 Bs0
  obtain ⟨a0, a1, a2, a3, a4, a5, a6, a7, a8, a9, a10, a11, a12, a13⟩ := spc_cellsI Bs1.out
  go_wp2_with fail
  refine (HM.out _).mono ?_
  rintro e w2 ⟨rfl, c2⟩
  have D2 := hide (c2)
  have Bs2 := hide (D2.out.blk Bs1.out (fun h => h))
  have C2 := hide (C1.out.trans' D2.out)
  clear c2 D2 C1 Bs1 a0 a1 a2 a3 a4 a5 a6 a7 a8 a9 a10 a11 a12 a13
  obtain ⟨a0, a1, a2, a3, a4, a5, a6, a7, a8, a9, a10, a11, a12, a13⟩ := spc_cellsI Bs2.out
  go_wp2_with fail
  refine (HK.out _).mono ?_
  rintro e w3 ⟨rfl, c3⟩
  have D3 := hide (c3)
  have Bs3 := hide (D3.out.blk Bs2.out (fun h => h))
  have C3 := hide (C2.out.trans' D3.out)
  clear c3 D3 C2 Bs2 a0 a1 a2 a3 a4 a5 a6 a7 a8 a9 a10 a11 a12 a13
  obtain ⟨a0, a1, a2, a3, a4, a5, a6, a7, a8, a9, a10, a11, a12, a13⟩ := spc_cellsI Bs3.out
  have l0 := Bs3.out.lt
  go_wp2_with fail
  refine (HF.out _).mono ?_
  rintro e w4 ⟨rfl, c4⟩
  replace c4 : Chg NoChg w3 w4 := Chg.trans' (by (repeat' (first | (with_reducible exact Chg.refl _ _) | (with_reducible assumption) | (with_reducible refine Chg.alloc ?_ _) | (with_reducible refine Chg.drewN ?_ _) | (with_reducible refine Chg.drew ?_) | (with_reducible refine Chg.setCell ?_ _ ?_) | (apply Or.inl; with_reducible rfl) | (apply Or.inl; simp; done) | (apply Or.inr; simp; done) | (apply Or.inr; simp; omega)))) c4
  have D4 := hide (c4)
  have Bs4 := hide (D4.out.blk Bs3.out (fun h => h))
  have C4 := hide (C3.out.trans' D4.out)
  clear c4 D4 C3 Bs3 a0 a1 a2 a3 a4 a5 a6 a7 a8 a9 a10 a11 a12 a13 l0
  obtain ⟨a0, a1, a2, a3, a4, a5, a6, a7, a8, a9, a10, a11, a12, a13⟩ := spc_cellsI Bs4.out
  go_wp2_with fail
  refine (HR.out _).mono ?_
  rintro e w5 ⟨rfl, c5⟩
  have D5 := hide (c5)
  have Bs5 := hide (D5.out.blk Bs4.out (fun h => h))
  have C5 := hide (C4.out.trans' D5.out)
  clear c5 D5 C4 Bs4 a0 a1 a2 a3 a4 a5 a6 a7 a8 a9 a10 a11 a12 a13
  obtain ⟨a0, a1, a2, a3, a4, a5, a6, a7, a8, a9, a10, a11, a12, a13⟩ := spc_cellsI Bs5.out
  go_wp2_with fail
  refine (HS.out _).mono ?_
  rintro e w6 ⟨rfl, c6⟩
  have D6 := hide (c6)
  have Bs6 := hide (D6.out.blk Bs5.out (fun h => h))
  have C6 := hide (C5.out.trans' D6.out)
  clear c6 D6 C5 Bs5 a0 a1 a2 a3 a4 a5 a6 a7 a8 a9 a10 a11 a12 a13
  obtain ⟨a0, a1, a2, a3, a4, a5, a6, a7, a8, a9, a10, a11, a12, a13⟩ := spc_cellsI Bs6.out
  go_wp2_with fail
  refine (HU.out _).mono ?_
  rintro e w7 ⟨rfl, c7⟩
  have D7 := hide (c7)
  have Bs7 := hide (D7.out.blk Bs6.out (fun h => h))
  have C7 := hide (C6.out.trans' D7.out)
  clear c7 D7 C6 Bs6 a0 a1 a2 a3 a4 a5 a6 a7 a8 a9 a10 a11 a12 a13
  go_wp2
  go_ret
  exact ⟨rfl, C7.out⟩

set_option maxRecDepth 100000 in
set_option maxHeartbeats 8000000 in
theorem kinds_LSf (i p r1 r2 r3 h1 h2 h3 u1 u2 u3 : Int) (k t : Int) (n : Nat) (hM : ∀ w, Calls Tryz.prog 10 #[.agg #[.int .i64 i, .int .i64 p, .bool true, .int .u64 r1, .int .u64 r2, .int .u64 r3, .int .u64 h1, .int .u64 h2, .int .u64 h3, .int .u64 u1, .int .u64 u2, .int .u64 u3, .int .i64 k, .int .i64 t]] w fun e w' => e = .returned (.int .i64 0) ∧ Chg NoChg w w') (hn : decide ((9223372036854775808 : Int) ≤ (n : Int)) = false) (hK : ∀ w, Calls Tryz.prog 11 #[.agg #[.int .i64 i, .int .i64 p, .bool true, .int .u64 r1, .int .u64 r2, .int .u64 r3, .int .u64 h1, .int .u64 h2, .int .u64 h3, .int .u64 u1, .int .u64 u2, .int .u64 u3, .int .i64 k, .int .i64 t]] w fun e w' => e = .returned (.int .u8 2) ∧ Chg NoChg w w') (hF : ∀ w, Calls Tryz.prog 10 #[.agg #[.int .i64 i, .int .i64 p, .bool true, .int .u64 r1, .int .u64 r2, .int .u64 r3, .int .u64 h1, .int .u64 h2, .int .u64 h3, .int .u64 0, .int .u64 0, .int .u64 0, .int .i64 k, .int .i64 t]] w fun e w' => e = .returned (.int .i64 0) ∧ Chg NoChg w w') (hk : (k == 0) = false) (ht : (t == 0) = false) (hR : ∀ w, Calls Tryz.prog 12 #[.agg #[.int .u64 r1, .int .u64 r2, .int .u64 r3]] w fun e w' => e = .returned (.bool true) ∧ Chg NoChg w w') (hS : ∀ w, Calls Tryz.prog 12 #[.agg #[.int .u64 h1, .int .u64 h2, .int .u64 h3]] w fun e w' => e = .returned (.bool false) ∧ Chg NoChg w w') (hU : ∀ w, Calls Tryz.prog 12 #[.agg #[.int .u64 u1, .int .u64 u2, .int .u64 u3]] w fun e w' => e = .returned (.bool false) ∧ Chg NoChg w w') (w : World) (hd : Door w) :
    Calls Tryz.prog 4 #[.agg #[.int .i64 i, .int .i64 p, .bool true, .int .u64 r1, .int .u64 r2, .int .u64 r3, .int .u64 h1, .int .u64 h2, .int .u64 h3, .int .u64 u1, .int .u64 u2, .int .u64 u3, .int .i64 k, .int .i64 t], .int .u64 (n : Int)] w fun e w' => e = .returned (.bool true) ∧ Chg NoChg w w' := by
  have HM := hide hM
  have HD := hide hd
  clear hM hd
  have HK := hide hK
  have HF := hide hF
  have HR := hide hR
  have HS := hide hS
  have HU := hide hU
  clear hK hF hR hS hU
  have Bs0 := hide (Blk.new w #[.int .i64 i, .int .i64 p, .bool true, .int .u64 r1, .int .u64 r2, .int .u64 r3, .int .u64 h1, .int .u64 h2, .int .u64 h3, .int .u64 u1, .int .u64 u2, .int .u64 u3, .int .i64 k, .int .i64 t] 26)
  have C0 := hide ((Chg.refl NoChg w).alloc (.cells #[.int .i64 i, .int .i64 p, .bool true, .int .u64 r1, .int .u64 r2, .int .u64 r3, .int .u64 h1, .int .u64 h2, .int .u64 h3, .int .u64 u1, .int .u64 u2, .int .u64 u3, .int .i64 k, .int .i64 t] 26))
  go_enter Tryz.func4, Tryz.ntmps4
  go_wp2_with fail
  refine (l13awake_any _ (HD.out.keep C0.out)).mono ?_
  rintro e w1 ⟨rfl, c1⟩
  have D1 := hide (c1)
  have Bs1 := hide (D1.out.blk Bs0.out (fun h => h))
  have C1 := hide (C0.out.trans' D1.out)
  clear c1 D1 C0 Bs0
  obtain ⟨a0, a1, a2, a3, a4, a5, a6, a7, a8, a9, a10, a11, a12, a13⟩ := spc_cellsI Bs1.out
  go_wp2_with fail
  refine (HM.out _).mono ?_
  rintro e w2 ⟨rfl, c2⟩
  have D2 := hide (c2)
  have Bs2 := hide (D2.out.blk Bs1.out (fun h => h))
  have C2 := hide (C1.out.trans' D2.out)
  clear c2 D2 C1 Bs1 a0 a1 a2 a3 a4 a5 a6 a7 a8 a9 a10 a11 a12 a13
  obtain ⟨a0, a1, a2, a3, a4, a5, a6, a7, a8, a9, a10, a11, a12, a13⟩ := spc_cellsI Bs2.out
  go_wp2_with fail
  refine (HK.out _).mono ?_
  rintro e w3 ⟨rfl, c3⟩
  have D3 := hide (c3)
  have Bs3 := hide (D3.out.blk Bs2.out (fun h => h))
  have C3 := hide (C2.out.trans' D3.out)
  clear c3 D3 C2 Bs2 a0 a1 a2 a3 a4 a5 a6 a7 a8 a9 a10 a11 a12 a13
  obtain ⟨a0, a1, a2, a3, a4, a5, a6, a7, a8, a9, a10, a11, a12, a13⟩ := spc_cellsI Bs3.out
  have l0 := Bs3.out.lt
  go_wp2_with fail
  refine (HF.out _).mono ?_
  rintro e w4 ⟨rfl, c4⟩
  replace c4 : Chg NoChg w3 w4 := Chg.trans' (by (repeat' (first | (with_reducible exact Chg.refl _ _) | (with_reducible assumption) | (with_reducible refine Chg.alloc ?_ _) | (with_reducible refine Chg.drewN ?_ _) | (with_reducible refine Chg.drew ?_) | (with_reducible refine Chg.setCell ?_ _ ?_) | (apply Or.inl; with_reducible rfl) | (apply Or.inl; simp; done) | (apply Or.inr; simp; done) | (apply Or.inr; simp; omega)))) c4
  have D4 := hide (c4)
  have Bs4 := hide (D4.out.blk Bs3.out (fun h => h))
  have C4 := hide (C3.out.trans' D4.out)
  clear c4 D4 C3 Bs3 a0 a1 a2 a3 a4 a5 a6 a7 a8 a9 a10 a11 a12 a13 l0
  obtain ⟨a0, a1, a2, a3, a4, a5, a6, a7, a8, a9, a10, a11, a12, a13⟩ := spc_cellsI Bs4.out
  go_wp2_with fail
  refine (HR.out _).mono ?_
  rintro e w5 ⟨rfl, c5⟩
  have D5 := hide (c5)
  have Bs5 := hide (D5.out.blk Bs4.out (fun h => h))
  have C5 := hide (C4.out.trans' D5.out)
  clear c5 D5 C4 Bs4 a0 a1 a2 a3 a4 a5 a6 a7 a8 a9 a10 a11 a12 a13
  obtain ⟨a0, a1, a2, a3, a4, a5, a6, a7, a8, a9, a10, a11, a12, a13⟩ := spc_cellsI Bs5.out
  go_wp2_with fail
  refine (HS.out _).mono ?_
  rintro e w6 ⟨rfl, c6⟩
  have D6 := hide (c6)
  have Bs6 := hide (D6.out.blk Bs5.out (fun h => h))
  have C6 := hide (C5.out.trans' D6.out)
  clear c6 D6 C5 Bs5 a0 a1 a2 a3 a4 a5 a6 a7 a8 a9 a10 a11 a12 a13
  obtain ⟨a0, a1, a2, a3, a4, a5, a6, a7, a8, a9, a10, a11, a12, a13⟩ := spc_cellsI Bs6.out
  go_wp2_with fail
  refine (HU.out _).mono ?_
  rintro e w7 ⟨rfl, c7⟩
  have D7 := hide (c7)
  have Bs7 := hide (D7.out.blk Bs6.out (fun h => h))
  have C7 := hide (C6.out.trans' D7.out)
  clear c7 D7 C6 Bs6 a0 a1 a2 a3 a4 a5 a6 a7 a8 a9 a10 a11 a12 a13
  obtain ⟨a0, a1, a2, a3, a4, a5, a6, a7, a8, a9, a10, a11, a12, a13⟩ := spc_cellsI Bs7.out
  go_wp2_with fail
  refine (HR.out _).mono ?_
  rintro e w8 ⟨rfl, c8⟩
  have D8 := hide (c8)
  have Bs8 := hide (D8.out.blk Bs7.out (fun h => h))
  have C8 := hide (C7.out.trans' D8.out)
  clear c8 D8 C7 Bs7 a0 a1 a2 a3 a4 a5 a6 a7 a8 a9 a10 a11 a12 a13
  go_wp2
  go_ret
  exact ⟨rfl, C8.out⟩

set_option maxRecDepth 100000 in
set_option maxHeartbeats 8000000 in
theorem kinds_INt (i p r1 r2 r3 h1 h2 h3 u1 u2 u3 : Int) (n : Nat) (hM : ∀ w, Calls Tryz.prog 10 #[.agg #[.int .i64 i, .int .i64 p, .bool false, .int .u64 r1, .int .u64 r2, .int .u64 r3, .int .u64 h1, .int .u64 h2, .int .u64 h3, .int .u64 u1, .int .u64 u2, .int .u64 u3, .int .i64 0, .int .i64 0]] w fun e w' => e = .returned (.int .i64 0) ∧ Chg NoChg w w') (hn : decide ((9223372036854775808 : Int) ≤ (n : Int)) = false) (hK : ∀ w, Calls Tryz.prog 11 #[.agg #[.int .i64 i, .int .i64 p, .bool false, .int .u64 r1, .int .u64 r2, .int .u64 r3, .int .u64 h1, .int .u64 h2, .int .u64 h3, .int .u64 u1, .int .u64 u2, .int .u64 u3, .int .i64 0, .int .i64 0]] w fun e w' => e = .returned (.int .u8 4) ∧ Chg NoChg w w') (hF : ∀ w, Calls Tryz.prog 10 #[.agg #[.int .i64 i, .int .i64 p, .bool false, .int .u64 r1, .int .u64 r2, .int .u64 r3, .int .u64 h1, .int .u64 h2, .int .u64 h3, .int .u64 0, .int .u64 0, .int .u64 0, .int .i64 0, .int .i64 0]] w fun e w' => e = .returned (.int .i64 0) ∧ Chg NoChg w w') (hR : ∀ w, Calls Tryz.prog 12 #[.agg #[.int .u64 r1, .int .u64 r2, .int .u64 r3]] w fun e w' => e = .returned (.bool true) ∧ Chg NoChg w w') (hS : ∀ w, Calls Tryz.prog 12 #[.agg #[.int .u64 h1, .int .u64 h2, .int .u64 h3]] w fun e w' => e = .returned (.bool false) ∧ Chg NoChg w w') (hU : ∀ w, Calls Tryz.prog 12 #[.agg #[.int .u64 u1, .int .u64 u2, .int .u64 u3]] w fun e w' => e = .returned (.bool true) ∧ Chg NoChg w w') (w : World) (hd : Door w) :
    Calls Tryz.prog 4 #[.agg #[.int .i64 i, .int .i64 p, .bool false, .int .u64 r1, .int .u64 r2, .int .u64 r3, .int .u64 h1, .int .u64 h2, .int .u64 h3, .int .u64 u1, .int .u64 u2, .int .u64 u3, .int .i64 0, .int .i64 0], .int .u64 (n : Int)] w fun e w' => e = .returned (.bool true) ∧ Chg NoChg w w' := by
  have HM := hide hM
  have HD := hide hd
  clear hM hd
  have HK := hide hK
  have HF := hide hF
  have HR := hide hR
  have HS := hide hS
  have HU := hide hU
  clear hK hF hR hS hU
  have Bs0 := hide (Blk.new w #[.int .i64 i, .int .i64 p, .bool false, .int .u64 r1, .int .u64 r2, .int .u64 r3, .int .u64 h1, .int .u64 h2, .int .u64 h3, .int .u64 u1, .int .u64 u2, .int .u64 u3, .int .i64 0, .int .i64 0] 26)
  have C0 := hide ((Chg.refl NoChg w).alloc (.cells #[.int .i64 i, .int .i64 p, .bool false, .int .u64 r1, .int .u64 r2, .int .u64 r3, .int .u64 h1, .int .u64 h2, .int .u64 h3, .int .u64 u1, .int .u64 u2, .int .u64 u3, .int .i64 0, .int .i64 0] 26))
  go_enter Tryz.func4, Tryz.ntmps4
  go_wp2_with fail
  refine (l13awake_any _ (HD.out.keep C0.out)).mono ?_
  rintro e w1 ⟨rfl, c1⟩
  have D1 := hide (c1)
  have Bs1 := hide (D1.out.blk Bs0.out (fun h => h))
  have C1 := hide (C0.out.trans' D1.out)
  clear c1 D1 C0 Bs0
  obtain ⟨a0, a1, a2, a3, a4, a5, a6, a7, a8, a9, a10, a11, a12, a13⟩ := spc_cellsI Bs1.out
  go_wp2_with fail
  refine (HM.out _).mono ?_
  rintro e w2 ⟨rfl, c2⟩
  have D2 := hide (c2)
  have Bs2 := hide (D2.out.blk Bs1.out (fun h => h))
  have C2 := hide (C1.out.trans' D2.out)
  clear c2 D2 C1 Bs1 a0 a1 a2 a3 a4 a5 a6 a7 a8 a9 a10 a11 a12 a13
  obtain ⟨a0, a1, a2, a3, a4, a5, a6, a7, a8, a9, a10, a11, a12, a13⟩ := spc_cellsI Bs2.out
  go_wp2_with fail
  refine (HK.out _).mono ?_
  rintro e w3 ⟨rfl, c3⟩
  have D3 := hide (c3)
  have Bs3 := hide (D3.out.blk Bs2.out (fun h => h))
  have C3 := hide (C2.out.trans' D3.out)
  clear c3 D3 C2 Bs2 a0 a1 a2 a3 a4 a5 a6 a7 a8 a9 a10 a11 a12 a13
  obtain ⟨a0, a1, a2, a3, a4, a5, a6, a7, a8, a9, a10, a11, a12, a13⟩ := spc_cellsI Bs3.out
  have l0 := Bs3.out.lt
  go_wp2_with fail
  refine (HF.out _).mono ?_
  rintro e w4 ⟨rfl, c4⟩
  replace c4 : Chg NoChg w3 w4 := Chg.trans' (by (repeat' (first | (with_reducible exact Chg.refl _ _) | (with_reducible assumption) | (with_reducible refine Chg.alloc ?_ _) | (with_reducible refine Chg.drewN ?_ _) | (with_reducible refine Chg.drew ?_) | (with_reducible refine Chg.setCell ?_ _ ?_) | (apply Or.inl; with_reducible rfl) | (apply Or.inl; simp; done) | (apply Or.inr; simp; done) | (apply Or.inr; simp; omega)))) c4
  have D4 := hide (c4)
  have Bs4 := hide (D4.out.blk Bs3.out (fun h => h))
  have C4 := hide (C3.out.trans' D4.out)
  clear c4 D4 C3 Bs3 a0 a1 a2 a3 a4 a5 a6 a7 a8 a9 a10 a11 a12 a13 l0
  obtain ⟨a0, a1, a2, a3, a4, a5, a6, a7, a8, a9, a10, a11, a12, a13⟩ := spc_cellsI Bs4.out
  go_wp2_with fail
  refine (HR.out _).mono ?_
  rintro e w5 ⟨rfl, c5⟩
  have D5 := hide (c5)
  have Bs5 := hide (D5.out.blk Bs4.out (fun h => h))
  have C5 := hide (C4.out.trans' D5.out)
  clear c5 D5 C4 Bs4 a0 a1 a2 a3 a4 a5 a6 a7 a8 a9 a10 a11 a12 a13
  obtain ⟨a0, a1, a2, a3, a4, a5, a6, a7, a8, a9, a10, a11, a12, a13⟩ := spc_cellsI Bs5.out
  go_wp2_with fail
  refine (HS.out _).mono ?_
  rintro e w6 ⟨rfl, c6⟩
  have D6 := hide (c6)
  have Bs6 := hide (D6.out.blk Bs5.out (fun h => h))
  have C6 := hide (C5.out.trans' D6.out)
  clear c6 D6 C5 Bs5 a0 a1 a2 a3 a4 a5 a6 a7 a8 a9 a10 a11 a12 a13
  obtain ⟨a0, a1, a2, a3, a4, a5, a6, a7, a8, a9, a10, a11, a12, a13⟩ := spc_cellsI Bs6.out
  go_wp2_with fail
  refine (HU.out _).mono ?_
  rintro e w7 ⟨rfl, c7⟩
  have D7 := hide (c7)
  have Bs7 := hide (D7.out.blk Bs6.out (fun h => h))
  have C7 := hide (C6.out.trans' D7.out)
  clear c7 D7 C6 Bs6 a0 a1 a2 a3 a4 a5 a6 a7 a8 a9 a10 a11 a12 a13
  go_wp2
  go_ret
  exact ⟨rfl, C7.out⟩

set_option maxRecDepth 100000 in
set_option maxHeartbeats 8000000 in
theorem kinds_INf (i p r1 r2 r3 h1 h2 h3 u1 u2 u3 : Int) (n : Nat) (hM : ∀ w, Calls Tryz.prog 10 #[.agg #[.int .i64 i, .int .i64 p, .bool false, .int .u64 r1, .int .u64 r2, .int .u64 r3, .int .u64 h1, .int .u64 h2, .int .u64 h3, .int .u64 u1, .int .u64 u2, .int .u64 u3, .int .i64 0, .int .i64 0]] w fun e w' => e = .returned (.int .i64 0) ∧ Chg NoChg w w') (hn : decide ((9223372036854775808 : Int) ≤ (n : Int)) = false) (hK : ∀ w, Calls Tryz.prog 11 #[.agg #[.int .i64 i, .int .i64 p, .bool false, .int .u64 r1, .int .u64 r2, .int .u64 r3, .int .u64 h1, .int .u64 h2, .int .u64 h3, .int .u64 u1, .int .u64 u2, .int .u64 u3, .int .i64 0, .int .i64 0]] w fun e w' => e = .returned (.int .u8 4) ∧ Chg NoChg w w') (hF : ∀ w, Calls Tryz.prog 10 #[.agg #[.int .i64 i, .int .i64 p, .bool false, .int .u64 r1, .int .u64 r2, .int .u64 r3, .int .u64 h1, .int .u64 h2, .int .u64 h3, .int .u64 0, .int .u64 0, .int .u64 0, .int .i64 0, .int .i64 0]] w fun e w' => e = .returned (.int .i64 0) ∧ Chg NoChg w w') (hR : ∀ w, Calls Tryz.prog 12 #[.agg #[.int .u64 r1, .int .u64 r2, .int .u64 r3]] w fun e w' => e = .returned (.bool true) ∧ Chg NoChg w w') (hS : ∀ w, Calls Tryz.prog 12 #[.agg #[.int .u64 h1, .int .u64 h2, .int .u64 h3]] w fun e w' => e = .returned (.bool false) ∧ Chg NoChg w w') (hU : ∀ w, Calls Tryz.prog 12 #[.agg #[.int .u64 u1, .int .u64 u2, .int .u64 u3]] w fun e w' => e = .returned (.bool false) ∧ Chg NoChg w w') (w : World) (hd : Door w) :
    Calls Tryz.prog 4 #[.agg #[.int .i64 i, .int .i64 p, .bool false, .int .u64 r1, .int .u64 r2, .int .u64 r3, .int .u64 h1, .int .u64 h2, .int .u64 h3, .int .u64 u1, .int .u64 u2, .int .u64 u3, .int .i64 0, .int .i64 0], .int .u64 (n : Int)] w fun e w' => e = .returned (.bool true) ∧ Chg NoChg w w' := by
  have HM := hide hM
  have HD := hide hd
  clear hM hd
  have HK := hide hK
  have HF := hide hF
  have HR := hide hR
  have HS := hide hS
  have HU := hide hU
  clear hK hF hR hS hU
  have Bs0 := hide (Blk.new w #[.int .i64 i, .int .i64 p, .bool false, .int .u64 r1, .int .u64 r2, .int .u64 r3, .int .u64 h1, .int .u64 h2, .int .u64 h3, .int .u64 u1, .int .u64 u2, .int .u64 u3, .int .i64 0, .int .i64 0] 26)
  have C0 := hide ((Chg.refl NoChg w).alloc (.cells #[.int .i64 i, .int .i64 p, .bool false, .int .u64 r1, .int .u64 r2, .int .u64 r3, .int .u64 h1, .int .u64 h2, .int .u64 h3, .int .u64 u1, .int .u64 u2, .int .u64 u3, .int .i64 0, .int .i64 0] 26))
  go_enter Tryz.func4, Tryz.ntmps4
  go_wp2_with fail
  refine (l13awake_any _ (HD.out.keep C0.out)).mono ?_
  rintro e w1 ⟨rfl, c1⟩
  have D1 := hide (c1)
  have Bs1 := hide (D1.out.blk Bs0.out (fun h => h))
  have C1 := hide (C0.out.trans' D1.out)
  clear c1 D1 C0 Bs0
  obtain ⟨a0, a1, a2, a3, a4, a5, a6, a7, a8, a9, a10, a11, a12, a13⟩ := spc_cellsI Bs1.out
  go_wp2_with fail
  refine (HM.out _).mono ?_
  rintro e w2 ⟨rfl, c2⟩
  have D2 := hide (c2)
  have Bs2 := hide (D2.out.blk Bs1.out (fun h => h))
  have C2 := hide (C1.out.trans' D2.out)
  clear c2 D2 C1 Bs1 a0 a1 a2 a3 a4 a5 a6 a7 a8 a9 a10 a11 a12 a13
  obtain ⟨a0, a1, a2, a3, a4, a5, a6, a7, a8, a9, a10, a11, a12, a13⟩ := spc_cellsI Bs2.out
  go_wp2_with fail
  refine (HK.out _).mono ?_
  rintro e w3 ⟨rfl, c3⟩
  have D3 := hide (c3)
  have Bs3 := hide (D3.out.blk Bs2.out (fun h => h))
  have C3 := hide (C2.out.trans' D3.out)
  clear c3 D3 C2 Bs2 a0 a1 a2 a3 a4 a5 a6 a7 a8 a9 a10 a11 a12 a13
  obtain ⟨a0, a1, a2, a3, a4, a5, a6, a7, a8, a9, a10, a11, a12, a13⟩ := spc_cellsI Bs3.out
  have l0 := Bs3.out.lt
  go_wp2_with fail
  refine (HF.out _).mono ?_
  rintro e w4 ⟨rfl, c4⟩
  replace c4 : Chg NoChg w3 w4 := Chg.trans' (by (repeat' (first | (with_reducible exact Chg.refl _ _) | (with_reducible assumption) | (with_reducible refine Chg.alloc ?_ _) | (with_reducible refine Chg.drewN ?_ _) | (with_reducible refine Chg.drew ?_) | (with_reducible refine Chg.setCell ?_ _ ?_) | (apply Or.inl; with_reducible rfl) | (apply Or.inl; simp; done) | (apply Or.inr; simp; done) | (apply Or.inr; simp; omega)))) c4
  have D4 := hide (c4)
  have Bs4 := hide (D4.out.blk Bs3.out (fun h => h))
  have C4 := hide (C3.out.trans' D4.out)
  clear c4 D4 C3 Bs3 a0 a1 a2 a3 a4 a5 a6 a7 a8 a9 a10 a11 a12 a13 l0
  obtain ⟨a0, a1, a2, a3, a4, a5, a6, a7, a8, a9, a10, a11, a12, a13⟩ := spc_cellsI Bs4.out
  go_wp2_with fail
  refine (HR.out _).mono ?_
  rintro e w5 ⟨rfl, c5⟩
  have D5 := hide (c5)
  have Bs5 := hide (D5.out.blk Bs4.out (fun h => h))
  have C5 := hide (C4.out.trans' D5.out)
  clear c5 D5 C4 Bs4 a0 a1 a2 a3 a4 a5 a6 a7 a8 a9 a10 a11 a12 a13
  obtain ⟨a0, a1, a2, a3, a4, a5, a6, a7, a8, a9, a10, a11, a12, a13⟩ := spc_cellsI Bs5.out
  go_wp2_with fail
  refine (HS.out _).mono ?_
  rintro e w6 ⟨rfl, c6⟩
  have D6 := hide (c6)
  have Bs6 := hide (D6.out.blk Bs5.out (fun h => h))
  have C6 := hide (C5.out.trans' D6.out)
  clear c6 D6 C5 Bs5 a0 a1 a2 a3 a4 a5 a6 a7 a8 a9 a10 a11 a12 a13
  obtain ⟨a0, a1, a2, a3, a4, a5, a6, a7, a8, a9, a10, a11, a12, a13⟩ := spc_cellsI Bs6.out
  go_wp2_with fail
  refine (HU.out _).mono ?_
  rintro e w7 ⟨rfl, c7⟩
  have D7 := hide (c7)
  have Bs7 := hide (D7.out.blk Bs6.out (fun h => h))
  have C7 := hide (C6.out.trans' D7.out)
  clear c7 D7 C6 Bs6 a0 a1 a2 a3 a4 a5 a6 a7 a8 a9 a10 a11 a12 a13
  obtain ⟨a0, a1, a2, a3, a4, a5, a6, a7, a8, a9, a10, a11, a12, a13⟩ := spc_cellsI Bs7.out
  go_wp2_with fail
  refine (HR.out _).mono ?_
  rintro e w8 ⟨rfl, c8⟩
  have D8 := hide (c8)
  have Bs8 := hide (D8.out.blk Bs7.out (fun h => h))
  have C8 := hide (C7.out.trans' D8.out)
  clear c8 D8 C7 Bs7 a0 a1 a2 a3 a4 a5 a6 a7 a8 a9 a10 a11 a12 a13
  go_wp2
  go_ret
  exact ⟨rfl, C8.out⟩
end Go.Proofs.YtofgajlpdnokdaaGreatDoor
