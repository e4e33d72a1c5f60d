/- distributarylaw13.awake, walked. Condition: the library's tables and errors are what it lays. -/
import Derived.Test.YtofgajlpdnokdaaGreatDoorSPParse
import Derived.Test.YtofgajlpdnokdaaGreatDoorSpEq
import Derived.Test.YtofgajlpdnokdaaGreatDoorSpec4
import Derived.Test.YtofgajlpdnokdaaGreatDoorSpecW
import Derived.Test.YtofgajlpdnokdaaGreatDoorBase
import Derived.Deep.DeepCutAuto
import Derived.Outline
namespace Go.Proofs.YtofgajlpdnokdaaGreatDoor
set_option linter.unusedVariables false
open Go.RowKit
attribute [local go_sem ↓] run_eql_spc
attribute [local go_sem] yieldC

theorem spc_cellsI {w : World} {g : Nat} {i p k t r1 r2 r3 h1 h2 h3 u1 u2 u3 : Int} {b : Bool} (hb : Blk w g #[.int .i64 i, .int .i64 p, .bool b, .int .u64 r1, .int .u64 r2, .int .u64 r3, .int .u64 h1, .int .u64 h2, .int .u64 h3, .int .u64 u1, .int .u64 u2, .int .u64 u3, .int .i64 k, .int .i64 t] 26) : w.cell? ⟨g, 0, none⟩ = some (.int .i64 i) ∧ w.cell? ⟨g, 1, none⟩ = some (.int .i64 p) ∧ w.cell? ⟨g, 2, none⟩ = some (.bool b) ∧ w.cell? ⟨g, 3, none⟩ = some (.int .u64 r1) ∧ w.cell? ⟨g, 4, none⟩ = some (.int .u64 r2) ∧ w.cell? ⟨g, 5, none⟩ = some (.int .u64 r3) ∧ w.cell? ⟨g, 6, none⟩ = some (.int .u64 h1) ∧ w.cell? ⟨g, 7, none⟩ = some (.int .u64 h2) ∧ w.cell? ⟨g, 8, none⟩ = some (.int .u64 h3) ∧ w.cell? ⟨g, 9, none⟩ = some (.int .u64 u1) ∧ w.cell? ⟨g, 10, none⟩ = some (.int .u64 u2) ∧ w.cell? ⟨g, 11, none⟩ = some (.int .u64 u3) ∧ w.cell? ⟨g, 12, none⟩ = some (.int .i64 k) ∧ w.cell? ⟨g, 13, none⟩ = some (.int .i64 t) := by
  refine ⟨?_, ?_, ?_, ?_, ?_, ?_, ?_, ?_, ?_, ?_, ?_, ?_, ?_, ?_⟩
  all_goals (rw [Blk.cell hb]; rfl)

section
attribute [local go_sem] eqGuard_spc stood_spc
theorem run_neq_spc (i p k t r1 r2 r3 h1 h2 h3 u1 u2 u3 : Int) (b : Bool) (w : World) : (binOp .neq 26 (.agg #[.int .i64 i, .int .i64 p, .bool b, .int .u64 r1, .int .u64 r2, .int .u64 r3, .int .u64 h1, .int .u64 h2, .int .u64 h3, .int .u64 u1, .int .u64 u2, .int .u64 u3, .int .i64 k, .int .i64 t]) (.agg #[.int .i64 i, .int .i64 p, .bool b, .int .u64 r1, .int .u64 r2, .int .u64 r3, .int .u64 h1, .int .u64 h2, .int .u64 h3, .int .u64 u1, .int .u64 u2, .int .u64 u3, .int .i64 k, .int .i64 t])).run Tryz.prog w = .ok (.bool false) w := by
  go_simp
end

theorem dec_lits : Lib.decDigits 5 = [53] ∧ Lib.decDigits 2 = [50] ∧ Lib.decDigits 4 = [52] ∧ Lib.decDigits 10 = [49, 48] ∧ Lib.decDigits 1 = [49] ∧ Lib.decDigits 0 = [48] ∧ Lib.decDigits 3 = [51] ∧ Lib.decDigits 1000 = [49, 48, 48, 48] := by
  refine ⟨?_, ?_, ?_, ?_, ?_, ?_, ?_, ?_⟩
  all_goals simp [Lib.decDigits]
theorem aw_sText : sText ⟨5, 2, true, ⟨4, 10, 1⟩, ⟨0, 0, 3⟩, ⟨0, 0, 0⟩, 10, 1000⟩ = [108, 101, 97, 102, 32, 53, 32, 50, 32, 52, 47, 49, 48, 47, 49, 32, 48, 47, 48, 47, 51, 32, 48, 47, 48, 47, 48, 32, 49, 48, 32, 49, 48, 48, 48] := by
  obtain ⟨d1, d2, d3, d4, d5, d6, d7, d8⟩ := dec_lits
  simp only [sText, sWords, cw, kindW]
  show Lib.join [_, Lib.decDigits 5, Lib.decDigits 2, _, _, _, Lib.decDigits 10, Lib.decDigits 1000] _ = _
  rw [d1, d2, d3, d4, d5, d6, d7, d8]
  rfl
theorem aw_isSp : IsSp [108, 101, 97, 102, 32, 53, 32, 50, 32, 52, 47, 49, 48, 47, 49, 32, 48, 47, 48, 47, 51, 32, 48, 47, 48, 47, 48, 32, 49, 48, 32, 49, 48, 48, 48] ⟨5, 2, true, ⟨4, 10, 1⟩, ⟨0, 0, 3⟩, ⟨0, 0, 0⟩, 10, 1000⟩ :=
  ⟨aw_sText.symm, ⟨by decide, by decide, by decide, by decide⟩, by refine ⟨?_, ?_, ?_, ?_, ⟨?_, ?_, ?_⟩, ⟨?_, ?_, ?_⟩, ⟨?_, ?_, ?_⟩⟩ <;> decide⟩
theorem aw_text (w : World) (hd : Door w) : Calls Tryz.prog 8 #[.agg #[.int .i64 5, .int .i64 2, .bool true, .int .u64 4, .int .u64 10, .int .u64 1, .int .u64 0, .int .u64 0, .int .u64 3, .int .u64 0, .int .u64 0, .int .u64 0, .int .i64 10, .int .i64 1000]] w fun e w' => e = .returned (.tuple #[.string ⟨#[108, 101, 97, 102, 32, 53, 32, 50, 32, 52, 47, 49, 48, 47, 49, 32, 48, 47, 48, 47, 51, 32, 48, 47, 48, 47, 48, 32, 49, 48, 32, 49, 48, 48, 48]⟩, .int .i64 0]) ∧ Chg NoChg w w' := by
  have h := s13Text_any 5 2 true ⟨4, 10, 1⟩ ⟨0, 0, 3⟩ ⟨0, 0, 0⟩ 10 1000 (by decide) (by decide) (by decide) (by decide) ⟨by decide, by decide, by decide⟩ ⟨by decide, by decide, by decide⟩ ⟨by decide, by decide, by decide⟩ w hd
  have e : sText ⟨((5 : Nat) : Int), ((2 : Nat) : Int), true, ⟨4, 10, 1⟩, ⟨0, 0, 3⟩, ⟨0, 0, 0⟩, ((10 : Nat) : Int), ((1000 : Nat) : Int)⟩ = [108, 101, 97, 102, 32, 53, 32, 50, 32, 52, 47, 49, 48, 47, 49, 32, 48, 47, 48, 47, 51, 32, 48, 47, 48, 47, 48, 32, 49, 48, 32, 49, 48, 48, 48] := aw_sText
  rw [e] at h
  exact h
theorem aw_parse (w : World) (hd : Door w) : Calls Tryz.prog 9 #[.string ⟨#[108, 101, 97, 102, 32, 53, 32, 50, 32, 52, 47, 49, 48, 47, 49, 32, 48, 47, 48, 47, 51, 32, 48, 47, 48, 47, 48, 32, 49, 48, 32, 49, 48, 48, 48]⟩] w fun e w' => e = .returned (.tuple #[.agg #[.int .i64 5, .int .i64 2, .bool true, .int .u64 4, .int .u64 10, .int .u64 1, .int .u64 0, .int .u64 0, .int .u64 3, .int .u64 0, .int .u64 0, .int .u64 0, .int .i64 10, .int .i64 1000], .int .i64 0]) ∧ Chg NoChg w w' := by
  refine (s13Parse_any ⟨#[108, 101, 97, 102, 32, 53, 32, 50, 32, 52, 47, 49, 48, 47, 49, 32, 48, 47, 48, 47, 51, 32, 48, 47, 48, 47, 48, 32, 49, 48, 32, 49, 48, 48, 48]⟩ w hd (by decide)).mono ?_
  rintro e w' ⟨he, c⟩
  refine ⟨?_, c⟩
  rcases he with ⟨s, hs, rfl⟩ | ⟨hno, _⟩
  · obtain rfl := IsSp.inj hs aw_isSp
    rfl
  · exact absurd aw_isSp (hno _)
theorem aw_with (w : World) : Calls Tryz.prog 15 #[.agg #[.int .i64 5, .int .i64 2, .bool true, .int .u64 4, .int .u64 10, .int .u64 1, .int .u64 0, .int .u64 0, .int .u64 3, .int .u64 0, .int .u64 0, .int .u64 0, .int .i64 10, .int .i64 1000], .agg #[.int .i64 0, .int .i64 0, .bool false, .int .u64 0, .int .u64 0, .int .u64 0, .int .u64 0, .int .u64 0, .int .u64 0, .int .u64 0, .int .u64 0, .int .u64 0, .int .i64 0, .int .i64 0]] w fun e w' => e = .returned (.agg #[.int .i64 5, .int .i64 2, .bool true, .int .u64 0, .int .u64 0, .int .u64 0, .int .u64 0, .int .u64 0, .int .u64 0, .int .u64 0, .int .u64 0, .int .u64 0, .int .i64 10, .int .i64 1000]) ∧ Chg NoChg w w' :=
  spWith_any ⟨5, 2, true, ⟨4, 10, 1⟩, ⟨0, 0, 3⟩, ⟨0, 0, 0⟩, 10, 1000⟩ ⟨0, 0, false, ⟨0, 0, 0⟩, ⟨0, 0, 0⟩, ⟨0, 0, 0⟩, 0, 0⟩ w
theorem aw_may1 (w : World) : Calls Tryz.prog 10 #[.agg #[.int .i64 5, .int .i64 2, .bool true, .int .u64 4, .int .u64 10, .int .u64 1, .int .u64 0, .int .u64 0, .int .u64 3, .int .u64 0, .int .u64 0, .int .u64 0, .int .i64 10, .int .i64 1000]] w fun e w' => e = .returned (.int .i64 0) ∧ Chg NoChg w w' := by
  have h := spMay_any ⟨5, 2, true, ⟨4, 10, 1⟩, ⟨0, 0, 3⟩, ⟨0, 0, 0⟩, 10, 1000⟩ w
  have e : Spc.mayE ⟨5, 2, true, ⟨4, 10, 1⟩, ⟨0, 0, 3⟩, ⟨0, 0, 0⟩, 10, 1000⟩ = 0 := by kernel_rfl
  rw [e] at h
  exact h
theorem aw_mayN (w : World) : Calls Tryz.prog 10 #[.agg #[.int .i64 5, .int .i64 2, .bool true, .int .u64 0, .int .u64 0, .int .u64 0, .int .u64 0, .int .u64 0, .int .u64 0, .int .u64 0, .int .u64 0, .int .u64 0, .int .i64 10, .int .i64 1000]] w fun e w' => e = .returned (.int .i64 130) ∧ Chg NoChg w w' := by
  have h := spMay_any ⟨5, 2, true, ⟨0, 0, 0⟩, ⟨0, 0, 0⟩, ⟨0, 0, 0⟩, 10, 1000⟩ w
  have e : Spc.mayE ⟨5, 2, true, ⟨0, 0, 0⟩, ⟨0, 0, 0⟩, ⟨0, 0, 0⟩, 10, 1000⟩ = 130 := by kernel_rfl
  rw [e] at h
  exact h
theorem aw_mayS (w : World) : Calls Tryz.prog 10 #[.agg #[.int .i64 5, .int .i64 2, .bool true, .int .u64 4, .int .u64 10, .int .u64 1, .int .u64 4, .int .u64 10, .int .u64 0, .int .u64 0, .int .u64 0, .int .u64 0, .int .i64 10, .int .i64 1000]] w fun e w' => e = .returned (.int .i64 130) ∧ Chg NoChg w w' := by
  have h := spMay_any ⟨5, 2, true, ⟨4, 10, 1⟩, ⟨4, 10, 0⟩, ⟨0, 0, 0⟩, 10, 1000⟩ w
  have e : Spc.mayE ⟨5, 2, true, ⟨4, 10, 1⟩, ⟨4, 10, 0⟩, ⟨0, 0, 0⟩, 10, 1000⟩ = 130 := by kernel_rfl
  rw [e] at h
  exact h
theorem aw_mayO (w : World) : Calls Tryz.prog 10 #[.agg #[.int .i64 5, .int .i64 2, .bool true, .int .u64 4, .int .u64 10, .int .u64 1, .int .u64 4, .int .u64 0, .int .u64 3, .int .u64 0, .int .u64 0, .int .u64 0, .int .i64 10, .int .i64 1000]] w fun e w' => e = .returned (.int .i64 30) ∧ Chg NoChg w w' := by
  have h := spMay_any ⟨5, 2, true, ⟨4, 10, 1⟩, ⟨4, 0, 3⟩, ⟨0, 0, 0⟩, 10, 1000⟩ w
  have e : Spc.mayE ⟨5, 2, true, ⟨4, 10, 1⟩, ⟨4, 0, 3⟩, ⟨0, 0, 0⟩, 10, 1000⟩ = 30 := by kernel_rfl
  rw [e] at h
  exact h
theorem aw_kind1 (w : World) : Calls Tryz.prog 11 #[.agg #[.int .i64 5, .int .i64 2, .bool true, .int .u64 4, .int .u64 10, .int .u64 1, .int .u64 0, .int .u64 0, .int .u64 3, .int .u64 0, .int .u64 0, .int .u64 0, .int .i64 10, .int .i64 1000]] w fun e w' => e = .returned (.int .u8 3) ∧ Chg NoChg w w' := by
  have h := spKind_any ⟨5, 2, true, ⟨4, 10, 1⟩, ⟨0, 0, 3⟩, ⟨0, 0, 0⟩, 10, 1000⟩ w
  have e : kindB true (Crv.none ⟨4, 10, 1⟩) (Crv.none ⟨0, 0, 3⟩) = 3 := by kernel_rfl
  dsimp only at h
  rw [e] at h
  exact h
theorem aw_kindN (w : World) : Calls Tryz.prog 11 #[.agg #[.int .i64 5, .int .i64 2, .bool true, .int .u64 0, .int .u64 0, .int .u64 0, .int .u64 0, .int .u64 0, .int .u64 0, .int .u64 0, .int .u64 0, .int .u64 0, .int .i64 10, .int .i64 1000]] w fun e w' => e = .returned (.int .u8 0) ∧ Chg NoChg w w' := by
  have h := spKind_any ⟨5, 2, true, ⟨0, 0, 0⟩, ⟨0, 0, 0⟩, ⟨0, 0, 0⟩, 10, 1000⟩ w
  have e : kindB true (Crv.none ⟨0, 0, 0⟩) (Crv.none ⟨0, 0, 0⟩) = 0 := by kernel_rfl
  dsimp only at h
  rw [e] at h
  exact h

/-- Where both copies lie. -/
def AWR (wx : World) (s7 s8 : Value) (wz : World) : Prop := ∃ g7 g8 : Nat, s7 = .pointer (some ⟨g7, 0, none⟩) ∧ s8 = .pointer (some ⟨g8, 0, none⟩) ∧ g7 ≠ g8 ∧ wx.heap.size ≤ g7 ∧ wx.heap.size ≤ g8 ∧ Chg NoChg wx wz ∧ Blk wz g7 #[.int .i64 5, .int .i64 2, .bool true, .int .u64 4, .int .u64 10, .int .u64 1, .int .u64 0, .int .u64 0, .int .u64 3, .int .u64 0, .int .u64 0, .int .u64 0, .int .i64 10, .int .i64 1000] 26 ∧ Blk wz g8 #[.int .i64 5, .int .i64 2, .bool true, .int .u64 4, .int .u64 10, .int .u64 1, .int .u64 0, .int .u64 0, .int .u64 3, .int .u64 0, .int .u64 0, .int .u64 0, .int .i64 10, .int .i64 1000] 26

set_option maxRecDepth 100000 in
set_option maxHeartbeats 8000000 in
theorem l13awake_any (w : World) (hd : Door w) : Calls Tryz.prog 7 #[] w fun e w' => e = .returned (.bool true) ∧ Chg NoChg w w' := by
  have HD := hide hd
  have B1 := hide (Blk.new w #[.int .i64 5, .int .i64 2, .bool true, .int .u64 4, .int .u64 10, .int .u64 1, .int .u64 0, .int .u64 0, .int .u64 3, .int .u64 0, .int .u64 0, .int .u64 0, .int .i64 10, .int .i64 1000] 26)
  have C1 := hide ((Chg.refl NoChg w).alloc (.cells #[.int .i64 5, .int .i64 2, .bool true, .int .u64 4, .int .u64 10, .int .u64 1, .int .u64 0, .int .u64 0, .int .u64 3, .int .u64 0, .int .u64 0, .int .u64 0, .int .i64 10, .int .i64 1000] 26))
  clear hd
  go_enter Tryz.func7, Tryz.ntmps7
  obtain ⟨a0, a1, a2, a3, a4, a5, a6, a7, a8, a9, a10, a11, a12, a13⟩ := spc_cellsI B1.out
  go_wp2_with fail
  refine (aw_text _ (HD.out.keep C1.out)).mono ?_
  rintro e w1 ⟨rfl, c1⟩
  have C2 := hide (C1.out.trans' c1)
  have B2 := hide (c1.blk B1.out (fun h => h))
  clear c1 a0 a1 a2 a3 a4 a5 a6 a7 a8 a9 a10 a11 a12 a13
  go_wp2_with fail
  refine (aw_parse _ (HD.out.keep C2.out)).mono ?_
  rintro e w2 ⟨rfl, c2⟩
  have B3 := hide ((c2.alloc (.cells #[.int .i64 5, .int .i64 2, .bool true, .int .u64 4, .int .u64 10, .int .u64 1, .int .u64 0, .int .u64 0, .int .u64 3, .int .u64 0, .int .u64 0, .int .u64 0, .int .i64 10, .int .i64 1000] 26)).blk B2.out (fun h => h))
  have X3 := hide (Blk.new w2 #[.int .i64 5, .int .i64 2, .bool true, .int .u64 4, .int .u64 10, .int .u64 1, .int .u64 0, .int .u64 0, .int .u64 3, .int .u64 0, .int .u64 0, .int .u64 0, .int .i64 10, .int .i64 1000] 26)
  have C3 := hide ((C2.out.trans' c2).alloc (.cells #[.int .i64 5, .int .i64 2, .bool true, .int .u64 4, .int .u64 10, .int .u64 1, .int .u64 0, .int .u64 0, .int .u64 3, .int .u64 0, .int .u64 0, .int .u64 0, .int .i64 10, .int .i64 1000] 26))
  clear c2
  obtain ⟨a0, a1, a2, a3, a4, a5, a6, a7, a8, a9, a10, a11, a12, a13⟩ := spc_cellsI B3.out
  go_wp2_with fail
  refine (aw_with _).mono ?_
  rintro e w3 ⟨rfl, c3⟩
  have c3' := hide (c3.alloc (.cells #[.int .i64 5, .int .i64 2, .bool true, .int .u64 0, .int .u64 0, .int .u64 0, .int .u64 0, .int .u64 0, .int .u64 0, .int .u64 0, .int .u64 0, .int .u64 0, .int .i64 10, .int .i64 1000] 26))
  have B4 := hide (c3'.out.blk B3.out (fun h => h))
  have X4 := hide (c3'.out.blk X3.out (fun h => h))
  have N4 := hide (Blk.new w3 #[.int .i64 5, .int .i64 2, .bool true, .int .u64 0, .int .u64 0, .int .u64 0, .int .u64 0, .int .u64 0, .int .u64 0, .int .u64 0, .int .u64 0, .int .u64 0, .int .i64 10, .int .i64 1000] 26)
  have C4 := hide (C3.out.trans' c3'.out)
  clear c3 c3' a0 a1 a2 a3 a4 a5 a6 a7 a8 a9 a10 a11 a12 a13
  obtain ⟨wx, hwx⟩ : ∃ wx, wx = w3.alloc (.cells #[.int .i64 5, .int .i64 2, .bool true, .int .u64 0, .int .u64 0, .int .u64 0, .int .u64 0, .int .u64 0, .int .u64 0, .int .u64 0, .int .u64 0, .int .u64 0, .int .i64 10, .int .i64 1000] 26) := ⟨_, rfl⟩
  have hlt : w3.heap.size + 1 = wx.heap.size := by rw [hwx]; simp
  obtain ⟨n3, hn3⟩ : ∃ n3, n3 = w3.heap.size := ⟨_, rfl⟩
  obtain ⟨n2, hn2⟩ : ∃ n2, n2 = w2.heap.size := ⟨_, rfl⟩
  go_wp2
  rw [← hwx] at B4 X4 N4 C4 ⊢
  rw [← hn3] at N4 ⊢
  rw [← hn2] at X4 ⊢
  clear hwx hn3 hn2 hlt
  have l0 := B4.out.lt
  have l1 := X4.out.lt
  have l2 := N4.out.lt
  go_cut [7, 8] (fun s7 s8 wz => AWR wx s7 s8 wz)
  case first =>
    have G0 := fun x => Blk.cell ((chg_graft NoChg wx x).blk B4.out (fun h => h)) 0
    have G1 := fun x => Blk.cell ((chg_graft NoChg wx x).blk B4.out (fun h => h)) 1
    have G2 := fun x => Blk.cell ((chg_graft NoChg wx x).blk B4.out (fun h => h)) 2
    have G3 := fun x => Blk.cell ((chg_graft NoChg wx x).blk B4.out (fun h => h)) 3
    have G4 := fun x => Blk.cell ((chg_graft NoChg wx x).blk B4.out (fun h => h)) 4
    have G5 := fun x => Blk.cell ((chg_graft NoChg wx x).blk B4.out (fun h => h)) 5
    have G6 := fun x => Blk.cell ((chg_graft NoChg wx x).blk B4.out (fun h => h)) 6
    have G7 := fun x => Blk.cell ((chg_graft NoChg wx x).blk B4.out (fun h => h)) 7
    have G8 := fun x => Blk.cell ((chg_graft NoChg wx x).blk B4.out (fun h => h)) 8
    have G9 := fun x => Blk.cell ((chg_graft NoChg wx x).blk B4.out (fun h => h)) 9
    have G10 := fun x => Blk.cell ((chg_graft NoChg wx x).blk B4.out (fun h => h)) 10
    have G11 := fun x => Blk.cell ((chg_graft NoChg wx x).blk B4.out (fun h => h)) 11
    have G12 := fun x => Blk.cell ((chg_graft NoChg wx x).blk B4.out (fun h => h)) 12
    have G13 := fun x => Blk.cell ((chg_graft NoChg wx x).blk B4.out (fun h => h)) 13
    simp at G0 G1 G2 G3 G4 G5 G6 G7 G8 G9 G10 G11 G12 G13
    refine wp_region_alls [0, 1] [2, 3] [4, 5] [] (graft (NoChg) (wx)) (by kernel_rfl) (by kernel_rfl) ?_ (graft_of_chg (by (repeat' (first | (with_reducible exact Chg.refl _ _) | (with_reducible assumption) | (with_reducible refine Chg.alloc ?_ _) | (with_reducible refine Chg.drewN ?_ _) | (with_reducible refine Chg.drew ?_) | (with_reducible refine Chg.setCell ?_ _ ?_) | (apply Or.inl; with_reducible rfl) | (apply Or.inl; simp; done) | (apply Or.inr; simp; done) | (apply Or.inr; simp; omega))))) ?_
    · exact fun _ _ _ _ _ h => h
    simp only [pick, List.getElem?_toArray, List.getElem?_cons_zero, List.getElem?_cons_succ]
    iterate 2 (refine wpYield_step (fun K hK => ?_); go_simp; refine hK _ ?_; clear hK K)
    refine wpYield_nil ?_
    intro _ hw'
    obtain ⟨xo, hw''⟩ := hw'
    subst hw''
    have c4x := hide (chg_graft NoChg wx xo)
    generalize graft NoChg wx xo = wz at c4x ⊢
    clear G0 G1 G2 G3 G4 G5 G6 G7 G8 G9 G10 G11 G12 G13
    have hsz := c4x.out.size
    refine wpAlls_two (by decide) rfl rfl ?_ ?_
    all_goals simp only [wpMakes]
    · go_wp2
      refine ⟨graft_of_chg (c4x.out.alloc _), ?_⟩
      go_wp2
      refine ⟨graft_of_chg ((c4x.out.alloc _).alloc _), ?_⟩
      go_wp2
      refine ⟨graft_of_chg (by have q := c4x.out; (repeat' (first | (with_reducible exact Chg.refl _ _) | (with_reducible assumption) | (with_reducible refine Chg.alloc ?_ _) | (with_reducible refine Chg.drewN ?_ _) | (with_reducible refine Chg.drew ?_) | (with_reducible refine Chg.setCell ?_ _ ?_) | (apply Or.inl; with_reducible rfl) | (apply Or.inl; simp; done) | (apply Or.inr; simp; done) | (apply Or.inr; simp; omega)))), ?_⟩
      go_wp2
      refine ⟨graft_of_chg (by have q := c4x.out; (repeat' (first | (with_reducible exact Chg.refl _ _) | (with_reducible assumption) | (with_reducible refine Chg.alloc ?_ _) | (with_reducible refine Chg.drewN ?_ _) | (with_reducible refine Chg.drew ?_) | (with_reducible refine Chg.setCell ?_ _ ?_) | (apply Or.inl; with_reducible rfl) | (apply Or.inl; simp; done) | (apply Or.inr; simp; done) | (apply Or.inr; simp; omega)))), ?_⟩
      go_wp2_with fail
      go_meet
      exact ⟨_, _, rfl, rfl, by omega, by omega, by omega, by have q := c4x.out; (repeat' (first | (with_reducible exact Chg.refl _ _) | (with_reducible assumption) | (with_reducible refine Chg.alloc ?_ _) | (with_reducible refine Chg.drewN ?_ _) | (with_reducible refine Chg.drew ?_) | (with_reducible refine Chg.setCell ?_ _ ?_) | (apply Or.inl; with_reducible rfl) | (apply Or.inl; simp; done) | (apply Or.inr; simp; done) | (apply Or.inr; simp; omega))), (Blk.new wz #[.int .i64 5, .int .i64 2, .bool true, .int .u64 4, .int .u64 10, .int .u64 1, .int .u64 0, .int .u64 0, .int .u64 3, .int .u64 0, .int .u64 0, .int .u64 0, .int .i64 10, .int .i64 1000] 26).alloc _, Blk.new' #[.int .i64 5, .int .i64 2, .bool true, .int .u64 4, .int .u64 10, .int .u64 1, .int .u64 0, .int .u64 0, .int .u64 3, .int .u64 0, .int .u64 0, .int .u64 0, .int .i64 10, .int .i64 1000] 26 (by simp)⟩
    · go_wp2
      refine ⟨graft_of_chg (c4x.out.alloc _), ?_⟩
      go_wp2
      refine ⟨graft_of_chg ((c4x.out.alloc _).alloc _), ?_⟩
      go_wp2
      refine ⟨graft_of_chg (by have q := c4x.out; (repeat' (first | (with_reducible exact Chg.refl _ _) | (with_reducible assumption) | (with_reducible refine Chg.alloc ?_ _) | (with_reducible refine Chg.drewN ?_ _) | (with_reducible refine Chg.drew ?_) | (with_reducible refine Chg.setCell ?_ _ ?_) | (apply Or.inl; with_reducible rfl) | (apply Or.inl; simp; done) | (apply Or.inr; simp; done) | (apply Or.inr; simp; omega)))), ?_⟩
      go_wp2
      refine ⟨graft_of_chg (by have q := c4x.out; (repeat' (first | (with_reducible exact Chg.refl _ _) | (with_reducible assumption) | (with_reducible refine Chg.alloc ?_ _) | (with_reducible refine Chg.drewN ?_ _) | (with_reducible refine Chg.drew ?_) | (with_reducible refine Chg.setCell ?_ _ ?_) | (apply Or.inl; with_reducible rfl) | (apply Or.inl; simp; done) | (apply Or.inr; simp; done) | (apply Or.inr; simp; omega)))), ?_⟩
      go_wp2_with fail
      go_meet
      exact ⟨_, _, rfl, rfl, by omega, by omega, by omega, by have q := c4x.out; (repeat' (first | (with_reducible exact Chg.refl _ _) | (with_reducible assumption) | (with_reducible refine Chg.alloc ?_ _) | (with_reducible refine Chg.drewN ?_ _) | (with_reducible refine Chg.drew ?_) | (with_reducible refine Chg.setCell ?_ _ ?_) | (apply Or.inl; with_reducible rfl) | (apply Or.inl; simp; done) | (apply Or.inr; simp; done) | (apply Or.inr; simp; omega))), Blk.new' #[.int .i64 5, .int .i64 2, .bool true, .int .u64 4, .int .u64 10, .int .u64 1, .int .u64 0, .int .u64 0, .int .u64 3, .int .u64 0, .int .u64 0, .int .u64 0, .int .i64 10, .int .i64 1000] 26 (by simp), (Blk.new wz #[.int .i64 5, .int .i64 2, .bool true, .int .u64 4, .int .u64 10, .int .u64 1, .int .u64 0, .int .u64 0, .int .u64 3, .int .u64 0, .int .u64 0, .int .u64 0, .int .i64 10, .int .i64 1000] 26).alloc _⟩
  case rest =>
    obtain ⟨g7, g8, rfl, rfl, hne, hl7, hl8, hc, k7, k8⟩ := hcut
    have hcx := hide hc
    have B5 := hide (hc.blk B4.out (fun h => h))
    have X5 := hide (hc.blk X4.out (fun h => h))
    have N5 := hide (hc.blk N4.out (fun h => h))
    have z10 : g7 ≠ n3 := by have := N4.out.lt; omega
    have z11 : g8 ≠ n3 := by have := N4.out.lt; omega
    have c7 := spc_cellsI k7
    have c8 := spc_cellsI k8
    have f7 := fun j => k7.frozen j
    have f8 := fun j => k8.frozen j
    obtain ⟨m7x0, m7x1, m7x2, m7x3, m7x4, m7x5, m7x6, m7x7, m7x8, m7x9, m7x10, m7x11, m7x12, m7x13⟩ := c7
    have f7x6 := f7 6
    have f7x7 := f7 7
    have f7x8 := f7 8
    obtain ⟨m8x0, m8x1, m8x2, m8x3, m8x4, m8x5, m8x6, m8x7, m8x8, m8x9, m8x10, m8x11, m8x12, m8x13⟩ := c8
    have f8x6 := f8 6
    have f8x7 := f8 7
    have f8x8 := f8 8
    clear f7 f8 hc
    obtain ⟨a0, a1, a2, a3, a4, a5, a6, a7, a8, a9, a10, a11, a12, a13⟩ := spc_cellsI B5.out
    obtain ⟨b0, b1, b2, b3, b4, b5, b6, b7, b8, b9, b10, b11, b12, b13⟩ := spc_cellsI X5.out
    have z1 : g7 ≠ w.heap.size := by omega
    have z2 : g8 ≠ w.heap.size := by omega
    have z3 : g7 ≠ n2 := by omega
    have z4 : g8 ≠ n2 := by omega
    have z5 : w.heap.size ≠ g7 := by omega
    have z6 : w.heap.size ≠ g8 := by omega
    have z7 : n2 ≠ g7 := by omega
    have z8 : n2 ≠ g8 := by omega
    have z9 : g8 ≠ g7 := by omega
    go_wp2_with fail
    refine (aw_may1 _).mono ?_
    rintro e w5 ⟨rfl, c5⟩
    have Bs5 := hide (c5.blk (((((((B5.out).other (a := ⟨g7, 6, none⟩) (.int .u64 4) (by simp; omega)).other (a := ⟨g7, 7, none⟩) (.int .u64 10) (by simp; omega)).other (a := ⟨g7, 8, none⟩) (.int .u64 0) (by simp; omega)).other (a := ⟨g8, 6, none⟩) (.int .u64 4) (by simp; omega)).other (a := ⟨g8, 7, none⟩) (.int .u64 0) (by simp; omega)).other (a := ⟨g8, 8, none⟩) (.int .u64 3) (by simp; omega)) (fun h => h))
    have Bx5 := hide (c5.blk (((((((X5.out).other (a := ⟨g7, 6, none⟩) (.int .u64 4) (by simp; omega)).other (a := ⟨g7, 7, none⟩) (.int .u64 10) (by simp; omega)).other (a := ⟨g7, 8, none⟩) (.int .u64 0) (by simp; omega)).other (a := ⟨g8, 6, none⟩) (.int .u64 4) (by simp; omega)).other (a := ⟨g8, 7, none⟩) (.int .u64 0) (by simp; omega)).other (a := ⟨g8, 8, none⟩) (.int .u64 3) (by simp; omega)) (fun h => h))
    have Bn5 := hide (c5.blk (((((((N5.out).other (a := ⟨g7, 6, none⟩) (.int .u64 4) (by simp; omega)).other (a := ⟨g7, 7, none⟩) (.int .u64 10) (by simp; omega)).other (a := ⟨g7, 8, none⟩) (.int .u64 0) (by simp; omega)).other (a := ⟨g8, 6, none⟩) (.int .u64 4) (by simp; omega)).other (a := ⟨g8, 7, none⟩) (.int .u64 0) (by simp; omega)).other (a := ⟨g8, 8, none⟩) (.int .u64 3) (by simp; omega)) (fun h => h))
    have Bshort5 := hide (c5.blk (((((((k7).set' 6 (.int .u64 4) rfl).set' 7 (.int .u64 10) rfl).set' 8 (.int .u64 0) rfl).other (a := ⟨g8, 6, none⟩) (.int .u64 4) (by simp; omega)).other (a := ⟨g8, 7, none⟩) (.int .u64 0) (by simp; omega)).other (a := ⟨g8, 8, none⟩) (.int .u64 3) (by simp; omega)) (fun h => h))
    have Bodd5 := hide (c5.blk (((((((k8).other (a := ⟨g7, 6, none⟩) (.int .u64 4) (by simp; omega)).other (a := ⟨g7, 7, none⟩) (.int .u64 10) (by simp; omega)).other (a := ⟨g7, 8, none⟩) (.int .u64 0) (by simp; omega)).set' 6 (.int .u64 4) rfl).set' 7 (.int .u64 0) rfl).set' 8 (.int .u64 3) rfl) (fun h => h))
    have C5 := hide (C4.out.trans' (show Chg NoChg wx w5 from Chg.trans' (by have q := hcx.out; (repeat' (first | (with_reducible exact Chg.refl _ _) | (with_reducible assumption) | (with_reducible refine Chg.alloc ?_ _) | (with_reducible refine Chg.drewN ?_ _) | (with_reducible refine Chg.drew ?_) | (with_reducible refine Chg.setCell ?_ _ ?_) | (apply Or.inl; with_reducible rfl) | (apply Or.inl; simp; done) | (apply Or.inr; simp; done) | (apply Or.inr; simp; omega)))) c5))
    clear c5 hcx B5 X5 N5 k7 k8 m7x0 m7x1 m7x2 m7x3 m7x4 m7x5 m7x6 m7x7 m7x8 m7x9 m7x10 m7x11 m7x12 m7x13 m8x0 m8x1 m8x2 m8x3 m8x4 m8x5 m8x6 m8x7 m8x8 m8x9 m8x10 m8x11 m8x12 m8x13 f7x6 f7x7 f7x8 f8x6 f8x7 f8x8 a0 a1 a2 a3 a4 a5 a6 a7 a8 a9 a10 a11 a12 a13 b0 b1 b2 b3 b4 b5 b6 b7 b8 b9 b10 b11 b12 b13 z1 z2 z3 z4 z5 z6 z7 z8 z9 hne hl7 hl8 B4 X4 N4 C4
    obtain ⟨a0, a1, a2, a3, a4, a5, a6, a7, a8, a9, a10, a11, a12, a13⟩ := spc_cellsI Bs5.out
    go_wp2_with fail
    refine (aw_kind1 _).mono ?_
    rintro e w6 ⟨rfl, c6⟩
    have D6 := hide (c6)
    have Bs6 := hide (D6.out.blk Bs5.out (fun h => h))
    have Bx6 := hide (D6.out.blk Bx5.out (fun h => h))
    have Bn6 := hide (D6.out.blk Bn5.out (fun h => h))
    have Bshort6 := hide (D6.out.blk Bshort5.out (fun h => h))
    have Bodd6 := hide (D6.out.blk Bodd5.out (fun h => h))
    have C6 := hide (C5.out.trans' D6.out)
    clear c6 D6 C5 Bs5 Bx5 Bn5 Bshort5 Bodd5 a0 a1 a2 a3 a4 a5 a6 a7 a8 a9 a10 a11 a12 a13
    obtain ⟨a0, a1, a2, a3, a4, a5, a6, a7, a8, a9, a10, a11, a12, a13⟩ := spc_cellsI Bn6.out
    go_wp2_with fail
    refine (aw_mayN _).mono ?_
    rintro e w7 ⟨rfl, c7⟩
    have D7 := hide (c7)
    have Bs7 := hide (D7.out.blk Bs6.out (fun h => h))
    have Bx7 := hide (D7.out.blk Bx6.out (fun h => h))
    have Bn7 := hide (D7.out.blk Bn6.out (fun h => h))
    have Bshort7 := hide (D7.out.blk Bshort6.out (fun h => h))
    have Bodd7 := hide (D7.out.blk Bodd6.out (fun h => h))
    have C7 := hide (C6.out.trans' D7.out)
    clear c7 D7 C6 Bs6 Bx6 Bn6 Bshort6 Bodd6 a0 a1 a2 a3 a4 a5 a6 a7 a8 a9 a10 a11 a12 a13
    obtain ⟨a0, a1, a2, a3, a4, a5, a6, a7, a8, a9, a10, a11, a12, a13⟩ := spc_cellsI Bn7.out
    go_wp2_with fail
    refine (aw_kindN _).mono ?_
    rintro e w8 ⟨rfl, c8⟩
    have D8 := hide (c8)
    have Bs8 := hide (D8.out.blk Bs7.out (fun h => h))
    have Bx8 := hide (D8.out.blk Bx7.out (fun h => h))
    have Bn8 := hide (D8.out.blk Bn7.out (fun h => h))
    have Bshort8 := hide (D8.out.blk Bshort7.out (fun h => h))
    have Bodd8 := hide (D8.out.blk Bodd7.out (fun h => h))
    have C8 := hide (C7.out.trans' D8.out)
    clear c8 D8 C7 Bs7 Bx7 Bn7 Bshort7 Bodd7 a0 a1 a2 a3 a4 a5 a6 a7 a8 a9 a10 a11 a12 a13
    obtain ⟨a0, a1, a2, a3, a4, a5, a6, a7, a8, a9, a10, a11, a12, a13⟩ := spc_cellsI Bshort8.out
    go_wp2_with fail
    refine (aw_mayS _).mono ?_
    rintro e w9 ⟨rfl, c9⟩
    have D9 := hide (c9)
    have Bs9 := hide (D9.out.blk Bs8.out (fun h => h))
    have Bx9 := hide (D9.out.blk Bx8.out (fun h => h))
    have Bn9 := hide (D9.out.blk Bn8.out (fun h => h))
    have Bshort9 := hide (D9.out.blk Bshort8.out (fun h => h))
    have Bodd9 := hide (D9.out.blk Bodd8.out (fun h => h))
    have C9 := hide (C8.out.trans' D9.out)
    clear c9 D9 C8 Bs8 Bx8 Bn8 Bshort8 Bodd8 a0 a1 a2 a3 a4 a5 a6 a7 a8 a9 a10 a11 a12 a13
    obtain ⟨a0, a1, a2, a3, a4, a5, a6, a7, a8, a9, a10, a11, a12, a13⟩ := spc_cellsI Bodd9.out
    go_wp2_with fail
    refine (aw_mayO _).mono ?_
    rintro e w10 ⟨rfl, c10⟩
    have D10 := hide (c10)
    have Bs10 := hide (D10.out.blk Bs9.out (fun h => h))
    have Bx10 := hide (D10.out.blk Bx9.out (fun h => h))
    have Bn10 := hide (D10.out.blk Bn9.out (fun h => h))
    have Bshort10 := hide (D10.out.blk Bshort9.out (fun h => h))
    have Bodd10 := hide (D10.out.blk Bodd9.out (fun h => h))
    have C10 := hide (C9.out.trans' D10.out)
    clear c10 D10 C9 Bs9 Bx9 Bn9 Bshort9 Bodd9 a0 a1 a2 a3 a4 a5 a6 a7 a8 a9 a10 a11 a12 a13
    go_wp2
    go_ret
    exact ⟨rfl, C10.out⟩
end Go.Proofs.YtofgajlpdnokdaaGreatDoor
