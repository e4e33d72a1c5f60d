/- Specs: the two texts agree; equality of specs and curves. Bounds: the words of the machine. -/
import Derived.Test.YtofgajlpdnokdaaGreatDoorSPState
import Derived.Test.YtofgajlpdnokdaaGreatDoorSIs
namespace Go.Proofs.YtofgajlpdnokdaaGreatDoor
set_option linter.unusedVariables false
open Go.ChangeShapes Go.WideShapes Go.ChangeAt Go.RowKit

theorem eqGuard_spc : Tryz.prog.eqGuardType Tryz.prog.depth 26 = false := by kernel_rfl
theorem stood_spc : Tryz.prog.stoodInHeld 26 = false := by kernel_rfl
theorem eqGuard_crv : Tryz.prog.eqGuardType Tryz.prog.depth 24 = false := by kernel_rfl
theorem stood_crv : Tryz.prog.stoodInHeld 24 = false := by kernel_rfl
section
attribute [local go_sem] eqGuard_spc stood_spc eqGuard_crv stood_crv
theorem run_eql_spc (a b d e f g h i j k l m n : Int) (c : Bool) (w : World) : (binOp .eql 26 (.agg #[.int .i64 a, .int .i64 b, .bool c, .int .u64 d, .int .u64 e, .int .u64 f, .int .u64 g, .int .u64 h, .int .u64 i, .int .u64 j, .int .u64 k, .int .u64 l, .int .i64 m, .int .i64 n]) (.agg #[.int .i64 a, .int .i64 b, .bool c, .int .u64 d, .int .u64 e, .int .u64 f, .int .u64 g, .int .u64 h, .int .u64 i, .int .u64 j, .int .u64 k, .int .u64 l, .int .i64 m, .int .i64 n])).run Tryz.prog w = .ok (.bool true) w := by
  go_simp
theorem run_eql_crv (a b c : Int) (w : World) : (binOp .eql 24 (.agg #[.int .u64 a, .int .u64 b, .int .u64 c]) (.agg #[.int .u64 a, .int .u64 b, .int .u64 c])).run Tryz.prog w = .ok (.bool true) w := by
  go_simp
end

def Spc.ok (s : Spc) : Prop := s.id ≤ 9223372036854775807 ∧ s.par ≤ 9223372036854775807 ∧ s.pk ≤ 9223372036854775807 ∧ s.bt ≤ 9223372036854775807 ∧ s.real.fits ∧ s.share.fits ∧ s.upper.fits

theorem spc_cellsA {w : World} {g : Nat} {s : Spc} (hb : Blk w g #[.int .i64 s.id, .int .i64 s.par, .bool s.leaf, .int .u64 (s.real.f : Int), .int .u64 (s.real.l : Int), .int .u64 (s.real.r : Int), .int .u64 (s.share.f : Int), .int .u64 (s.share.l : Int), .int .u64 (s.share.r : Int), .int .u64 (s.upper.f : Int), .int .u64 (s.upper.l : Int), .int .u64 (s.upper.r : Int), .int .i64 s.pk, .int .i64 s.bt] 26) : w.cell? ⟨g, 0, none⟩ = some (.int .i64 s.id) ∧ w.cell? ⟨g, 1, none⟩ = some (.int .i64 s.par) ∧ w.cell? ⟨g, 2, none⟩ = some (.bool s.leaf) ∧ w.cell? ⟨g, 3, none⟩ = some (.int .u64 (s.real.f : Int)) ∧ w.cell? ⟨g, 4, none⟩ = some (.int .u64 (s.real.l : Int)) ∧ w.cell? ⟨g, 5, none⟩ = some (.int .u64 (s.real.r : Int)) ∧ w.cell? ⟨g, 6, none⟩ = some (.int .u64 (s.share.f : Int)) ∧ w.cell? ⟨g, 7, none⟩ = some (.int .u64 (s.share.l : Int)) ∧ w.cell? ⟨g, 8, none⟩ = some (.int .u64 (s.share.r : Int)) ∧ w.cell? ⟨g, 9, none⟩ = some (.int .u64 (s.upper.f : Int)) ∧ w.cell? ⟨g, 10, none⟩ = some (.int .u64 (s.upper.l : Int)) ∧ w.cell? ⟨g, 11, none⟩ = some (.int .u64 (s.upper.r : Int)) ∧ w.cell? ⟨g, 12, none⟩ = some (.int .i64 s.pk) ∧ w.cell? ⟨g, 13, none⟩ = some (.int .i64 s.bt) := by
  refine ⟨?_, ?_, ?_, ?_, ?_, ?_, ?_, ?_, ?_, ?_, ?_, ?_, ?_, ?_⟩
  all_goals (rw [Blk.cell hb]; rfl)
theorem crv_cellsA {w : World} {g : Nat} {c : Crv} (hb : Blk w g #[.int .u64 (c.f : Int), .int .u64 (c.l : Int), .int .u64 (c.r : Int)] 24) : w.cell? ⟨g, 0, none⟩ = some (.int .u64 (c.f : Int)) ∧ w.cell? ⟨g, 1, none⟩ = some (.int .u64 (c.l : Int)) ∧ w.cell? ⟨g, 2, none⟩ = some (.int .u64 (c.r : Int)) := by
  refine ⟨?_, ?_, ?_⟩
  all_goals (rw [Blk.cell hb]; rfl)
end Go.Proofs.YtofgajlpdnokdaaGreatDoor
