/- SpecWhoever: from its walk to the row and the card. Condition of the lemmas here: the walk. -/
import Derived.Test.YtofgajlpdnokdaaGreatDoorBase
import Derived.Test.YtofgajlpdnokdaaGreatDoorTie
import Derived.Test.YtofgajlpdnokdaaGreatDoorCards
import Derived.SevenTiedAt
namespace Go.Proofs.YtofgajlpdnokdaaGreatDoor
set_option linter.unusedVariables false
open Go.ChangeShapes Go.WideShapes Go.ChangeAt Go.RowKit

theorem own : ownKnob Tryz.prog.godebug = none := by kernel_rfl
theorem laidOut : laidOutB Tryz.prog = true := by kernel_rfl
theorem laid_met (os : Os) (args : Array Value) : laidMetH Tryz.prog Rows.specWhoeverRow.laid ((World.laidAll Tryz.prog os Rows.specWhoeverRow.laid).forCall (fun _ _ => 0) ⟨#[], args, []⟩).memory := by
  rw [MakeChecks.laidMetH_plain _ _ _ (by kernel_rfl)]
  exact laidMet_laidAll _ (by kernel_rfl) (by kernel_rfl)

set_option maxRecDepth 100000 in
theorem specWhoever_witness (os : Os) (H : Type) (enc : TypeId × Value → H) : ∃ (w : World) (tape : Tape) (i : Input), w.os = os ∧ (w.forCall tape i).Shaped Tryz.prog ∧ i.vars = [] ∧ Input.okWide Tryz.prog (w.forCall tape i) .any w.heap.size 5 i ∧
      ((Rows.specWhoeverSpec.pre enc Tryz.prog Tryz.f5 [] false (w.forCall tape i).memory i.args ∧ laidMetH Tryz.prog Rows.specWhoeverRow.laid (w.forCall tape i).memory) ∧ sizedMet enc Tryz.prog Tryz.f5 (OpenSpec.ofChange Rows.specWhoeverSpec) false (w.forCall tape i).memory i.args) ∧ (({} : Assume)).holds Tryz.prog (lone (Frame.enter Tryz.prog 5 i.args .normal) [] (w.forCall tape i)) :=
  ChangeSpec.witness_shaped (enc := enc) (C := Tryz.checked) (os := os) (X := fun w _ => laidMetH Tryz.prog Rows.specWhoeverRow.laid w) false (World.laidAll Tryz.prog os Rows.specWhoeverRow.laid) #[.agg #[.int .i64 0, .int .i64 0, .bool false, .int .u64 0, .int .u64 0, .int .u64 0, .int .u64 0, .int .u64 0, .int .u64 0, .int .u64 0, .int .u64 0, .int .u64 0, .int .i64 0, .int .i64 0], .agg #[.int .i64 0, .int .i64 0, .bool false, .int .u64 0, .int .u64 0, .int .u64 0, .int .u64 0, .int .u64 0, .int .u64 0, .int .u64 0, .int .u64 0, .int .u64 0, .int .i64 0, .int .i64 0], .int .i64 0, .int .i64 0] 8 (World.laidAll_os _ _ _)
      (World.shaped_of_ZipB (by kernel_rfl) (by kernel_rfl)) (by kernel_rfl) (by kernel_rfl) (by kernel_rfl) (laid_met os _)
end Go.Proofs.YtofgajlpdnokdaaGreatDoor
