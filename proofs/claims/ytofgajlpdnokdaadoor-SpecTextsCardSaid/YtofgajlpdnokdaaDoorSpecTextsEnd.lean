/- SpecTexts: from its walk to the row and the card. Condition of the lemmas here: the walk. -/
import Derived.Test.YtofgajlpdnokdaaDoorGlueL
import Derived.Test.YtofgajlpdnokdaaDoorTie
import Derived.Test.YtofgajlpdnokdaaDoorCards
import Derived.SevenTiedAt
namespace Go.Proofs.YtofgajlpdnokdaaDoor
set_option linter.unusedVariables false
open Go.ChangeShapes Go.WideShapes Go.ChangeAt Go.RowKit

theorem own : ownKnob Tryd.prog.godebug = none := by kernel_rfl
theorem laidOut : laidOutB Tryd.prog = true := by kernel_rfl
theorem laid_met (os : Os) (args : Array Value) : laidMetH Tryd.prog Rows.specTextsRow.laid ((World.laidAll Tryd.prog os Rows.specTextsRow.laid).forCall (fun _ _ => 0) ⟨#[], args, []⟩).memory := by
  rw [MakeChecks.laidMetH_plain _ _ _ (by kernel_rfl)]
  exact laidMet_laidAll _ (by kernel_rfl) (by kernel_rfl)

set_option maxRecDepth 100000 in
theorem specTexts_witness (os : Os) (H : Type) (enc : TypeId × Value → H) : ∃ (w : World) (tape : Tape) (i : Input), w.os = os ∧ (w.forCall tape i).Shaped Tryd.prog ∧ i.vars = [] ∧ Input.okWide Tryd.prog (w.forCall tape i) .any w.heap.size 6 i ∧
      ((Rows.specTextsSpec.pre enc Tryd.prog Tryd.f6 [] false (w.forCall tape i).memory i.args ∧ laidMetH Tryd.prog Rows.specTextsRow.laid (w.forCall tape i).memory) ∧ sizedMet enc Tryd.prog Tryd.f6 (OpenSpec.ofChange Rows.specTextsSpec) false (w.forCall tape i).memory i.args) ∧ (({} : Assume)).holds Tryd.prog (lone (Frame.enter Tryd.prog 6 i.args .normal) [] (w.forCall tape i)) :=
  ChangeSpec.witness_shaped (enc := enc) (C := Tryd.checked) (os := os) (X := fun w _ => laidMetH Tryd.prog Rows.specTextsRow.laid w) false (World.laidAll Tryd.prog os Rows.specTextsRow.laid) #[.agg #[.int .i64 0, .int .i64 0, .bool false, .int .u64 0, .int .u64 0, .int .u64 0, .int .u64 0, .int .u64 0, .int .u64 0, .int .u64 0, .int .u64 0, .int .u64 0, .int .i64 0, .int .i64 0], .string ⟨#[]⟩, .string ⟨#[]⟩] 8 (World.laidAll_os _ _ _)
      (World.shaped_of_ZipB (by kernel_rfl) (by kernel_rfl)) (by kernel_rfl) (by kernel_rfl) (by kernel_rfl) (laid_met os _)
end Go.Proofs.YtofgajlpdnokdaaDoor
