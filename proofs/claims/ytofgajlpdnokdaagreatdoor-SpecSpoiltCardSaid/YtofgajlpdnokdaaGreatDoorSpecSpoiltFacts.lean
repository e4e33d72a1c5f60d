/- The closed facts of the row SpecSpoilt, one by one. -/
import Derived.Test.YtofgajlpdnokdaaGreatDoorBase
namespace Go.Proofs.YtofgajlpdnokdaaGreatDoor
set_option linter.unusedVariables false
open Go.ChangeShapes Go.WideShapes Go.ChangeAt Go.RowKit

theorem specSpoilt_named : Tryz.checked.prog.funcNamed Rows.specSpoiltRow.func = some 6 := by kernel_rfl
set_option maxRecDepth 100000 in
set_option maxHeartbeats 4000000 in
theorem specSpoilt_closed : joinedFacts Tryz.prog 6 Tryz.f6 Rows.specSpoiltSpec Rows.specSpoiltRow = true := by
  unfold joinedFacts
  simp only [Bool.and_eq_true]
  repeat' (with_reducible apply And.intro)
  all_goals as_aux_lemma => kernel_rfl
end Go.Proofs.YtofgajlpdnokdaaGreatDoor
