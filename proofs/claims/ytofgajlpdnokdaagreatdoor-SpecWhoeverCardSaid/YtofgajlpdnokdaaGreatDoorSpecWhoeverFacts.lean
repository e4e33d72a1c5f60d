/- The closed facts of the row SpecWhoever, one by one. -/
import Derived.Test.YtofgajlpdnokdaaGreatDoorBase
namespace Go.Proofs.YtofgajlpdnokdaaGreatDoor
set_option linter.unusedVariables false
open Go.ChangeShapes Go.WideShapes Go.ChangeAt Go.RowKit

theorem specWhoever_named : Tryz.checked.prog.funcNamed Rows.specWhoeverRow.func = some 5 := by kernel_rfl
set_option maxRecDepth 100000 in
set_option maxHeartbeats 4000000 in
theorem specWhoever_closed : joinedFacts Tryz.prog 5 Tryz.f5 Rows.specWhoeverSpec Rows.specWhoeverRow = true := by
  unfold joinedFacts
  simp only [Bool.and_eq_true]
  repeat' (with_reducible apply And.intro)
  all_goals as_aux_lemma => kernel_rfl
end Go.Proofs.YtofgajlpdnokdaaGreatDoor
