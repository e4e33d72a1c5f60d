/- The closed facts of the row SpecMay, one by one. -/
import Derived.Test.YtofgajlpdnokdaaGlue
namespace Go.Proofs.Ytofgajlpdnokdaa
set_option linter.unusedVariables false
open Go.ChangeShapes Go.WideShapes Go.ChangeAt Go.RowKit

theorem laidOut : laidOutB Try.prog = true := by kernel_rfl
theorem named_ok : Try.checked.prog.funcNamed Rows.specMayRow.func = some 3 := by kernel_rfl
set_option maxRecDepth 100000 in
set_option maxHeartbeats 4000000 in
theorem closed : joinedFacts Try.prog 3 Try.f3 Rows.specMaySpec Rows.specMayRow = true := by
  unfold joinedFacts
  simp only [Bool.and_eq_true]
  repeat' (with_reducible apply And.intro)
  all_goals as_aux_lemma => kernel_rfl
end Go.Proofs.Ytofgajlpdnokdaa
