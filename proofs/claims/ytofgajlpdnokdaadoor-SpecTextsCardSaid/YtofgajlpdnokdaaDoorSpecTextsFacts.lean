/- The closed facts of the row SpecTexts, one by one. -/
import Derived.Test.YtofgajlpdnokdaaDoorGlueL
namespace Go.Proofs.YtofgajlpdnokdaaDoor
set_option linter.unusedVariables false
open Go.ChangeShapes Go.WideShapes Go.ChangeAt Go.RowKit

theorem specTexts_named : Tryd.checked.prog.funcNamed Rows.specTextsRow.func = some 6 := by kernel_rfl
set_option maxRecDepth 100000 in
set_option maxHeartbeats 4000000 in
theorem specTexts_closed : joinedFacts Tryd.prog 6 Tryd.f6 Rows.specTextsSpec Rows.specTextsRow = true := by
  unfold joinedFacts
  simp only [Bool.and_eq_true]
  repeat' (with_reducible apply And.intro)
  all_goals as_aux_lemma => kernel_rfl
end Go.Proofs.YtofgajlpdnokdaaDoor
