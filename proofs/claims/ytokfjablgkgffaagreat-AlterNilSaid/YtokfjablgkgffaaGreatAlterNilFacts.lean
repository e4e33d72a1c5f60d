/- The closed facts of the row AlterNil, one by one. -/
import Derived.Test.YtokfjablgkgffaaGreatGlue
namespace Go.Proofs.YtokfjablgkgffaaGreat
set_option linter.unusedVariables false
open Go.ChangeShapes Go.WideShapes Go.ChangeAt Go.RowKit

theorem laidOut : laidOutB Tryz.prog = true := by kernel_rfl
theorem named_ok : Tryz.checked.prog.funcNamed Rows.alterNilRow.func = some 6 := by kernel_rfl
set_option maxRecDepth 100000 in
set_option maxHeartbeats 4000000 in
theorem closed : joinedFacts Tryz.prog 6 Tryz.f6 Rows.alterNilSpec Rows.alterNilRow = true := by
  unfold joinedFacts
  simp only [Bool.and_eq_true]
  repeat' (with_reducible apply And.intro)
  all_goals as_aux_lemma => kernel_rfl
end Go.Proofs.YtokfjablgkgffaaGreat
