/- The closed facts of the row BoundNil, one by one. -/
import Derived.Test.YtokfjablgkgffaaGreatBoundNilWalk
import Derived.Test.YtokfjablgkgffaaGreatGlue
namespace Go.Proofs.YtokfjablgkgffaaGreat
set_option linter.unusedVariables false
open Go.ChangeShapes Go.WideShapes Go.ChangeAt Go.RowKit

theorem laidOut : laidOutB Tryz.prog = true := by kernel_rfl
theorem named_ok : Tryz.checked.prog.funcNamed Rows.boundNilRow.func = some 7 := by kernel_rfl
set_option maxRecDepth 100000 in
set_option maxHeartbeats 4000000 in
theorem closed : joinedFacts Tryz.prog 7 Tryz.f7 Rows.boundNilSpec Rows.boundNilRow = true := by
  unfold joinedFacts
  simp only [Bool.and_eq_true]
  repeat' (with_reducible apply And.intro)
  all_goals as_aux_lemma => kernel_rfl
end Go.Proofs.YtokfjablgkgffaaGreat
