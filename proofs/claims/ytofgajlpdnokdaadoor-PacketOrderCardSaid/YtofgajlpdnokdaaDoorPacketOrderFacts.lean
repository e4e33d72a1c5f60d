/- The closed facts of the row PacketOrder, one by one. -/
import Derived.Test.YtofgajlpdnokdaaDoorGlueL
namespace Go.Proofs.YtofgajlpdnokdaaDoor
set_option linter.unusedVariables false
open Go.ChangeShapes Go.WideShapes Go.ChangeAt Go.RowKit

theorem packetOrder_named : Tryd.checked.prog.funcNamed Rows.packetOrderRow.func = some 5 := by kernel_rfl
set_option maxRecDepth 100000 in
set_option maxHeartbeats 4000000 in
theorem packetOrder_closed : joinedFacts Tryd.prog 5 Tryd.f5 Rows.packetOrderSpec Rows.packetOrderRow = true := by
  unfold joinedFacts
  simp only [Bool.and_eq_true]
  repeat' (with_reducible apply And.intro)
  all_goals as_aux_lemma => kernel_rfl
end Go.Proofs.YtofgajlpdnokdaaDoor
