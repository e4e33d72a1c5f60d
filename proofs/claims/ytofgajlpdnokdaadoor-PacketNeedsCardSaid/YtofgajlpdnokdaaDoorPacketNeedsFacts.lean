/- The closed facts of the row PacketNeeds, one by one. -/
import Derived.Test.YtofgajlpdnokdaaDoorGlueL
namespace Go.Proofs.YtofgajlpdnokdaaDoor
set_option linter.unusedVariables false
open Go.ChangeShapes Go.WideShapes Go.ChangeAt Go.RowKit

theorem packetNeeds_named : Tryd.checked.prog.funcNamed Rows.packetNeedsRow.func = some 8 := by kernel_rfl
set_option maxRecDepth 100000 in
set_option maxHeartbeats 4000000 in
theorem packetNeeds_closed : joinedFacts Tryd.prog 8 Tryd.f8 Rows.packetNeedsSpec Rows.packetNeedsRow = true := by
  unfold joinedFacts
  simp only [Bool.and_eq_true]
  repeat' (with_reducible apply And.intro)
  all_goals as_aux_lemma => kernel_rfl
end Go.Proofs.YtofgajlpdnokdaaDoor
