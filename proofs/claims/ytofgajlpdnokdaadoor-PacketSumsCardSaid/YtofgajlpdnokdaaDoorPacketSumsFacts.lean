/- The closed facts of the row PacketSums, one by one. -/
import Derived.Test.YtofgajlpdnokdaaDoorGlueL
namespace Go.Proofs.YtofgajlpdnokdaaDoor
set_option linter.unusedVariables false
open Go.ChangeShapes Go.WideShapes Go.ChangeAt Go.RowKit

theorem packetSums_named : Tryd.checked.prog.funcNamed Rows.packetSumsRow.func = some 7 := by kernel_rfl
set_option maxRecDepth 100000 in
set_option maxHeartbeats 4000000 in
theorem packetSums_closed : joinedFacts Tryd.prog 7 Tryd.f7 Rows.packetSumsSpec Rows.packetSumsRow = true := by
  unfold joinedFacts
  simp only [Bool.and_eq_true]
  repeat' (with_reducible apply And.intro)
  all_goals as_aux_lemma => kernel_rfl
end Go.Proofs.YtofgajlpdnokdaaDoor
