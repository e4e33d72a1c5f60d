/- A part of the proof: no condition. -/
import Derived.Test.YtnnhmpehkbihnaaGreatPk01
namespace Go.Proofs.YtnnhmpehkbihnaaGreat
set_option linter.unusedVariables false
set_option maxRecDepth 100000
set_option maxHeartbeats 4000000
open Go.RowKit
open Go.Proofs.Tryz
section
open Go.ChangeShapes Go.WideShapes Go.ChangeAt
theorem laidOut:laidOutB prog=true:=by kernel_rfl
theorem named_ok:Tryz.checked.prog.funcNamed Rows.modelHeldRow.func=some 7:=by kernel_rfl
theorem closed:joinedFacts prog 7 f7 Rows.modelHeldSpec Rows.modelHeldRow=true:=by
 unfold joinedFacts;simp only[Zw];repeat' (with_reducible apply Zt)
 all_goals as_aux_lemma=>kernel_rfl
end
end Go.Proofs.YtnnhmpehkbihnaaGreat
