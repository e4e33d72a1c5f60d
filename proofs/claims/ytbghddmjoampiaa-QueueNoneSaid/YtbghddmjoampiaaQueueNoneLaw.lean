/- QueueNone holds for every input. No condition. -/
import Derived.Test.YtbghddmjoampiaaQueueNone
namespace Go.Proofs.Ytbghddmjoampiaa
set_option linter.unusedVariables false
open Go.ChangeShapes Go.WideShapes Go.ChangeAt Go.RowKit

theorem own : ownKnob Try.prog.godebug = none := by kernel_rfl
theorem laidOut : laidOutB Try.prog = true := by kernel_rfl

theorem queueNone_law {H : Type} (enc : TypeId × Value → H) : LawWalk enc Try.prog 7 Try.f7 := by
  intro W base args ds p hval0 hA0 hsz hlt
  have hval : ∀ (j : Nat) t v, Try.f7.params[j]? = some t → args[j]? = some v → Value.okWide Try.prog W .any base t v := hval0
  have hA := hA0
  rw [Try.params7] at hA hval
  obtain ⟨v0, d0, rfl, rfl, h0⟩ := trodAll_one hA
  obtain ⟨cs, rfl, hcs⟩ := open_flat Try.underlying32 pktKinds (hval 0 32 v0 rfl rfl) h0
  obtain ⟨q, rfl⟩ := Pkt.of_fits hcs
  exact (none_any q W).mono fun e w' h => ⟨h.1, h.2.below⟩

set_option maxRecDepth 100000 in
theorem queueNone_lifted (os : Os) (started : os.Started) (H : Type) (enc : TypeId × Value → H) :
    ReturnsInHanded {} Try.checked os 7 .any (Rows.queueNoneSpec.pre6 enc Try.prog Try.f7 Rows.queueNoneRow.domain false) (Rows.queueNoneSpec.post enc Try.prog Try.f7 false true false false) :=
  lifted_of_walk (C := Try.checked) (tb := 4) own started (by kernel_rfl) Try.func7
    (ChangeSpec.witness6 (enc := enc) (C := Try.checked) false ⟨#[], #[.agg #[.int .u64 0, .int .i64 0, .int .i64 0, .int .u64 0]], []⟩ 8 (by kernel_rfl) (by kernel_rfl) (by kernel_rfl) (by kernel_rfl))
    laidOut (by kernel_rfl) rfl Try.underlying4 rfl (fun ds hds => by
      match ds, hds with
      | [d0], _ => rfl) (queueNone_law enc)

theorem queueNone_holds : Rows.QueueNoneSaid :=
  OpenClaim.holds_of_wide 7 Try.f7 rfl rfl rfl rfl rfl rfl rfl ⟨rfl, rfl, rfl, rfl, rfl⟩ rfl rfl rfl rfl rfl (by kernel_rfl) Try.func7 (by kernel_rfl)
    (of_decide_eq_true (by kernel_rfl)) (by unfold Func.isWrapper; first | (rw [if_pos (by decide +kernel)]; kernel_rfl) | (rw [if_neg (by decide +kernel)]; exact ⟨rfl, rfl⟩))
    (fun os started H enc _ => queueNone_lifted os started H enc)
end Go.Proofs.Ytbghddmjoampiaa
