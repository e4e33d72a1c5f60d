/- SpecWhoever: from its walk to the row and the card. Condition of the lemmas here: the walk. -/
import Derived.Test.YtofgajlpdnokdaaGreatDoorSpecWhoeverEnd
import Derived.Test.YtofgajlpdnokdaaGreatDoorSpecWhoeverFacts
namespace Go.Proofs.YtofgajlpdnokdaaGreatDoor
set_option linter.unusedVariables false
open Go.ChangeShapes Go.WideShapes Go.ChangeAt Go.RowKit

set_option maxRecDepth 100000 in
theorem specWhoever_lifted (walk : ∀ (H : Type) (enc : TypeId × Value → H), LawWalkL enc Tryz.prog Rows.specWhoeverRow.laid 5 Tryz.f5) (os : Os) (started : os.Started) (H : Type) (enc : TypeId × Value → H) :
    ReturnsInHanded {} Tryz.checked os 5 .any (fun w args => (Rows.specWhoeverSpec.pre enc Tryz.prog Tryz.f5 [] false w args ∧ laidMetH Tryz.prog Rows.specWhoeverRow.laid w) ∧ sizedMet enc Tryz.prog Tryz.f5 (OpenSpec.ofChange Rows.specWhoeverSpec) false w args) (Rows.specWhoeverSpec.post enc Tryz.prog Tryz.f5 false true false false) :=
  lifted_of_walk_laid (C := Tryz.checked) (tb := 4) own started (by kernel_rfl) Tryz.func5 (specWhoever_witness os H enc)
    laidOut (by kernel_rfl) rfl Tryz.underlying4 rfl (fun ds hds => by
      match ds, hds with
      | [d0, d1, d2, d3], _ => rfl) (walk H enc)

theorem specWhoever_row (walk : ∀ (H : Type) (enc : TypeId × Value → H), LawWalkL enc Tryz.prog Rows.specWhoeverRow.laid 5 Tryz.f5) : Rows.SpecWhoeverSaid :=
  OpenClaim.holds_of_wide 5 Tryz.f5 rfl rfl rfl rfl rfl rfl rfl ⟨rfl, rfl, rfl, rfl, rfl⟩ rfl rfl rfl rfl rfl specWhoever_named Tryz.func5 specWhoever_closed
    (of_decide_eq_true (by kernel_rfl)) (by unfold Func.isWrapper; first | (rw [if_pos (by decide +kernel)]; kernel_rfl) | (rw [if_neg (by decide +kernel)]; exact ⟨rfl, rfl⟩))
    (fun os started H enc _ => specWhoever_lifted walk os started H enc)

theorem specWhoever_card (walk : ∀ (H : Type) (enc : TypeId × Value → H), LawWalkL enc Tryz.prog Rows.specWhoeverRow.laid 5 Tryz.f5) : Rows.SpecWhoeverCardSaid :=
  Claim7.holds_tied_plain_at .later [] [.data, .data, .data, .data, .sentinel, .sentinel, .pinned] true (true, "56c6cb28ad8dbdc57f84ef10e9527d56244e3f395e3464c641a8aa1571b02506") true
    (specWhoever_row walk) (fun _ h => by cases h) (by kernel_rfl) (fun _ h => by cases h) specWhoever_row_tie rfl ⟨rfl, rfl⟩ (by kernel_rfl) rfl
    (fun f fn hf hfn => by
      obtain rfl : f = 5 := Option.some.inj (specWhoever_named.symm.trans hf) |>.symm
      obtain rfl : fn = Tryz.f5 := (Option.some.inj (Tryz.func5.symm.trans hfn)).symm
      exact ⟨by kernel_rfl, fun j t ht => by
        have hall : (Tryz.f5.params.toList.all fun t => !Tryz.prog.wantsStandIn t) = true := by kernel_rfl
        have := List.all_eq_true.1 hall t (List.mem_of_getElem? (by simpa using ht))
        exact (by simpa using this : Tryz.prog.wantsStandIn t = false)⟩)
    (by kernel_rfl)
end Go.Proofs.YtofgajlpdnokdaaGreatDoor
