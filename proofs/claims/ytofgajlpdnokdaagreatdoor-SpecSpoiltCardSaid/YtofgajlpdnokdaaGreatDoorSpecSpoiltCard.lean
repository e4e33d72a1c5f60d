/- SpecSpoilt: from its walk to the row and the card. Condition of the lemmas here: the walk. -/
import Derived.Test.YtofgajlpdnokdaaGreatDoorSpecSpoiltEnd
import Derived.Test.YtofgajlpdnokdaaGreatDoorSpecSpoiltFacts
namespace Go.Proofs.YtofgajlpdnokdaaGreatDoor
set_option linter.unusedVariables false
open Go.ChangeShapes Go.WideShapes Go.ChangeAt Go.RowKit

set_option maxRecDepth 100000 in
theorem specSpoilt_lifted (walk : ∀ (H : Type) (enc : TypeId × Value → H), LawWalkL enc Tryz.prog Rows.specSpoiltRow.laid 6 Tryz.f6) (os : Os) (started : os.Started) (H : Type) (enc : TypeId × Value → H) :
    ReturnsInHanded {} Tryz.checked os 6 .any (fun w args => (Rows.specSpoiltSpec.pre enc Tryz.prog Tryz.f6 [] false w args ∧ laidMetH Tryz.prog Rows.specSpoiltRow.laid w) ∧ sizedMet enc Tryz.prog Tryz.f6 (OpenSpec.ofChange Rows.specSpoiltSpec) false w args) (Rows.specSpoiltSpec.post enc Tryz.prog Tryz.f6 false true false false) :=
  lifted_of_walk_laid (C := Tryz.checked) (tb := 4) own started (by kernel_rfl) Tryz.func6 (specSpoilt_witness os H enc)
    laidOut (by kernel_rfl) rfl Tryz.underlying4 rfl (fun ds hds => by
      match ds, hds with
      | [d0, d1], _ => rfl) (walk H enc)

theorem specSpoilt_row (walk : ∀ (H : Type) (enc : TypeId × Value → H), LawWalkL enc Tryz.prog Rows.specSpoiltRow.laid 6 Tryz.f6) : Rows.SpecSpoiltSaid :=
  OpenClaim.holds_of_wide 6 Tryz.f6 rfl rfl rfl rfl rfl rfl rfl ⟨rfl, rfl, rfl, rfl, rfl⟩ rfl rfl rfl rfl rfl specSpoilt_named Tryz.func6 specSpoilt_closed
    (of_decide_eq_true (by kernel_rfl)) (by unfold Func.isWrapper; first | (rw [if_pos (by decide +kernel)]; kernel_rfl) | (rw [if_neg (by decide +kernel)]; exact ⟨rfl, rfl⟩))
    (fun os started H enc _ => specSpoilt_lifted walk os started H enc)

theorem specSpoilt_card (walk : ∀ (H : Type) (enc : TypeId × Value → H), LawWalkL enc Tryz.prog Rows.specSpoiltRow.laid 6 Tryz.f6) : Rows.SpecSpoiltCardSaid :=
  Claim7.holds_tied_plain_at .later [] [.data, .data, .data, .data, .sentinel, .sentinel, .pinned] true (true, "56c6cb28ad8dbdc57f84ef10e9527d56244e3f395e3464c641a8aa1571b02506") true
    (specSpoilt_row walk) (fun _ h => by cases h) (by kernel_rfl) (fun _ h => by cases h) specSpoilt_row_tie rfl ⟨rfl, rfl⟩ (by kernel_rfl) rfl
    (fun f fn hf hfn => by
      obtain rfl : f = 6 := Option.some.inj (specSpoilt_named.symm.trans hf) |>.symm
      obtain rfl : fn = Tryz.f6 := (Option.some.inj (Tryz.func6.symm.trans hfn)).symm
      exact ⟨by kernel_rfl, fun j t ht => by
        have hall : (Tryz.f6.params.toList.all fun t => !Tryz.prog.wantsStandIn t) = true := by kernel_rfl
        have := List.all_eq_true.1 hall t (List.mem_of_getElem? (by simpa using ht))
        exact (by simpa using this : Tryz.prog.wantsStandIn t = false)⟩)
    (by kernel_rfl)
end Go.Proofs.YtofgajlpdnokdaaGreatDoor
