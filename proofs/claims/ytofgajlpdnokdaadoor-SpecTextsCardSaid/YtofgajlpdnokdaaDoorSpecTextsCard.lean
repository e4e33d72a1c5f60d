/- SpecTexts: from its walk to the row and the card. Condition of the lemmas here: the walk. -/
import Derived.Test.YtofgajlpdnokdaaDoorSpecTextsEnd
import Derived.Test.YtofgajlpdnokdaaDoorSpecTextsFacts
namespace Go.Proofs.YtofgajlpdnokdaaDoor
set_option linter.unusedVariables false
open Go.ChangeShapes Go.WideShapes Go.ChangeAt Go.RowKit

set_option maxRecDepth 100000 in
theorem specTexts_lifted (walk : ∀ (H : Type) (enc : TypeId × Value → H), LawWalkL enc Tryd.prog Rows.specTextsRow.laid 6 Tryd.f6) (os : Os) (started : os.Started) (H : Type) (enc : TypeId × Value → H) :
    ReturnsInHanded {} Tryd.checked os 6 .any (fun w args => (Rows.specTextsSpec.pre enc Tryd.prog Tryd.f6 [] false w args ∧ laidMetH Tryd.prog Rows.specTextsRow.laid w) ∧ sizedMet enc Tryd.prog Tryd.f6 (OpenSpec.ofChange Rows.specTextsSpec) false w args) (Rows.specTextsSpec.post enc Tryd.prog Tryd.f6 false true false false) :=
  lifted_of_walk_laid (C := Tryd.checked) (tb := 4) own started (by kernel_rfl) Tryd.func6 (specTexts_witness os H enc)
    laidOut (by kernel_rfl) rfl Tryd.underlying4 rfl (fun ds hds => by
      match ds, hds with
      | [d0, d1, d2], _ => rfl) (walk H enc)

theorem specTexts_row (walk : ∀ (H : Type) (enc : TypeId × Value → H), LawWalkL enc Tryd.prog Rows.specTextsRow.laid 6 Tryd.f6) : Rows.SpecTextsSaid :=
  OpenClaim.holds_of_wide 6 Tryd.f6 rfl rfl rfl rfl rfl rfl rfl ⟨rfl, rfl, rfl, rfl, rfl⟩ rfl rfl rfl rfl rfl specTexts_named Tryd.func6 specTexts_closed
    (of_decide_eq_true (by kernel_rfl)) (by unfold Func.isWrapper; first | (rw [if_pos (by decide +kernel)]; kernel_rfl) | (rw [if_neg (by decide +kernel)]; exact ⟨rfl, rfl⟩))
    (fun os started H enc _ => specTexts_lifted walk os started H enc)

theorem specTexts_card (walk : ∀ (H : Type) (enc : TypeId × Value → H), LawWalkL enc Tryd.prog Rows.specTextsRow.laid 6 Tryd.f6) : Rows.SpecTextsCardSaid :=
  Claim7.holds_tied_plain_at .later [] [.data, .data, .data, .data, .sentinel, .sentinel, .pinned] true (true, "ecc6746e3e36c2d61f2aa2375170f245187004b0d796e677c9b8e68fde0ce227") true
    (specTexts_row walk) (fun _ h => by cases h) (by kernel_rfl) (fun _ h => by cases h) specTexts_row_tie rfl ⟨rfl, rfl⟩ (by kernel_rfl) rfl
    (fun f fn hf hfn => by
      obtain rfl : f = 6 := Option.some.inj (specTexts_named.symm.trans hf) |>.symm
      obtain rfl : fn = Tryd.f6 := (Option.some.inj (Tryd.func6.symm.trans hfn)).symm
      exact ⟨by kernel_rfl, fun j t ht => by
        have hall : (Tryd.f6.params.toList.all fun t => !Tryd.prog.wantsStandIn t) = true := by kernel_rfl
        have := List.all_eq_true.1 hall t (List.mem_of_getElem? (by simpa using ht))
        exact (by simpa using this : Tryd.prog.wantsStandIn t = false)⟩)
    (by kernel_rfl)
end Go.Proofs.YtofgajlpdnokdaaDoor
