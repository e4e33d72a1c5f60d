/- 'ModelIs' holds for every input: model.Is (by slices.Contains) answers as the plain loop of the document does, and nothing that was there changes. No condition. -/
import Derived.Test.YtbghddmjoampiaaIs
namespace Go.Proofs.Ytbghddmjoampiaa
set_option linter.unusedVariables false
open Go.ChangeShapes Go.WideShapes Go.ChangeAt Go.RowKit

theorem own : ownKnob Try.prog.godebug = none := by kernel_rfl
theorem laidOut : laidOutB Try.prog = true := by kernel_rfl
theorem optKinds : flatKinds Try.prog 5 58 = some [some .i64, some .u8] := by kernel_rfl

theorem modelIs_law {H : Type} (enc : TypeId × Value → H) : LawWalk enc Try.prog 3 Try.f3 := by
  intro W base args ds p hval0 hA0 hsz hlt
  have hval : ∀ (j : Nat) t v, Try.f3.params[j]? = some t → args[j]? = some v → Value.okWide Try.prog W .any base t v := hval0
  have hA := hA0
  rw [Try.params3] at hA hval
  obtain ⟨v0, v1, v2, d0, d1, d2, p0, p1, p2, rfl, rfl, rfl, h0, h1, h2⟩ := trodAll_three hA
  obtain ⟨xs, hx, hfit, hlen⟩ := open_flats Try.underlying22 optKinds (by kernel_rfl) (by decide) (hval 0 22 v0 rfl rfl) h0
  obtain ⟨l, rfl, _⟩ := typed_list Opt.cells (fun _ => True) xs (fun x hxm => Opt.of_fits (hfit x hxm))
  obtain ⟨a, cap, rfl, _, _, hrow⟩ := hx.row
  obtain ⟨c, rfl, rfl, rfl, _⟩ := open_int Try.underlying3 (hval 1 3 v1 rfl rfl) h1
  obtain ⟨r, rfl, rfl, rfl, _⟩ := open_int Try.underlying5 (hval 2 5 v2 rfl rfl) h2
  exact modelIs_walk l c r a cap W (by simpa using hlen) hrow

set_option maxRecDepth 100000 in
theorem modelIs_lifted (os : Os) (started : os.Started) (H : Type) (enc : TypeId × Value → H) :
    ReturnsInHanded {} Try.checked os 3 .any (Rows.modelIsSpec.pre6 enc Try.prog Try.f3 Rows.modelIsRow.domain false) (Rows.modelIsSpec.post enc Try.prog Try.f3 false true false false) :=
  lifted_of_walk (C := Try.checked) (tb := 4) own started (by kernel_rfl) Try.func3
    (ChangeSpec.witness6 (enc := enc) (C := Try.checked) false ⟨#[], #[.slice none 0 0, .int .i64 0, .int .u8 0], []⟩ 8 (by kernel_rfl) (by kernel_rfl) (by kernel_rfl) (by kernel_rfl))
    laidOut (by kernel_rfl) rfl Try.underlying4 rfl (fun ds hds => by
      match ds, hds with
      | [d1, d2, d3], _ => rfl) (modelIs_law enc)

theorem modelIs_holds : Rows.ModelIsSaid :=
  OpenClaim.holds_of_wide 3 Try.f3 rfl rfl rfl rfl rfl rfl rfl ⟨rfl, rfl, rfl, rfl, rfl⟩ rfl rfl rfl rfl rfl (by kernel_rfl) Try.func3 (by kernel_rfl)
    (of_decide_eq_true (by kernel_rfl)) (by unfold Func.isWrapper; first | (rw [if_pos (by decide +kernel)]; kernel_rfl) | (rw [if_neg (by decide +kernel)]; exact ⟨rfl, rfl⟩))
    (fun os started H enc _ => modelIs_lifted os started H enc)
end Go.Proofs.Ytbghddmjoampiaa
