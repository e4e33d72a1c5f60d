/- FairNil holds for every input. No condition. -/
import Derived.Test.YtpfkahpnfpockaaGreatFairNilWalk
import Derived.Test.YtpfkahpnfpockaaGreatFairNilFacts
namespace Go.Proofs.YtpfkahpnfpockaaGreat
set_option linter.unusedVariables false
open Go.ChangeShapes Go.WideShapes Go.ChangeAt Go.RowKit

theorem own : ownKnob Tryz.prog.godebug = none := by kernel_rfl
set_option maxRecDepth 100000 in
theorem fairNil_law {H : Type} (enc : TypeId × Value → H) : LawWalk enc Tryz.prog 4 Tryz.f4 := by
  intro W base args ds p hval0 hA0 hsz hlt
  have hval : ∀ (j : Nat) t v, Tryz.f4.params[j]? = some t → args[j]? = some v → Value.okWide Tryz.prog W .any base t v := hval0
  have hA := hA0
  rw [Tryz.params4] at hA hval
  obtain ⟨v0, v1, v2, d0, d1, d2, p0, p1, p2, rfl, rfl, rfl, h0, h1, h2⟩ := trodAll_three hA
  obtain ⟨a, rfl, rfl, rfl, _⟩ := open_int Tryz.underlying3 (hval 0 3 v0 rfl rfl) h0
  obtain ⟨b, rfl, rfl, rfl, _⟩ := open_int Tryz.underlying3 (hval 1 3 v1 rfl rfl) h1
  obtain ⟨t, rfl, rfl, rfl, hw⟩ := open_int Tryz.underlying22 (hval 2 22 v2 rfl rfl) h2
  have ht : 0 ≤ t := by
    simp [Lit.wf] at hw
    have : IntKind.u64.min = 0 := by kernel_rfl
    omega
  exact (fairNil_any a b t W ht).mono fun e w' h => ⟨h.1, h.2.below⟩

set_option maxRecDepth 100000 in
theorem fairNil_lifted (os : Os) (started : os.Started) (H : Type) (enc : TypeId × Value → H) :
    ReturnsInHanded {} Tryz.checked os 4 .any (Rows.fairNilSpec.pre6 enc Tryz.prog Tryz.f4 Rows.fairNilRow.domain false) (Rows.fairNilSpec.post enc Tryz.prog Tryz.f4 false true false false) :=
  lifted_of_walk (C := Tryz.checked) (tb := 4) own started (by kernel_rfl) Tryz.func4
    (ChangeSpec.witness6 (enc := enc) (C := Tryz.checked) false ⟨#[], #[.int .i64 0, .int .i64 0, .int .u64 0], []⟩ 8 (by kernel_rfl) (by kernel_rfl) (by kernel_rfl) (by kernel_rfl))
    laidOut (by kernel_rfl) rfl Tryz.underlying4 rfl (fun ds hds => by
      match ds, hds with
      | [d0, d1, d2], _ => rfl) (fairNil_law enc)

theorem fairNil_holds : Rows.FairNilSaid :=
  OpenClaim.holds_of_wide 4 Tryz.f4 rfl rfl rfl rfl rfl rfl rfl ⟨rfl, rfl, rfl, rfl, rfl⟩ rfl rfl rfl rfl rfl named_ok Tryz.func4 closed
    (of_decide_eq_true (by kernel_rfl)) (by unfold Func.isWrapper; first | (rw [if_pos (by decide +kernel)]; kernel_rfl) | (rw [if_neg (by decide +kernel)]; exact ⟨rfl, rfl⟩))
    (fun os started H enc _ => fairNil_lifted os started H enc)
end Go.Proofs.YtpfkahpnfpockaaGreat
