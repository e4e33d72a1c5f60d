/- SchedNil holds for every input. No condition. -/
import Derived.Test.YtpfkahpnfpockaaGreatSchedNilWalk
import Derived.Test.YtpfkahpnfpockaaGreatSchedNilFacts
namespace Go.Proofs.YtpfkahpnfpockaaGreat
set_option linter.unusedVariables false
open Go.ChangeShapes Go.WideShapes Go.ChangeAt Go.RowKit

theorem SpecR.of_fits {x : List Value} (h : Fits specKinds x) : ∃ s : SpecR, x = s.cells := by
  unfold specKinds at h
  obtain ⟨v0, y, rfl, _, h⟩ := h.int1
  obtain ⟨v1, y, rfl, _, h⟩ := h.int1
  obtain ⟨v2, y, rfl, h⟩ := h.bool1
  obtain ⟨v3, y, rfl, _, h⟩ := h.int1
  obtain ⟨v4, y, rfl, _, h⟩ := h.int1
  obtain ⟨v5, y, rfl, _, h⟩ := h.int1
  obtain ⟨v6, y, rfl, _, h⟩ := h.int1
  obtain ⟨v7, y, rfl, _, h⟩ := h.int1
  obtain ⟨v8, y, rfl, _, h⟩ := h.int1
  obtain ⟨v9, y, rfl, _, h⟩ := h.int1
  obtain ⟨v10, y, rfl, _, h⟩ := h.int1
  obtain ⟨v11, y, rfl, _, h⟩ := h.int1
  obtain ⟨v12, y, rfl, _, h⟩ := h.int1
  obtain ⟨v13, y, rfl, _, h⟩ := h.int1
  have := h.nil0
  subst this
  exact ⟨⟨v0, v1, v2, v3, v4, v5, v6, v7, v8, v9, v10, v11, v12, v13⟩, rfl⟩

theorem PktR.of_fits {x : List Value} (h : Fits [some .u64, some .i64, some .i64, some .u64] x) : ∃ p : PktR, x = p.cells := by
  obtain ⟨i, y, rfl, _, h⟩ := h.int1
  obtain ⟨c, y, rfl, _, h⟩ := h.int1
  obtain ⟨n, y, rfl, _, h⟩ := h.int1
  obtain ⟨t, y, rfl, _, h⟩ := h.int1
  have := h.nil0
  subst this
  exact ⟨⟨i, c, n, t⟩, rfl⟩

theorem own : ownKnob Tryz.prog.godebug = none := by kernel_rfl
theorem specK : flatKinds Tryz.prog 5 26 = some specKinds := by kernel_rfl
theorem pktK : flatKinds Tryz.prog 5 28 = some [some .u64, some .i64, some .i64, some .u64] := by kernel_rfl

set_option maxRecDepth 100000 in
theorem schedNil_law {H : Type} (enc : TypeId × Value → H) : LawWalk enc Tryz.prog 3 Tryz.f3 := by
  intro W base args ds p hval0 hA0 hsz hlt
  have hval : ∀ (j : Nat) t v, Tryz.f3.params[j]? = some t → args[j]? = some v → Value.okWide Tryz.prog W .any base t v := hval0
  have hA := hA0
  rw [Tryz.params3] at hA hval
  obtain ⟨v0, v1, v2, d0, d1, d2, p0, p1, p2, rfl, rfl, rfl, h0, h1, h2⟩ := trodAll_three hA
  obtain ⟨cs, rfl, hcs⟩ := open_flat Tryz.underlying26 specK (hval 0 26 v0 rfl rfl) h0
  obtain ⟨s, rfl⟩ := SpecR.of_fits hcs
  obtain ⟨cs, rfl, hcs⟩ := open_flat Tryz.underlying28 pktK (hval 1 28 v1 rfl rfl) h1
  obtain ⟨q, rfl⟩ := PktR.of_fits hcs
  obtain ⟨t, rfl, rfl, rfl, _⟩ := open_int Tryz.underlying22 (hval 2 22 v2 rfl rfl) h2
  exact (schedNil_any s q t W).mono fun e w' h => ⟨h.1, h.2.below⟩

set_option maxRecDepth 100000 in
theorem schedNil_lifted (os : Os) (started : os.Started) (H : Type) (enc : TypeId × Value → H) :
    ReturnsInHanded {} Tryz.checked os 3 .any (Rows.schedNilSpec.pre6 enc Tryz.prog Tryz.f3 Rows.schedNilRow.domain false) (Rows.schedNilSpec.post enc Tryz.prog Tryz.f3 false true false false) :=
  lifted_of_walk (C := Tryz.checked) (tb := 4) own started (by kernel_rfl) Tryz.func3
    (ChangeSpec.witness6 (enc := enc) (C := Tryz.checked) false ⟨#[], #[.agg #[.int .i64 0, .int .i64 0, .bool false, .int .u64 0, .int .u64 0, .int .u64 0, .int .u64 0, .int .u64 0, .int .u64 0, .int .u64 0, .int .u64 0, .int .u64 0, .int .i64 0, .int .i64 0], .agg #[.int .u64 0, .int .i64 0, .int .i64 0, .int .u64 0], .int .u64 0], []⟩ 8 (by kernel_rfl) (by kernel_rfl) (by kernel_rfl) (by kernel_rfl))
    laidOut (by kernel_rfl) rfl Tryz.underlying4 rfl (fun ds hds => by
      match ds, hds with
      | [d0, d1, d2], _ => rfl) (schedNil_law enc)

theorem schedNil_holds : Rows.SchedNilSaid :=
  OpenClaim.holds_of_wide 3 Tryz.f3 rfl rfl rfl rfl rfl rfl rfl ⟨rfl, rfl, rfl, rfl, rfl⟩ rfl rfl rfl rfl rfl named_ok Tryz.func3 closed
    (of_decide_eq_true (by kernel_rfl)) (by unfold Func.isWrapper; first | (rw [if_pos (by decide +kernel)]; kernel_rfl) | (rw [if_neg (by decide +kernel)]; exact ⟨rfl, rfl⟩))
    (fun os started H enc _ => schedNil_lifted os started H enc)
end Go.Proofs.YtpfkahpnfpockaaGreat
