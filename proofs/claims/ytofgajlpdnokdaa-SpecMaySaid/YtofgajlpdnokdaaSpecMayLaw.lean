/- SpecMay holds for every input. No condition. -/
import Derived.Test.YtofgajlpdnokdaaSpecMayWalk
import Derived.Test.YtofgajlpdnokdaaSpecMayFacts
namespace Go.Proofs.Ytofgajlpdnokdaa
set_option linter.unusedVariables false
open Go.ChangeShapes Go.WideShapes Go.ChangeAt Go.RowKit

theorem u64_nat {n : Int} (h : (Lit.int .u64 n).wf = true) : ∃ k : Nat, n = (k : Int) := by
  refine ⟨n.toNat, ?_⟩
  simp [Lit.wf] at h
  have : IntKind.u64.min = 0 := by kernel_rfl
  omega

def spcKinds : List (Option IntKind) := [some .i64, some .i64, none, some .u64, some .u64, some .u64, some .u64, some .u64, some .u64, some .u64, some .u64, some .u64, some .i64, some .i64]
theorem Spc.of_fits {x : List Value} (h : Fits spcKinds x) : ∃ s : Spc, x.toArray = #[.int .i64 s.id, .int .i64 s.par, .bool s.leaf, .int .u64 (s.real.f : Int), .int .u64 (s.real.l : Int), .int .u64 (s.real.r : Int), .int .u64 (s.share.f : Int), .int .u64 (s.share.l : Int), .int .u64 (s.share.r : Int), .int .u64 (s.upper.f : Int), .int .u64 (s.upper.l : Int), .int .u64 (s.upper.r : Int), .int .i64 s.pk, .int .i64 s.bt] := by
  unfold spcKinds at h
  obtain ⟨v0, y1, rfl, _, h1⟩ := h.int1
  obtain ⟨v1, y2, rfl, _, h2⟩ := h1.int1
  obtain ⟨v2, y3, rfl, h3⟩ := h2.bool1
  obtain ⟨u3, y4, rfl, w3, h4⟩ := h3.int1
  obtain ⟨v3, rfl⟩ := u64_nat w3
  clear w3
  obtain ⟨u4, y5, rfl, w4, h5⟩ := h4.int1
  obtain ⟨v4, rfl⟩ := u64_nat w4
  clear w4
  obtain ⟨u5, y6, rfl, w5, h6⟩ := h5.int1
  obtain ⟨v5, rfl⟩ := u64_nat w5
  clear w5
  obtain ⟨u6, y7, rfl, w6, h7⟩ := h6.int1
  obtain ⟨v6, rfl⟩ := u64_nat w6
  clear w6
  obtain ⟨u7, y8, rfl, w7, h8⟩ := h7.int1
  obtain ⟨v7, rfl⟩ := u64_nat w7
  clear w7
  obtain ⟨u8, y9, rfl, w8, h9⟩ := h8.int1
  obtain ⟨v8, rfl⟩ := u64_nat w8
  clear w8
  obtain ⟨u9, y10, rfl, w9, h10⟩ := h9.int1
  obtain ⟨v9, rfl⟩ := u64_nat w9
  clear w9
  obtain ⟨u10, y11, rfl, w10, h11⟩ := h10.int1
  obtain ⟨v10, rfl⟩ := u64_nat w10
  clear w10
  obtain ⟨u11, y12, rfl, w11, h12⟩ := h11.int1
  obtain ⟨v11, rfl⟩ := u64_nat w11
  clear w11
  obtain ⟨v12, y13, rfl, _, h13⟩ := h12.int1
  obtain ⟨v13, y14, rfl, _, h14⟩ := h13.int1
  have := h14.nil0
  subst this
  exact ⟨⟨v0, v1, v2, ⟨v3, v4, v5⟩, ⟨v6, v7, v8⟩, ⟨v9, v10, v11⟩, v12, v13⟩, rfl⟩

theorem own : ownKnob Try.prog.godebug = none := by kernel_rfl
theorem spcK : flatKinds Try.prog 5 26 = some spcKinds := by kernel_rfl

set_option maxRecDepth 100000 in
theorem specMay_law {H : Type} (enc : TypeId × Value → H) : LawWalk enc Try.prog 3 Try.f3 := by
  intro W base args ds p hval0 hA0 hsz hlt
  have hval : ∀ (j : Nat) t v, Try.f3.params[j]? = some t → args[j]? = some v → Value.okWide Try.prog W .any base t v := hval0
  have hA := hA0
  rw [Try.params3] at hA hval
  obtain ⟨v0, v1, d0, d1, p0, p1, rfl, rfl, rfl, h0, h1⟩ := trodAll_two hA
  obtain ⟨cs, rfl, hcs⟩ := open_flat Try.underlying26 spcK (hval 0 26 v0 rfl rfl) h0
  obtain ⟨s, hs⟩ := Spc.of_fits hcs
  rw [hs]
  obtain ⟨cs', rfl, hcs'⟩ := open_flat Try.underlying26 spcK (hval 1 26 v1 rfl rfl) h1
  obtain ⟨o, ho⟩ := Spc.of_fits hcs'
  rw [ho]
  exact (specMay_any s o W).mono fun e w' h => ⟨h.1, h.2.below⟩

set_option maxRecDepth 100000 in
theorem specMay_lifted (os : Os) (started : os.Started) (H : Type) (enc : TypeId × Value → H) :
    ReturnsInHanded {} Try.checked os 3 .any (Rows.specMaySpec.pre6 enc Try.prog Try.f3 Rows.specMayRow.domain false) (Rows.specMaySpec.post enc Try.prog Try.f3 false true false false) :=
  lifted_of_walk (C := Try.checked) (tb := 4) own started (by kernel_rfl) Try.func3
    (ChangeSpec.witness6 (enc := enc) (C := Try.checked) false ⟨#[], #[.agg #[.int .i64 0, .int .i64 0, .bool false, .int .u64 0, .int .u64 0, .int .u64 0, .int .u64 0, .int .u64 0, .int .u64 0, .int .u64 0, .int .u64 0, .int .u64 0, .int .i64 0, .int .i64 0], .agg #[.int .i64 0, .int .i64 0, .bool false, .int .u64 0, .int .u64 0, .int .u64 0, .int .u64 0, .int .u64 0, .int .u64 0, .int .u64 0, .int .u64 0, .int .u64 0, .int .i64 0, .int .i64 0]], []⟩ 8 (by kernel_rfl) (by kernel_rfl) (by kernel_rfl) (by kernel_rfl))
    laidOut (by kernel_rfl) rfl Try.underlying4 rfl (fun ds hds => by
      match ds, hds with
      | [d0, d1], _ => rfl) (specMay_law enc)

theorem specMay_holds : Rows.SpecMaySaid :=
  OpenClaim.holds_of_wide 3 Try.f3 rfl rfl rfl rfl rfl rfl rfl ⟨rfl, rfl, rfl, rfl, rfl⟩ rfl rfl rfl rfl rfl named_ok Try.func3 closed
    (of_decide_eq_true (by kernel_rfl)) (by unfold Func.isWrapper; first | (rw [if_pos (by decide +kernel)]; kernel_rfl) | (rw [if_neg (by decide +kernel)]; exact ⟨rfl, rfl⟩))
    (fun os started H enc _ => specMay_lifted os started H enc)
end Go.Proofs.Ytofgajlpdnokdaa
