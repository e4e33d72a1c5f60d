/- SpecSpoilt holds for every input. No condition. -/
import Derived.Test.YtofgajlpdnokdaaGreatDoorSpecSpoilt
import Derived.Test.YtofgajlpdnokdaaGreatDoorSpcLaw
import Derived.Test.YtofgajlpdnokdaaGreatDoorSpcFits
import Derived.Test.YtofgajlpdnokdaaGreatDoorDoorLaid
import Derived.Test.YtofgajlpdnokdaaGreatDoorSpecSpoiltCard
import Derived.ChangeMaps5
namespace Go.Proofs.YtofgajlpdnokdaaGreatDoor
set_option linter.unusedVariables false
open Go.ChangeShapes Go.WideShapes Go.ChangeAt Go.RowKit

theorem spoilt_id (s : Spc) (c : Crv) : Spc.mayE ⟨0, s.par, s.leaf, c, s.share, s.upper, s.pk, s.bt⟩ = 130 := by
  simp [Spc.mayE, Spc.named, inB]
theorem spoilt_share {s : Spc} {c : Crv} (h : s.mayE = 0) (hc : ¬ c.May) : Spc.mayE ⟨s.id, s.par, s.leaf, s.real, c, s.upper, s.pk, s.bt⟩ = 30 := by
  obtain ⟨h1, h2, h3, h4, h5⟩ := may_parts h
  have hn : Spc.named ⟨s.id, s.par, s.leaf, s.real, c, s.upper, s.pk, s.bt⟩ = true := h1
  simp [Spc.mayE, hn, Spc.curvesB, hc]
theorem spoilt_upper {s : Spc} {c : Crv} (h : s.mayE = 0) (hc : ¬ c.May) : Spc.mayE ⟨s.id, s.par, s.leaf, s.real, s.share, c, s.pk, s.bt⟩ = 30 := by
  obtain ⟨h1, h2, h3, h4, h5⟩ := may_parts h
  have hn : Spc.named ⟨s.id, s.par, s.leaf, s.real, s.share, c, s.pk, s.bt⟩ = true := h1
  simp [Spc.mayE, hn, Spc.curvesB, hc]
theorem spoilt_leaf {s : Spc} (h : s.mayE = 0) : Spc.mayE ⟨s.id, s.par, !s.leaf, s.real, s.share, s.upper, s.pk, s.bt⟩ = 130 := by
  obtain ⟨h1, h2, h3, h4, h5⟩ := may_parts h
  have hn : Spc.named ⟨s.id, s.par, !s.leaf, s.real, s.share, s.upper, s.pk, s.bt⟩ = true := h1
  have hq : Spc.curvesB ⟨s.id, s.par, !s.leaf, s.real, s.share, s.upper, s.pk, s.bt⟩ = true := h2
  have hs : Spc.shapedB ⟨s.id, s.par, !s.leaf, s.real, s.share, s.upper, s.pk, s.bt⟩ (!s.leaf) = false := by
    cases hl : s.leaf with
    | true =>
      obtain ⟨_, p1, _, _, _⟩ := leaf_parts h hl
      have : (s.pk == 0) = false := by simp; omega
      simp [Spc.shapedB, this]
    | false =>
      obtain ⟨_, _, hp, _⟩ := inner_parts h hl
      simp [Spc.shapedB, hp, inB]
  unfold Spc.mayE
  rw [hn, hq, hs]
  rfl
theorem spoilt_pk {s : Spc} (h : s.mayE = 0) : Spc.mayE ⟨s.id, s.par, s.leaf, s.real, s.share, s.upper, 4097, s.bt⟩ = 130 := by
  obtain ⟨h1, h2, h3, h4, h5⟩ := may_parts h
  have hn : Spc.named ⟨s.id, s.par, s.leaf, s.real, s.share, s.upper, 4097, s.bt⟩ = true := h1
  have hq : Spc.curvesB ⟨s.id, s.par, s.leaf, s.real, s.share, s.upper, 4097, s.bt⟩ = true := h2
  have hs : Spc.shapedB ⟨s.id, s.par, s.leaf, s.real, s.share, s.upper, 4097, s.bt⟩ s.leaf = false := by
    cases hl : s.leaf with
    | true => simp [Spc.shapedB, inB]
    | false => simp [Spc.shapedB]
  unfold Spc.mayE
  rw [hn, hq, hs]
  rfl

def crvKinds : List (Option IntKind) := [some .u64, some .u64, some .u64]
theorem crvK : flatKinds Tryz.prog 5 24 = some crvKinds := by kernel_rfl
theorem Crv.of_fits {x : List Value} (h : Fits crvKinds x) : ∃ c : Crv, c.fits ∧ x.toArray = #[.int .u64 (c.f : Int), .int .u64 (c.l : Int), .int .u64 (c.r : Int)] := by
  unfold crvKinds at h
  obtain ⟨u0, y1, rfl, w0, h1⟩ := h.int1
  obtain ⟨v0, rfl, q0⟩ := u64_nat w0
  clear w0
  obtain ⟨u1, y2, rfl, w1, h2⟩ := h1.int1
  obtain ⟨v1, rfl, q1⟩ := u64_nat w1
  clear w1
  obtain ⟨u2, y3, rfl, w2, h3⟩ := h2.int1
  obtain ⟨v2, rfl, q2⟩ := u64_nat w2
  clear w2
  have := h3.nil0
  subst this
  exact ⟨⟨v0, v1, v2⟩, ⟨q0, q1, q2⟩, rfl⟩

theorem specSpoilt_any (s : Spc) (c : Crv) (w : World) (hd : Door w) :
    Calls Tryz.prog 6 #[.agg #[.int .i64 s.id, .int .i64 s.par, .bool s.leaf, .int .u64 (s.real.f : Int), .int .u64 (s.real.l : Int), .int .u64 (s.real.r : Int), .int .u64 (s.share.f : Int), .int .u64 (s.share.l : Int), .int .u64 (s.share.r : Int), .int .u64 (s.upper.f : Int), .int .u64 (s.upper.l : Int), .int .u64 (s.upper.r : Int), .int .i64 s.pk, .int .i64 s.bt], .agg #[.int .u64 (c.f : Int), .int .u64 (c.l : Int), .int .u64 (c.r : Int)]] w fun e w' => e = .returned (.bool true) ∧ Chg NoChg w w' := by
  have M : ∀ E, s.mayE = E → ∀ w, Calls Tryz.prog 10 #[.agg #[.int .i64 s.id, .int .i64 s.par, .bool s.leaf, .int .u64 (s.real.f : Int), .int .u64 (s.real.l : Int), .int .u64 (s.real.r : Int), .int .u64 (s.share.f : Int), .int .u64 (s.share.l : Int), .int .u64 (s.share.r : Int), .int .u64 (s.upper.f : Int), .int .u64 (s.upper.l : Int), .int .u64 (s.upper.r : Int), .int .i64 s.pk, .int .i64 s.bt]] w fun e w' => e = .returned (.int .i64 E) ∧ Chg NoChg w w' := fun E h w => h ▸ spMay_any s w
  have C : ∀ b, decide c.May = b → ∀ w, Calls Tryz.prog 16 #[.agg #[.int .u64 (c.f : Int), .int .u64 (c.l : Int), .int .u64 (c.r : Int)]] w fun e w' => e = .returned (.bool b) ∧ Chg NoChg w w' := fun b h w => h ▸ cMay_any c w
  by_cases hm0 : s.mayE ≠ 0
  · exact spoilt_E _ _ _ _ _ _ _ _ _ _ _ _ _ _ _ _ _ s.mayE (by simpa using hm0) (by simpa using hm0) (M _ rfl) w hd
  have hm : s.mayE = 0 := by simpa using hm0
  by_cases hc : c.May
  · exact spoilt_C _ _ _ _ _ _ _ _ _ _ _ _ _ _ _ _ _ (M 0 hm) (C true (by simp [hc])) w hd
  have Ha : ∀ w, Calls Tryz.prog 10 #[.agg #[.int .i64 0, .int .i64 s.par, .bool s.leaf, .int .u64 (c.f : Int), .int .u64 (c.l : Int), .int .u64 (c.r : Int), .int .u64 (s.share.f : Int), .int .u64 (s.share.l : Int), .int .u64 (s.share.r : Int), .int .u64 (s.upper.f : Int), .int .u64 (s.upper.l : Int), .int .u64 (s.upper.r : Int), .int .i64 s.pk, .int .i64 s.bt]] w fun e w' => e = .returned (.int .i64 130) ∧ Chg NoChg w w' := by
    intro w
    have h := spMay_any ⟨0, s.par, s.leaf, c, s.share, s.upper, s.pk, s.bt⟩ w
    rw [spoilt_id s c] at h
    exact h
  have Hb : ∀ w, Calls Tryz.prog 10 #[.agg #[.int .i64 s.id, .int .i64 s.par, .bool s.leaf, .int .u64 (s.real.f : Int), .int .u64 (s.real.l : Int), .int .u64 (s.real.r : Int), .int .u64 (c.f : Int), .int .u64 (c.l : Int), .int .u64 (c.r : Int), .int .u64 (s.upper.f : Int), .int .u64 (s.upper.l : Int), .int .u64 (s.upper.r : Int), .int .i64 s.pk, .int .i64 s.bt]] w fun e w' => e = .returned (.int .i64 30) ∧ Chg NoChg w w' := by
    intro w
    have h := spMay_any ⟨s.id, s.par, s.leaf, s.real, c, s.upper, s.pk, s.bt⟩ w
    rw [spoilt_share hm hc] at h
    exact h
  have Hd : ∀ w, Calls Tryz.prog 10 #[.agg #[.int .i64 s.id, .int .i64 s.par, .bool s.leaf, .int .u64 (s.real.f : Int), .int .u64 (s.real.l : Int), .int .u64 (s.real.r : Int), .int .u64 (s.share.f : Int), .int .u64 (s.share.l : Int), .int .u64 (s.share.r : Int), .int .u64 (c.f : Int), .int .u64 (c.l : Int), .int .u64 (c.r : Int), .int .i64 s.pk, .int .i64 s.bt]] w fun e w' => e = .returned (.int .i64 30) ∧ Chg NoChg w w' := by
    intro w
    have h := spMay_any ⟨s.id, s.par, s.leaf, s.real, s.share, c, s.pk, s.bt⟩ w
    rw [spoilt_upper hm hc] at h
    exact h
  have He : ∀ w, Calls Tryz.prog 10 #[.agg #[.int .i64 s.id, .int .i64 s.par, .bool (!s.leaf), .int .u64 (s.real.f : Int), .int .u64 (s.real.l : Int), .int .u64 (s.real.r : Int), .int .u64 (s.share.f : Int), .int .u64 (s.share.l : Int), .int .u64 (s.share.r : Int), .int .u64 (s.upper.f : Int), .int .u64 (s.upper.l : Int), .int .u64 (s.upper.r : Int), .int .i64 s.pk, .int .i64 s.bt]] w fun e w' => e = .returned (.int .i64 130) ∧ Chg NoChg w w' := by
    intro w
    have h := spMay_any ⟨s.id, s.par, !s.leaf, s.real, s.share, s.upper, s.pk, s.bt⟩ w
    rw [spoilt_leaf hm] at h
    exact h
  have Hf : ∀ w, Calls Tryz.prog 10 #[.agg #[.int .i64 s.id, .int .i64 s.par, .bool s.leaf, .int .u64 (s.real.f : Int), .int .u64 (s.real.l : Int), .int .u64 (s.real.r : Int), .int .u64 (s.share.f : Int), .int .u64 (s.share.l : Int), .int .u64 (s.share.r : Int), .int .u64 (s.upper.f : Int), .int .u64 (s.upper.l : Int), .int .u64 (s.upper.r : Int), .int .i64 4097, .int .i64 s.bt]] w fun e w' => e = .returned (.int .i64 130) ∧ Chg NoChg w w' := by
    intro w
    have h := spMay_any ⟨s.id, s.par, s.leaf, s.real, s.share, s.upper, 4097, s.bt⟩ w
    rw [spoilt_pk hm] at h
    exact h
  exact spoilt_M _ _ _ _ _ _ _ _ _ _ _ _ _ _ _ _ _ (M 0 hm) (C false (by simp [hc])) Ha Hb Hd He Hf w hd

set_option maxRecDepth 100000 in
theorem specSpoilt_law {H : Type} (enc : TypeId × Value → H) : LawWalkL enc Tryz.prog Rows.specSpoiltRow.laid 6 Tryz.f6 := by
  intro W base args ds p hval0 hA0 hsz hlt hL hS
  have hd := door_of_laid hL hS
  have hval : ∀ (j : Nat) t v, Tryz.f6.params[j]? = some t → args[j]? = some v → Value.okWide Tryz.prog W .any base t v := hval0
  have hA := hA0
  rw [Tryz.params6] at hA hval
  obtain ⟨v0, v1, d0, d1, p0, p1, rfl, rfl, rfl, h0, h1⟩ := trodAll_two hA
  obtain ⟨cs, rfl, hcs⟩ := open_flat Tryz.underlying26 spcK (hval 0 26 v0 rfl rfl) h0
  obtain ⟨s, hok, hs⟩ := Spc.of_fits hcs
  rw [hs]
  obtain ⟨cs1, rfl, hcs1⟩ := open_flat Tryz.underlying24 crvK (hval 1 24 v1 rfl rfl) h1
  obtain ⟨c, hokc, hc⟩ := Crv.of_fits hcs1
  rw [hc]
  exact (specSpoilt_any s c W hd).mono fun e w' h => ⟨h.1, h.2.below⟩

theorem specSpoilt_holds : Rows.SpecSpoiltCardSaid := specSpoilt_card fun H enc => specSpoilt_law enc
end Go.Proofs.YtofgajlpdnokdaaGreatDoor
