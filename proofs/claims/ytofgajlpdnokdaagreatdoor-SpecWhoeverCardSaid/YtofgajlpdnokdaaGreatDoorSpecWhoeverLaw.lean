/- SpecWhoever holds for every input. No condition. -/
import Derived.Test.YtofgajlpdnokdaaGreatDoorSpecWhoever
import Derived.Test.YtofgajlpdnokdaaGreatDoorSpcLaw
import Derived.Test.YtofgajlpdnokdaaGreatDoorSpcFits
import Derived.Test.YtofgajlpdnokdaaGreatDoorDoorLaid
import Derived.Test.YtofgajlpdnokdaaGreatDoorSpecWhoeverCard
import Derived.ChangeMaps5
import Derived.Carry
namespace Go.Proofs.YtofgajlpdnokdaaGreatDoor
set_option linter.unusedVariables false
open Go.ChangeShapes Go.WideShapes Go.ChangeAt Go.RowKit

def goodId (d q : Int) : Bool := decide (1 ≤ d ∧ d ≤ 65535 ∧ 0 ≤ q ∧ q ≤ 65535 ∧ d ≠ q)
theorem goodId_iff (d q : Int) : goodId d q = true ↔ 1 ≤ d ∧ d ≤ 65535 ∧ 0 ≤ q ∧ q ≤ 65535 ∧ d ≠ q := by simp [goodId]
theorem named_good (s : Spc) : s.named = goodId s.id s.par := by
  rw [Bool.eq_iff_iff, goodId_iff]
  simp [Spc.named, inB]
  omega
theorem moved_bad {s : Spc} {d q : Int} (h : goodId d q = false) : Spc.mayE ⟨d, q, s.leaf, s.real, s.share, s.upper, s.pk, s.bt⟩ = 130 := by
  have hn : Spc.named ⟨d, q, s.leaf, s.real, s.share, s.upper, s.pk, s.bt⟩ = false := (named_good _).trans h
  unfold Spc.mayE
  rw [hn]
  rfl
theorem moved_same {s : Spc} {d q : Int} (h : goodId d q = true) (hs : goodId s.id s.par = true) : Spc.mayE ⟨d, q, s.leaf, s.real, s.share, s.upper, s.pk, s.bt⟩ = s.mayE := by
  have hn : Spc.named ⟨d, q, s.leaf, s.real, s.share, s.upper, s.pk, s.bt⟩ = true := (named_good _).trans h
  have hn2 : s.named = true := (named_good _).trans hs
  unfold Spc.mayE
  rw [hn, hn2]
  rfl
theorem with_may {s o : Spc} (h : s.mayE = 0) (ho : o.mayE = 0) (hl : s.leaf = o.leaf) : Spc.mayE ⟨s.id, s.par, s.leaf, o.real, o.share, o.upper, s.pk, s.bt⟩ = 0 := by
  obtain ⟨h1, h2, h3, h4, h5⟩ := may_parts h
  obtain ⟨o1, o2, o3, o4, o5⟩ := may_parts ho
  refine may_of_parts h1 o2 ?_ o4 o5
  cases hs : s.leaf with
  | true =>
    obtain ⟨_, p1, p2, p3, p4⟩ := leaf_parts h hs
    obtain ⟨hk, _⟩ := leaf_parts ho (hl ▸ hs)
    simp only [Spc.shapedB, if_true, kindB_zero, inB, Bool.and_eq_true, decide_eq_true_eq]
    refine ⟨?_, ⟨p1, p2⟩, p3, p4⟩
    simpa using hk
  | false =>
    obtain ⟨_, _, p1, p2⟩ := inner_parts h hs
    obtain ⟨k1, k2, _, _⟩ := inner_parts ho (hl ▸ hs)
    simp [Spc.shapedB, p1, p2, k1, k2]

theorem specWhoever_any (s o : Spc) (d q : Int) (w : World) (hd : Door w) :
    Calls Tryz.prog 5 #[.agg #[.int .i64 s.id, .int .i64 s.par, .bool s.leaf, .int .u64 (s.real.f : Int), .int .u64 (s.real.l : Int), .int .u64 (s.real.r : Int), .int .u64 (s.share.f : Int), .int .u64 (s.share.l : Int), .int .u64 (s.share.r : Int), .int .u64 (s.upper.f : Int), .int .u64 (s.upper.l : Int), .int .u64 (s.upper.r : Int), .int .i64 s.pk, .int .i64 s.bt], .agg #[.int .i64 o.id, .int .i64 o.par, .bool o.leaf, .int .u64 (o.real.f : Int), .int .u64 (o.real.l : Int), .int .u64 (o.real.r : Int), .int .u64 (o.share.f : Int), .int .u64 (o.share.l : Int), .int .u64 (o.share.r : Int), .int .u64 (o.upper.f : Int), .int .u64 (o.upper.l : Int), .int .u64 (o.upper.r : Int), .int .i64 o.pk, .int .i64 o.bt], .int .i64 d, .int .i64 q] w fun e w' => e = .returned (.bool true) ∧ Chg NoChg w w' := by
  have Ms : ∀ w, Calls Tryz.prog 10 #[.agg #[.int .i64 s.id, .int .i64 s.par, .bool s.leaf, .int .u64 (s.real.f : Int), .int .u64 (s.real.l : Int), .int .u64 (s.real.r : Int), .int .u64 (s.share.f : Int), .int .u64 (s.share.l : Int), .int .u64 (s.share.r : Int), .int .u64 (s.upper.f : Int), .int .u64 (s.upper.l : Int), .int .u64 (s.upper.r : Int), .int .i64 s.pk, .int .i64 s.bt]] w fun e w' => e = .returned (.int .i64 s.mayE) ∧ Chg NoChg w w' := fun w => spMay_any s w
  have Mo : ∀ w, Calls Tryz.prog 10 #[.agg #[.int .i64 o.id, .int .i64 o.par, .bool o.leaf, .int .u64 (o.real.f : Int), .int .u64 (o.real.l : Int), .int .u64 (o.real.r : Int), .int .u64 (o.share.f : Int), .int .u64 (o.share.l : Int), .int .u64 (o.share.r : Int), .int .u64 (o.upper.f : Int), .int .u64 (o.upper.l : Int), .int .u64 (o.upper.r : Int), .int .i64 o.pk, .int .i64 o.bt]] w fun e w' => e = .returned (.int .i64 o.mayE) ∧ Chg NoChg w w' := fun w => spMay_any o w
  have Ks : ∀ w, Calls Tryz.prog 11 #[.agg #[.int .i64 s.id, .int .i64 s.par, .bool s.leaf, .int .u64 (s.real.f : Int), .int .u64 (s.real.l : Int), .int .u64 (s.real.r : Int), .int .u64 (s.share.f : Int), .int .u64 (s.share.l : Int), .int .u64 (s.share.r : Int), .int .u64 (s.upper.f : Int), .int .u64 (s.upper.l : Int), .int .u64 (s.upper.r : Int), .int .i64 s.pk, .int .i64 s.bt]] w fun e w' => e = .returned (.int .u8 (kindB s.leaf s.real.none s.share.none)) ∧ Chg NoChg w w' := fun w => spKind_any s w
  have Km : ∀ w, Calls Tryz.prog 11 #[.agg #[.int .i64 d, .int .i64 q, .bool s.leaf, .int .u64 (s.real.f : Int), .int .u64 (s.real.l : Int), .int .u64 (s.real.r : Int), .int .u64 (s.share.f : Int), .int .u64 (s.share.l : Int), .int .u64 (s.share.r : Int), .int .u64 (s.upper.f : Int), .int .u64 (s.upper.l : Int), .int .u64 (s.upper.r : Int), .int .i64 s.pk, .int .i64 s.bt]] w fun e w' => e = .returned (.int .u8 (kindB s.leaf s.real.none s.share.none)) ∧ Chg NoChg w w' := fun w => spKind_any ⟨d, q, s.leaf, s.real, s.share, s.upper, s.pk, s.bt⟩ w
  have Ko : ∀ w, Calls Tryz.prog 11 #[.agg #[.int .i64 o.id, .int .i64 o.par, .bool o.leaf, .int .u64 (o.real.f : Int), .int .u64 (o.real.l : Int), .int .u64 (o.real.r : Int), .int .u64 (o.share.f : Int), .int .u64 (o.share.l : Int), .int .u64 (o.share.r : Int), .int .u64 (o.upper.f : Int), .int .u64 (o.upper.l : Int), .int .u64 (o.upper.r : Int), .int .i64 o.pk, .int .i64 o.bt]] w fun e w' => e = .returned (.int .u8 (kindB o.leaf o.real.none o.share.none)) ∧ Chg NoChg w w' := fun w => spKind_any o w
  have Ws : ∀ w, Calls Tryz.prog 15 #[.agg #[.int .i64 s.id, .int .i64 s.par, .bool s.leaf, .int .u64 (s.real.f : Int), .int .u64 (s.real.l : Int), .int .u64 (s.real.r : Int), .int .u64 (s.share.f : Int), .int .u64 (s.share.l : Int), .int .u64 (s.share.r : Int), .int .u64 (s.upper.f : Int), .int .u64 (s.upper.l : Int), .int .u64 (s.upper.r : Int), .int .i64 s.pk, .int .i64 s.bt], .agg #[.int .i64 s.id, .int .i64 s.par, .bool s.leaf, .int .u64 (s.real.f : Int), .int .u64 (s.real.l : Int), .int .u64 (s.real.r : Int), .int .u64 (s.share.f : Int), .int .u64 (s.share.l : Int), .int .u64 (s.share.r : Int), .int .u64 (s.upper.f : Int), .int .u64 (s.upper.l : Int), .int .u64 (s.upper.r : Int), .int .i64 s.pk, .int .i64 s.bt]] w fun e w' => e = .returned (.agg #[.int .i64 s.id, .int .i64 s.par, .bool s.leaf, .int .u64 (s.real.f : Int), .int .u64 (s.real.l : Int), .int .u64 (s.real.r : Int), .int .u64 (s.share.f : Int), .int .u64 (s.share.l : Int), .int .u64 (s.share.r : Int), .int .u64 (s.upper.f : Int), .int .u64 (s.upper.l : Int), .int .u64 (s.upper.r : Int), .int .i64 s.pk, .int .i64 s.bt]) ∧ Chg NoChg w w' := fun w => spWith_any s s w
  have Wo : ∀ w, Calls Tryz.prog 15 #[.agg #[.int .i64 s.id, .int .i64 s.par, .bool s.leaf, .int .u64 (s.real.f : Int), .int .u64 (s.real.l : Int), .int .u64 (s.real.r : Int), .int .u64 (s.share.f : Int), .int .u64 (s.share.l : Int), .int .u64 (s.share.r : Int), .int .u64 (s.upper.f : Int), .int .u64 (s.upper.l : Int), .int .u64 (s.upper.r : Int), .int .i64 s.pk, .int .i64 s.bt], .agg #[.int .i64 o.id, .int .i64 o.par, .bool o.leaf, .int .u64 (o.real.f : Int), .int .u64 (o.real.l : Int), .int .u64 (o.real.r : Int), .int .u64 (o.share.f : Int), .int .u64 (o.share.l : Int), .int .u64 (o.share.r : Int), .int .u64 (o.upper.f : Int), .int .u64 (o.upper.l : Int), .int .u64 (o.upper.r : Int), .int .i64 o.pk, .int .i64 o.bt]] w fun e w' => e = .returned (.agg #[.int .i64 s.id, .int .i64 s.par, .bool s.leaf, .int .u64 (o.real.f : Int), .int .u64 (o.real.l : Int), .int .u64 (o.real.r : Int), .int .u64 (o.share.f : Int), .int .u64 (o.share.l : Int), .int .u64 (o.share.r : Int), .int .u64 (o.upper.f : Int), .int .u64 (o.upper.l : Int), .int .u64 (o.upper.r : Int), .int .i64 s.pk, .int .i64 s.bt]) ∧ Chg NoChg w w' := fun w => spWith_any s o w
  have HW : s.mayE = 0 → o.mayE = 0 → s.leaf = o.leaf → (∀ w, Calls Tryz.prog 10 #[.agg #[.int .i64 s.id, .int .i64 s.par, .bool s.leaf, .int .u64 (o.real.f : Int), .int .u64 (o.real.l : Int), .int .u64 (o.real.r : Int), .int .u64 (o.share.f : Int), .int .u64 (o.share.l : Int), .int .u64 (o.share.r : Int), .int .u64 (o.upper.f : Int), .int .u64 (o.upper.l : Int), .int .u64 (o.upper.r : Int), .int .i64 s.pk, .int .i64 s.bt]] w fun e w' => e = .returned (.int .i64 0) ∧ Chg NoChg w w') ∧ (∀ w, Calls Tryz.prog 11 #[.agg #[.int .i64 s.id, .int .i64 s.par, .bool s.leaf, .int .u64 (o.real.f : Int), .int .u64 (o.real.l : Int), .int .u64 (o.real.r : Int), .int .u64 (o.share.f : Int), .int .u64 (o.share.l : Int), .int .u64 (o.share.r : Int), .int .u64 (o.upper.f : Int), .int .u64 (o.upper.l : Int), .int .u64 (o.upper.r : Int), .int .i64 s.pk, .int .i64 s.bt]] w fun e w' => e = .returned (.int .u8 (kindB o.leaf o.real.none o.share.none)) ∧ Chg NoChg w w') := by
    intro h ho hl
    refine ⟨fun w => ?_, fun w => ?_⟩
    · have x := spMay_any ⟨s.id, s.par, s.leaf, o.real, o.share, o.upper, s.pk, s.bt⟩ w
      rw [with_may h ho hl] at x
      exact x
    · have x := spKind_any ⟨s.id, s.par, s.leaf, o.real, o.share, o.upper, s.pk, s.bt⟩ w
      dsimp only at x
      rw [show kindB s.leaf o.real.none o.share.none = kindB o.leaf o.real.none o.share.none by rw [hl]] at x
      exact x
  cases hg : goodId d q with
  | false =>
    have Mm : ∀ w, Calls Tryz.prog 10 #[.agg #[.int .i64 d, .int .i64 q, .bool s.leaf, .int .u64 (s.real.f : Int), .int .u64 (s.real.l : Int), .int .u64 (s.real.r : Int), .int .u64 (s.share.f : Int), .int .u64 (s.share.l : Int), .int .u64 (s.share.r : Int), .int .u64 (s.upper.f : Int), .int .u64 (s.upper.l : Int), .int .u64 (s.upper.r : Int), .int .i64 s.pk, .int .i64 s.bt]] w fun e w' => e = .returned (.int .i64 130) ∧ Chg NoChg w w' := by
      intro w
      have x := spMay_any ⟨d, q, s.leaf, s.real, s.share, s.upper, s.pk, s.bt⟩ w
      rw [moved_bad hg] at x
      exact x
    exact who_F _ _ _ _ _ _ _ _ _ _ _ _ _ _ _ _ _ _ _ _ _ _ _ _ _ _ _ _ d q (goodId d q) (goodId s.id s.par) (goodId_iff d q) (goodId_iff s.id s.par) s.mayE o.mayE _ _ hg Mm Ms Mo Km Ks Ko Ws Wo HW w hd
  | true =>
    cases hs : goodId s.id s.par with
    | false => exact who_TF _ _ _ _ _ _ _ _ _ _ _ _ _ _ _ _ _ _ _ _ _ _ _ _ _ _ _ _ d q (goodId d q) (goodId s.id s.par) (goodId_iff d q) (goodId_iff s.id s.par) s.mayE o.mayE _ _ hg hs Ms Mo Km Ks Ko Ws Wo HW w hd
    | true =>
      have Mm : ∀ w, Calls Tryz.prog 10 #[.agg #[.int .i64 d, .int .i64 q, .bool s.leaf, .int .u64 (s.real.f : Int), .int .u64 (s.real.l : Int), .int .u64 (s.real.r : Int), .int .u64 (s.share.f : Int), .int .u64 (s.share.l : Int), .int .u64 (s.share.r : Int), .int .u64 (s.upper.f : Int), .int .u64 (s.upper.l : Int), .int .u64 (s.upper.r : Int), .int .i64 s.pk, .int .i64 s.bt]] w fun e w' => e = .returned (.int .i64 s.mayE) ∧ Chg NoChg w w' := by
        intro w
        have x := spMay_any ⟨d, q, s.leaf, s.real, s.share, s.upper, s.pk, s.bt⟩ w
        rw [moved_same hg hs] at x
        exact x
      exact who_TT _ _ _ _ _ _ _ _ _ _ _ _ _ _ _ _ _ _ _ _ _ _ _ _ _ _ _ _ d q (goodId d q) (goodId s.id s.par) (goodId_iff d q) (goodId_iff s.id s.par) s.mayE o.mayE _ _ hg hs Mm Ms Mo Km Ks Ko Ws Wo HW w hd

set_option maxRecDepth 100000 in
theorem specWhoever_law {H : Type} (enc : TypeId × Value → H) : LawWalkL enc Tryz.prog Rows.specWhoeverRow.laid 5 Tryz.f5 := by
  intro W base args ds p hval0 hA0 hsz hlt hL hS
  have hd := door_of_laid hL hS
  have hval : ∀ (j : Nat) t v, Tryz.f5.params[j]? = some t → args[j]? = some v → Value.okWide Tryz.prog W .any base t v := hval0
  have hA := hA0
  rw [Tryz.params5] at hA hval
  obtain ⟨v0, v1, v2, v3, d0, d1, d2, d3, p0, p1, p2, p3, rfl, rfl, rfl, h0, h1, h2, h3⟩ := trodAll_four hA
  obtain ⟨cs, rfl, hcs⟩ := open_flat Tryz.underlying26 spcK (hval 0 26 v0 rfl rfl) h0
  obtain ⟨s, hok, hs⟩ := Spc.of_fits hcs
  rw [hs]
  obtain ⟨cs1, rfl, hcs1⟩ := open_flat Tryz.underlying26 spcK (hval 1 26 v1 rfl rfl) h1
  obtain ⟨o, hoko, ho⟩ := Spc.of_fits hcs1
  rw [ho]
  obtain ⟨y, rfl, rfl, rfl, hy⟩ := open_int Tryz.underlying3 (hval 2 3 v2 rfl rfl) h2
  obtain ⟨z, rfl, rfl, rfl, hz⟩ := open_int Tryz.underlying3 (hval 3 3 v3 rfl rfl) h3
  exact (specWhoever_any s o y z W hd).mono fun e w' h => ⟨h.1, h.2.below⟩

theorem specWhoever_holds : Rows.SpecWhoeverCardSaid := specWhoever_card fun H enc => specWhoever_law enc
end Go.Proofs.YtofgajlpdnokdaaGreatDoor
