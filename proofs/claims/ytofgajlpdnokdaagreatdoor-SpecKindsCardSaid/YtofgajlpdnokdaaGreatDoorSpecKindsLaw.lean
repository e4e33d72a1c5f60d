/- SpecKinds holds for every input. No condition. -/
import Derived.Test.YtofgajlpdnokdaaGreatDoorSpecKinds
import Derived.Test.YtofgajlpdnokdaaGreatDoorSpcLaw
import Derived.Test.YtofgajlpdnokdaaGreatDoorSpcFits
import Derived.Test.YtofgajlpdnokdaaGreatDoorDoorLaid
import Derived.Test.YtofgajlpdnokdaaGreatDoorSpecKindsCard
import Derived.ChangeMaps5
namespace Go.Proofs.YtofgajlpdnokdaaGreatDoor
set_option linter.unusedVariables false
open Go.ChangeShapes Go.WideShapes Go.ChangeAt Go.RowKit

theorem specKinds_any (s : Spc) (n : Nat) (hn64 : n < 18446744073709551616) (w : World) (hd : Door w) :
    Calls Tryz.prog 4 #[.agg #[.int .i64 s.id, .int .i64 s.par, .bool s.leaf, .int .u64 (s.real.f : Int), .int .u64 (s.real.l : Int), .int .u64 (s.real.r : Int), .int .u64 (s.share.f : Int), .int .u64 (s.share.l : Int), .int .u64 (s.share.r : Int), .int .u64 (s.upper.f : Int), .int .u64 (s.upper.l : Int), .int .u64 (s.upper.r : Int), .int .i64 s.pk, .int .i64 s.bt], .int .u64 (n : Int)] w fun e w' => e = .returned (.bool true) ∧ Chg NoChg w w' := by
  have M : ∀ E, s.mayE = E → ∀ w, Calls Tryz.prog 10 #[.agg #[.int .i64 s.id, .int .i64 s.par, .bool s.leaf, .int .u64 (s.real.f : Int), .int .u64 (s.real.l : Int), .int .u64 (s.real.r : Int), .int .u64 (s.share.f : Int), .int .u64 (s.share.l : Int), .int .u64 (s.share.r : Int), .int .u64 (s.upper.f : Int), .int .u64 (s.upper.l : Int), .int .u64 (s.upper.r : Int), .int .i64 s.pk, .int .i64 s.bt]] w fun e w' => e = .returned (.int .i64 E) ∧ Chg NoChg w w' := fun E h w => h ▸ spMay_any s w
  have K : ∀ E, kindB s.leaf s.real.none s.share.none = E → ∀ w, Calls Tryz.prog 11 #[.agg #[.int .i64 s.id, .int .i64 s.par, .bool s.leaf, .int .u64 (s.real.f : Int), .int .u64 (s.real.l : Int), .int .u64 (s.real.r : Int), .int .u64 (s.share.f : Int), .int .u64 (s.share.l : Int), .int .u64 (s.share.r : Int), .int .u64 (s.upper.f : Int), .int .u64 (s.upper.l : Int), .int .u64 (s.upper.r : Int), .int .i64 s.pk, .int .i64 s.bt]] w fun e w' => e = .returned (.int .u8 E) ∧ Chg NoChg w w' := fun E h w => h ▸ spKind_any s w
  by_cases hm0 : s.mayE ≠ 0
  · exact kinds_early _ _ _ _ _ _ _ _ _ _ _ _ _ _ n s.mayE (by simpa using hm0) (by simpa using hm0) (M _ rfl) w hd
  have hm : s.mayE = 0 := by simpa using hm0
  by_cases hn : (9223372036854775808 : Int) ≤ (n : Int)
  · exact kinds_never _ _ _ _ _ _ _ _ _ _ _ _ _ _ n (M 0 hm) hn w hd
  have hn2 : decide ((9223372036854775808 : Int) ≤ (n : Int)) = false := decide_eq_false hn
  have F : ∀ w, Calls Tryz.prog 10 #[.agg #[.int .i64 s.id, .int .i64 s.par, .bool s.leaf, .int .u64 (s.real.f : Int), .int .u64 (s.real.l : Int), .int .u64 (s.real.r : Int), .int .u64 (s.share.f : Int), .int .u64 (s.share.l : Int), .int .u64 (s.share.r : Int), .int .u64 0, .int .u64 0, .int .u64 0, .int .i64 s.pk, .int .i64 s.bt]] w fun e w' => e = .returned (.int .i64 0) ∧ Chg NoChg w w' := by
    intro w
    have h := spMay_any ⟨s.id, s.par, s.leaf, s.real, s.share, ⟨0, 0, 0⟩, s.pk, s.bt⟩ w
    rw [free_may hm] at h
    exact h
  have NR : ∀ b, s.real.none = b → ∀ w, Calls Tryz.prog 12 #[.agg #[.int .u64 (s.real.f : Int), .int .u64 (s.real.l : Int), .int .u64 (s.real.r : Int)]] w fun e w' => e = .returned (.bool b) ∧ Chg NoChg w w' := fun b h w => h ▸ cNone_any s.real w
  have NS : ∀ b, s.share.none = b → ∀ w, Calls Tryz.prog 12 #[.agg #[.int .u64 (s.share.f : Int), .int .u64 (s.share.l : Int), .int .u64 (s.share.r : Int)]] w fun e w' => e = .returned (.bool b) ∧ Chg NoChg w w' := fun b h w => h ▸ cNone_any s.share w
  have NU : ∀ b, s.upper.none = b → ∀ w, Calls Tryz.prog 12 #[.agg #[.int .u64 (s.upper.f : Int), .int .u64 (s.upper.l : Int), .int .u64 (s.upper.r : Int)]] w fun e w' => e = .returned (.bool b) ∧ Chg NoChg w w' := fun b h w => h ▸ cNone_any s.upper w
  cases hl : s.leaf with
  | true =>
    obtain ⟨hsome, hp1, hp2, hb1, hb2⟩ := leaf_parts hm hl
    have hpk : (s.pk == 0) = false := by simp; omega
    have hbt : (s.bt == 0) = false := by simp; omega
    rw [hl] at M F
    have K : ∀ E, kindB s.leaf s.real.none s.share.none = E → ∀ w, Calls Tryz.prog 11 #[.agg #[.int .i64 s.id, .int .i64 s.par, .bool true, .int .u64 (s.real.f : Int), .int .u64 (s.real.l : Int), .int .u64 (s.real.r : Int), .int .u64 (s.share.f : Int), .int .u64 (s.share.l : Int), .int .u64 (s.share.r : Int), .int .u64 (s.upper.f : Int), .int .u64 (s.upper.l : Int), .int .u64 (s.upper.r : Int), .int .i64 s.pk, .int .i64 s.bt]] w fun e w' => e = .returned (.int .u8 E) ∧ Chg NoChg w w' := fun E h w => by rw [← hl]; exact K E h w
    cases hx : s.real.none with
    | true =>
      cases hy : s.share.none with
      | true => rw [hx, hy] at hsome; simp at hsome
      | false =>
        cases hz : s.upper.none with
        | true => exact kinds_LSt _ _ _ _ _ _ _ _ _ _ _ _ _ n (M 0 hm) hn2 (K 2 (by rw [hl, hx, hy]; rfl)) F hpk hbt (NR _ hx) (NS _ hy) (NU _ hz) w hd
        | false => exact kinds_LSf _ _ _ _ _ _ _ _ _ _ _ _ _ n (M 0 hm) hn2 (K 2 (by rw [hl, hx, hy]; rfl)) F hpk hbt (NR _ hx) (NS _ hy) (NU _ hz) w hd
    | false =>
      cases hy : s.share.none with
      | true =>
        cases hz : s.upper.none with
        | true => exact kinds_LRt _ _ _ _ _ _ _ _ _ _ _ _ _ n (M 0 hm) hn2 (K 1 (by rw [hl, hx, hy]; rfl)) F hpk hbt (NR _ hx) (NS _ hy) (NU _ hz) w hd
        | false => exact kinds_LRf _ _ _ _ _ _ _ s.real s.upper (curves_parts hm).1 (curves_parts hm).2.2 n (M 0 hm) hn2 (K 1 (by rw [hl, hx, hy]; rfl)) F hpk hbt (NR _ hx) (NS _ hy) (NU _ hz) (under_le hm hx hz n) w hd
      | false =>
        cases hz : s.upper.none with
        | true => exact kinds_LBt _ _ _ _ _ _ _ _ _ _ _ _ _ n (M 0 hm) hn2 (K 3 (by rw [hl, hx, hy]; rfl)) F hpk hbt (NR _ hx) (NS _ hy) (NU _ hz) w hd
        | false => exact kinds_LBf _ _ _ _ _ _ _ s.real s.upper (curves_parts hm).1 (curves_parts hm).2.2 n (M 0 hm) hn2 (K 3 (by rw [hl, hx, hy]; rfl)) F hpk hbt (NR _ hx) (NS _ hy) (NU _ hz) (under_le hm hx hz n) w hd
  | false =>
    obtain ⟨hx, hy, hp, hb⟩ := inner_parts hm hl
    have K : ∀ E, kindB s.leaf s.real.none s.share.none = E → ∀ w, Calls Tryz.prog 11 #[.agg #[.int .i64 s.id, .int .i64 s.par, .bool false, .int .u64 (s.real.f : Int), .int .u64 (s.real.l : Int), .int .u64 (s.real.r : Int), .int .u64 (s.share.f : Int), .int .u64 (s.share.l : Int), .int .u64 (s.share.r : Int), .int .u64 (s.upper.f : Int), .int .u64 (s.upper.l : Int), .int .u64 (s.upper.r : Int), .int .i64 s.pk, .int .i64 s.bt]] w fun e w' => e = .returned (.int .u8 E) ∧ Chg NoChg w w' := fun E h w => by rw [← hl]; exact K E h w
    rw [hl] at M F
    rw [hp, hb] at M F K ⊢
    cases hz : s.upper.none with
    | true => exact kinds_INt _ _ _ _ _ _ _ _ _ _ _ n (M 0 hm) hn2 (K 4 (by rw [hl]; rfl)) F (NR _ hx) (NS _ hy) (NU _ hz) w hd
    | false => exact kinds_INf _ _ _ _ _ _ _ _ _ _ _ n (M 0 hm) hn2 (K 4 (by rw [hl]; rfl)) F (NR _ hx) (NS _ hy) (NU _ hz) w hd

set_option maxRecDepth 100000 in
theorem specKinds_law {H : Type} (enc : TypeId × Value → H) : LawWalkL enc Tryz.prog Rows.specKindsRow.laid 4 Tryz.f4 := by
  intro W base args ds p hval0 hA0 hsz hlt hL hS
  have hd := door_of_laid hL hS
  have hval : ∀ (j : Nat) t v, Tryz.f4.params[j]? = some t → args[j]? = some v → Value.okWide Tryz.prog W .any base t v := hval0
  have hA := hA0
  rw [Tryz.params4] at hA hval
  obtain ⟨v0, v1, d0, d1, p0, p1, rfl, rfl, rfl, h0, h1⟩ := trodAll_two hA
  obtain ⟨cs, rfl, hcs⟩ := open_flat Tryz.underlying26 spcK (hval 0 26 v0 rfl rfl) h0
  obtain ⟨s, hok, hs⟩ := Spc.of_fits hcs
  rw [hs]
  obtain ⟨y, rfl, rfl, rfl, hy⟩ := open_int Tryz.underlying22 (hval 1 22 v1 rfl rfl) h1
  obtain ⟨n, rfl, hn⟩ := u64_nat hy
  exact (specKinds_any s n hn W hd).mono fun e w' h => ⟨h.1, h.2.below⟩

theorem specKinds_holds : Rows.SpecKindsCardSaid := specKinds_card fun H enc => specKinds_law enc
end Go.Proofs.YtofgajlpdnokdaaGreatDoor
