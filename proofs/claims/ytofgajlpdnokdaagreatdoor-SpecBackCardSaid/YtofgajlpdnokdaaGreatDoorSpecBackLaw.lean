/- SpecBack holds for every input. No condition. -/
import Derived.Test.YtofgajlpdnokdaaGreatDoorSpecBack
import Derived.Test.YtofgajlpdnokdaaGreatDoorSpcFits
import Derived.Test.YtofgajlpdnokdaaGreatDoorDoorLaid
import Derived.Test.YtofgajlpdnokdaaGreatDoorSpecBackCard
import Derived.ChangeMaps5
namespace Go.Proofs.YtofgajlpdnokdaaGreatDoor
set_option linter.unusedVariables false
open Go.ChangeShapes Go.WideShapes Go.ChangeAt Go.RowKit

theorem bs_same {y : ByteArray} {l : List UInt8} (h : y.data.toList = l) : bs l = y := by
  subst h
  show (⟨y.data.toList.toArray⟩ : ByteArray) = y
  rw [Array.toArray_toList]

/-- What has numbers not below 0: its text. -/
theorem text_of (s : Spc) (hn : s.nums) (hf : s.fits) (w : World) (hd : Door w) : Calls Tryz.prog 8 #[.agg #[.int .i64 s.id, .int .i64 s.par, .bool s.leaf, .int .u64 (s.real.f : Int), .int .u64 (s.real.l : Int), .int .u64 (s.real.r : Int), .int .u64 (s.share.f : Int), .int .u64 (s.share.l : Int), .int .u64 (s.share.r : Int), .int .u64 (s.upper.f : Int), .int .u64 (s.upper.l : Int), .int .u64 (s.upper.r : Int), .int .i64 s.pk, .int .i64 s.bt]] w fun e w' => e = .returned (.tuple #[.string (bs (sText s)), .int .i64 0]) ∧ Chg NoChg w w' := by
  obtain ⟨i, p, b, r, h, u, k, t⟩ := s
  obtain ⟨n0, n1, n2, n3⟩ := hn
  obtain ⟨f0, f1, f2, f3, q0, q1, q2⟩ := hf
  dsimp only at n0 n1 n2 n3 f0 f1 f2 f3 q0 q1 q2 ⊢
  obtain ⟨i, rfl⟩ : ∃ n : Nat, i = (n : Int) := ⟨i.toNat, by omega⟩
  obtain ⟨p, rfl⟩ : ∃ n : Nat, p = (n : Int) := ⟨p.toNat, by omega⟩
  obtain ⟨k, rfl⟩ : ∃ n : Nat, k = (n : Int) := ⟨k.toNat, by omega⟩
  obtain ⟨t, rfl⟩ : ∃ n : Nat, t = (n : Int) := ⟨t.toNat, by omega⟩
  exact s13Text_any i p b r h u k t (by omega) (by omega) (by omega) (by omega) q0 q1 q2 w hd
theorem parse_of (s : Spc) (y : ByteArray) (hy : y.size ≤ 1000) (h : IsSp y.data.toList s) (w : World) (hd : Door w) : Calls Tryz.prog 9 #[.string y] w fun e w' => e = .returned (.tuple #[.agg #[.int .i64 s.id, .int .i64 s.par, .bool s.leaf, .int .u64 (s.real.f : Int), .int .u64 (s.real.l : Int), .int .u64 (s.real.r : Int), .int .u64 (s.share.f : Int), .int .u64 (s.share.l : Int), .int .u64 (s.share.r : Int), .int .u64 (s.upper.f : Int), .int .u64 (s.upper.l : Int), .int .u64 (s.upper.r : Int), .int .i64 s.pk, .int .i64 s.bt], .int .i64 0]) ∧ Chg NoChg w w' := by
  refine (s13Parse_any y w hd hy).mono ?_
  rintro e w' ⟨he, c⟩
  refine ⟨?_, c⟩
  rcases he with ⟨s', hs, rfl⟩ | ⟨hno, _⟩
  · obtain rfl := IsSp.inj hs h
    rfl
  · exact absurd h (hno _)
theorem parse_no (y : ByteArray) (hy : y.size ≤ 1000) (h : ∀ s, ¬ IsSp y.data.toList s) (w : World) (hd : Door w) : Calls Tryz.prog 9 #[.string y] w fun e w' => e = .returned (.tuple #[.agg #[.int .i64 0, .int .i64 0, .bool false, .int .u64 0, .int .u64 0, .int .u64 0, .int .u64 0, .int .u64 0, .int .u64 0, .int .u64 0, .int .u64 0, .int .u64 0, .int .i64 0, .int .i64 0], .int .i64 2]) ∧ Chg NoChg w w' := by
  refine (s13Parse_any y w hd hy).mono ?_
  rintro e w' ⟨he, c⟩
  refine ⟨?_, c⟩
  rcases he with ⟨s', hs, rfl⟩ | ⟨hno, rfl⟩
  · exact absurd hs (h _)
  · rfl

theorem specBack_any (s : Spc) (hok : s.ok) (y : ByteArray) (w : World) (hd : Door w) :
    Calls Tryz.prog 3 #[.agg #[.int .i64 s.id, .int .i64 s.par, .bool s.leaf, .int .u64 (s.real.f : Int), .int .u64 (s.real.l : Int), .int .u64 (s.real.r : Int), .int .u64 (s.share.f : Int), .int .u64 (s.share.l : Int), .int .u64 (s.share.r : Int), .int .u64 (s.upper.f : Int), .int .u64 (s.upper.l : Int), .int .u64 (s.upper.r : Int), .int .i64 s.pk, .int .i64 s.bt], .string y] w fun e w' => e = .returned (.bool true) ∧ Chg NoChg w w' := by
  by_cases hsz : 400 < y.size
  · exact back_far _ _ _ _ _ _ _ _ _ _ _ _ _ _ y (by omega) w hd
  have hsz' : ¬ (400 : Int) < (y.size : Int) := by omega
  have hy : y.size ≤ 1000 := by omega
  have hfits : s.fits := hok
  by_cases hq : ∃ s', IsSp y.data.toList s'
  · obtain ⟨s', hs'⟩ := hq
    have HQ := fun w hd => parse_of s' y hy hs' w hd
    have HU := fun w hd => text_of s' hs'.2.1 hs'.2.2 w hd
    rw [bs_same hs'.1] at HU
    by_cases h0 : 0 ≤ s.id
    · by_cases h1 : 0 ≤ s.par
      · by_cases h2 : 0 ≤ s.pk
        · by_cases h3 : 0 ≤ s.bt
          · have hn : s.nums := ⟨h0, h1, h2, h3⟩
            have hl := sText_length hn hfits
            refine back_good_yes _ _ _ _ _ _ _ _ _ _ _ _ _ _ _ _ _ _ _ _ _ _ _ _ _ _ _ _ y hsz' h0 h1 h2 h3 (bs (sText s)) (fun w hd => text_of s hn hfits w hd) (fun w hd => parse_of s _ (by show (sText s).toArray.size ≤ 1000; rw [List.size_toArray]; omega) ⟨by rw [bs_list], hn, hfits⟩ w hd) HQ HU w hd
          · exact back_bad3_yes _ _ _ _ _ _ _ _ _ _ _ _ _ _ _ _ _ _ _ _ _ _ _ _ _ _ _ _ y hsz' h0 h1 h2 (by omega) (fun w hd => s13Text_bad s.id s.par s.leaf s.real s.share s.upper s.pk s.bt w (by omega)) HQ HU w hd
        · exact back_bad2_yes _ _ _ _ _ _ _ _ _ _ _ _ _ _ _ _ _ _ _ _ _ _ _ _ _ _ _ _ y hsz' h0 h1 (by omega) (fun w hd => s13Text_bad s.id s.par s.leaf s.real s.share s.upper s.pk s.bt w (by omega)) HQ HU w hd
      · exact back_bad1_yes _ _ _ _ _ _ _ _ _ _ _ _ _ _ _ _ _ _ _ _ _ _ _ _ _ _ _ _ y hsz' h0 (by omega) (fun w hd => s13Text_bad s.id s.par s.leaf s.real s.share s.upper s.pk s.bt w (by omega)) HQ HU w hd
    · exact back_bad0_yes _ _ _ _ _ _ _ _ _ _ _ _ _ _ _ _ _ _ _ _ _ _ _ _ _ _ _ _ y hsz' (by omega) (fun w hd => s13Text_bad s.id s.par s.leaf s.real s.share s.upper s.pk s.bt w (by omega)) HQ HU w hd
  · have hq' : ∀ s', ¬ IsSp y.data.toList s' := fun s' h => hq ⟨s', h⟩
    have HQ := fun w hd => parse_no y hy hq' w hd
    by_cases h0 : 0 ≤ s.id
    · by_cases h1 : 0 ≤ s.par
      · by_cases h2 : 0 ≤ s.pk
        · by_cases h3 : 0 ≤ s.bt
          · have hn : s.nums := ⟨h0, h1, h2, h3⟩
            have hl := sText_length hn hfits
            refine back_good_no _ _ _ _ _ _ _ _ _ _ _ _ _ _ y hsz' h0 h1 h2 h3 (bs (sText s)) (fun w hd => text_of s hn hfits w hd) (fun w hd => parse_of s _ (by show (sText s).toArray.size ≤ 1000; rw [List.size_toArray]; omega) ⟨by rw [bs_list], hn, hfits⟩ w hd) HQ w hd
          · exact back_bad3_no _ _ _ _ _ _ _ _ _ _ _ _ _ _ y hsz' h0 h1 h2 (by omega) (fun w hd => s13Text_bad s.id s.par s.leaf s.real s.share s.upper s.pk s.bt w (by omega)) HQ w hd
        · exact back_bad2_no _ _ _ _ _ _ _ _ _ _ _ _ _ _ y hsz' h0 h1 (by omega) (fun w hd => s13Text_bad s.id s.par s.leaf s.real s.share s.upper s.pk s.bt w (by omega)) HQ w hd
      · exact back_bad1_no _ _ _ _ _ _ _ _ _ _ _ _ _ _ y hsz' h0 (by omega) (fun w hd => s13Text_bad s.id s.par s.leaf s.real s.share s.upper s.pk s.bt w (by omega)) HQ w hd
    · exact back_bad0_no _ _ _ _ _ _ _ _ _ _ _ _ _ _ y hsz' (by omega) (fun w hd => s13Text_bad s.id s.par s.leaf s.real s.share s.upper s.pk s.bt w (by omega)) HQ w hd

set_option maxRecDepth 100000 in
theorem specBack_law {H : Type} (enc : TypeId × Value → H) : LawWalkL enc Tryz.prog Rows.specBackRow.laid 3 Tryz.f3 := by
  intro W base args ds p hval0 hA0 hsz hlt hL hS
  have hd := door_of_laid hL hS
  have hval : ∀ (j : Nat) t v, Tryz.f3.params[j]? = some t → args[j]? = some v → Value.okWide Tryz.prog W .any base t v := hval0
  have hA := hA0
  rw [Tryz.params3] at hA hval
  obtain ⟨v0, v1, d0, d1, p0, p1, rfl, rfl, rfl, h0, h1⟩ := trodAll_two hA
  obtain ⟨cs, rfl, hcs⟩ := open_flat Tryz.underlying26 spcK (hval 0 26 v0 rfl rfl) h0
  obtain ⟨s, hok, hs⟩ := Spc.of_fits hcs
  rw [hs]
  obtain ⟨y, rfl, -⟩ := Go.ChangeMaps.open_string Tryz.underlying9 (hval 1 9 v1 rfl rfl) h1
  exact (specBack_any s hok y W hd).mono fun e w' h => ⟨h.1, h.2.below⟩

theorem specBack_holds : Rows.SpecBackCardSaid := specBack_card fun H enc => specBack_law enc
end Go.Proofs.YtofgajlpdnokdaaGreatDoor
