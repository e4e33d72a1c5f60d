/- The document's Digits: the number of digits, as it would be written. No condition. -/
import Derived.Test.YtofgajlpdnokdaaDoorText3
namespace Go.Proofs.YtofgajlpdnokdaaDoor
set_option linter.unusedVariables false
open Go.Shelf Go.RowKit Go.Sort Go.Lib

/-- Bytes, and what Digits tells of them: the number whose digits they are; or that they are none's. -/
def DigIs (l : List UInt8) (e : Ending) : Prop :=
  (∃ u : Nat, u < 18446744073709551616 ∧ l = Lib.decDigits u ∧ e = .returned (.tuple #[.int .u64 (u : Int), .bool true])) ∨
  ((∀ u : Nat, u < 18446744073709551616 → l ≠ Lib.decDigits u) ∧ ∃ m : Nat, m < 18446744073709551616 ∧ e = .returned (.tuple #[.int .u64 (m : Int), .bool false]))

/-- The number so far, wrapped. -/
def spw (l : List UInt8) : Nat := spell 0 l % 18446744073709551616
theorem spw_lt (l : List UInt8) : spw l < 18446744073709551616 := Nat.mod_lt _ (by omega)
theorem spw_snoc (l : List UInt8) (b : UInt8) : spw (l ++ [b]) = (10 * spw l + (b.toNat - 48)) % 18446744073709551616 := by
  unfold spw
  rw [spell_append]
  omega
theorem spw_dec (u : Nat) (h : u < 18446744073709551616) : spw (Lib.decDigits u) = u := by
  unfold spw
  rw [spell_dec]
  omega
theorem DigIs.no_long {l : List UInt8} (h : 20 < l.length) : DigIs l (.returned (.tuple #[.int .u64 0, .bool false])) :=
  .inr ⟨fun u hu e => by have := dec_length u hu; rw [← e] at this; omega, 0, by omega, rfl⟩
theorem DigIs.no_digit {l : List UInt8} (j : Nat) (h : j < l.length) (hd : dig l[j] = false) : DigIs l (.returned (.tuple #[.int .u64 0, .bool false])) :=
  .inr ⟨fun u hu e => by
    have := dec_digit u l[j] (by rw [← e]; exact List.getElem_mem h)
    simp [dig] at hd
    omega, 0, by omega, rfl⟩
theorem DigIs.fin (s : ByteArray) : DigIs s.data.toList (.returned (.tuple #[.int .u64 (spw s.data.toList : Int), .bool (Lib.decDigits (spw s.data.toList) == s.toList)])) := by
  have hl := spw_lt s.data.toList
  rw [ByteArray.toList_eq]
  by_cases h : Lib.decDigits (spw s.data.toList) = s.data.toList
  · refine .inl ⟨spw s.data.toList, hl, h.symm, ?_⟩
    simp [h]
  · refine .inr ⟨fun u hu e => h ?_, spw s.data.toList, hl, ?_⟩
    · rw [e, spw_dec u hu]
    · simp [h]

theorem take_snocB (s : ByteArray) (k : Nat) (h : k < s.size) : s.data.toList.take (k + 1) = s.data.toList.take k ++ [s[k]] := by
  rw [List.take_succ_eq_append_getElem (by simpa using h)]; rfl

set_option maxRecDepth 100000 in
set_option maxHeartbeats 4000000 in
theorem r10Digits_any (s : ByteArray) (w : World) (hs : s.size ≤ 9223372036854775807) : Calls Tryd.prog 40 #[.string s] w fun e w' => DigIs s.data.toList e ∧ Chg NoChg w w' := by
  by_cases hlong : 20 < s.size
  · have hD := hide (DigIs.no_long (l := s.data.toList) (by simpa using hlong))
    go_enter Tryd.func40, Tryd.ntmps40
    go_wp2
    exact bodyPost_ret (v := .tuple #[.int .u64 0, .bool false]) (by simp [results, Tryd.results40, go_sem]) rfl ⟨hD.out, Chg.refl _ _⟩
  · have hshort : ¬ (20 : Int) < (s.size : Int) := by omega
    have hFin := hide (DigIs.fin s)
    go_enter Tryd.func40, Tryd.ntmps40
    go_wp2
    go_loop [4, 5] (fun n i => ∃ k : Nat, k ≤ s.size ∧ i = .int .i64 k ∧ n = .int .u64 (spw (s.data.toList.take k) : Int)) (fun _ i => s.size - (RowKit.intOf i).toNat)
    case atStart => exact ⟨0, Nat.zero_le _, rfl, rfl⟩
    case round =>
      obtain ⟨k, hk, rfl, rfl⟩ := hrel
      have hm := spw_lt (s.data.toList.take k)
      by_cases hlt : k < s.size
      · have HS := hide (spw_snoc (s.data.toList.take k) (s[k]'hlt))
        have HT := hide (take_snocB s k hlt)
        have hND := hide (fun hd => DigIs.no_digit (l := s.data.toList) k (by simpa using hlt) hd)
        by_cases d1 : (s[k]'hlt).toNat < 48
        · have e1 : decide (((s[k]'hlt).toNat : Int) < 48) = true := by simp; omega
          have hE := hide (hND.out (by show dig (s[k]'hlt) = false; simp [dig]; omega))
          go_wp2
          exact bodyPost_ret (v := .tuple #[.int .u64 0, .bool false]) (by simp [results, Tryd.results40, go_sem]) rfl ⟨hE.out, Chg.refl _ _⟩
        · by_cases d2 : 57 < (s[k]'hlt).toNat
          · have hE := hide (hND.out (by show dig (s[k]'hlt) = false; simp [dig]; omega))
            go_wp2
            exact bodyPost_ret (v := .tuple #[.int .u64 0, .bool false]) (by simp [results, Tryd.results40, go_sem]) rfl ⟨hE.out, Chg.refl _ _⟩
          · generalize hM : spw (s.data.toList.take k) = m at hm HS ⊢
            have HM := hide hM
            clear hM
            go_wp2
            go_round
            case rel =>
              refine ⟨k + 1, by omega, by go_num, ?_⟩
              rw [HT.out, HS.out, IntKind.wrap_u64, IntKind.wrap_u64]
              congr 1
              omega
            case measure => simp [RowKit.intOf]; omega
      · obtain rfl : k = s.size := by omega
        have hN := hide (num_any _ (spw_lt s.data.toList) w)
        rw [List.take_of_length_le (by simp)] at hm ⊢
        generalize hM : spw s.data.toList = m at hm hN hFin ⊢
        have HM := hide hM
        clear hM
        go_wp2_with fail
        refine hN.out.mono ?_
        rintro e w1 ⟨rfl, c1⟩
        go_wp2
        refine bodyPost_ret (v := .tuple #[.int .u64 (m : Int), .bool (Lib.decDigits m == s.toList)]) (by simp [results, Tryd.results40, go_sem]) rfl ⟨hFin.out, c1⟩
end Go.Proofs.YtofgajlpdnokdaaDoor
