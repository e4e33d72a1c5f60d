/- The document's number in digits. Condition: the number fits 64 bits. -/
import Derived.Test.YtofgajlpdnokdaaDoorFormat
namespace Go.Proofs.YtofgajlpdnokdaaDoor
set_option linter.unusedVariables false
open Go.Shelf Go.RowKit Go.Sort Go.Lib

theorem digit_byte (k : Nat) (h : k < 10) : ((UInt8.ofNat (48 + k)).toNat : Int) = 48 + (k : Int) := by
  have : (UInt8.ofNat (48 + k)).toNat = 48 + k := by
    simp [UInt8.toNat_ofNat']
    omega
  omega

theorem one_byte (k : Nat) (h : k < 10) (w : World) : (convert 105 9 (.slice (some ⟨w.heap.size, 0, none⟩) 1 1)).run Tryd.prog (w.alloc (.cells #[.int .u8 (48 + (k : Int))] 5)) = .ok (.string ⟨#[UInt8.ofNat (48 + k)]⟩) (w.alloc (.cells #[.int .u8 (48 + (k : Int))] 5)) := by
  have h' := run_convert_bytes_back (P := Tryd.prog) (w.alloc (.cells #[.int .u8 (48 + (k : Int))] 5)) 105 9 5 ⟨w.heap.size, 0, none⟩ 1 [UInt8.ofNat (48 + k)] Tryd.underlying105 Tryd.underlying5 Tryd.underlying9 (fun j hj => by
    have : j = 0 := by simpa using hj
    subst this
    rw [Lib.add_plain, World.cell?_alloc_new]
    simp only [List.getElem_cons_zero, digit_byte k h]
    rfl)
  exact h'

set_option maxRecDepth 100000 in
theorem r10Number_any (u : Nat) (hu : u < 18446744073709551616) : ∀ w, Calls Tryd.prog 35 #[.int .u64 (u : Int)] w fun e w' => e = .returned (.string ⟨(Lib.decDigits u).toArray⟩) ∧ Below w.heap.size w w' := by
  induction u using Nat.strongRecOn with
  | ind u ih =>
  intro w
  have h3 : Int.tmod (u : Int) 10 = ((u % 10 : Nat) : Int) := by rw [Int.tmod_eq_emod_of_nonneg (by omega)]; omega
  have hk : u % 10 < 10 := Nat.mod_lt _ (by omega)
  have h5 : ((u : Int)) % 10 = ((u % 10 : Nat) : Int) := by omega
  have hcv := one_byte (u % 10) hk w
  by_cases h : u < 10
  · have hd : Lib.decDigits u = [UInt8.ofNat (48 + u % 10)] := by rw [Lib.decDigits_one h]; congr 3; omega
    rw [hd]
    have h1 : (u : Int) < 10 := by omega
    generalize ((u % 10 : Nat) : Int) = r at h3 h5 hcv
    generalize UInt8.ofNat (48 + u % 10) = b at hcv ⊢
    clear ih hd
    go_enter Tryd.func35, Tryd.ntmps35
    go_wp2
    go_ret
    exact ⟨rfl, (Below.refl _ _).alloc (Nat.le_refl _) _⟩
  · have hd : Lib.decDigits u = Lib.decDigits (u / 10) ++ [UInt8.ofNat (48 + u % 10)] := by rw [Lib.decDigits, dif_neg h]
    have IH := hide (ih (u / 10) (by omega) (by omega))
    rw [hd]
    have h1 : (10 : Int) ≤ (u : Int) := by omega
    have h6 : (u : Int) / 10 = ((u / 10 : Nat) : Int) := by omega
    have h7 : Int.tdiv (u : Int) 10 = ((u / 10 : Nat) : Int) := by rw [Int.tdiv_eq_ediv_of_nonneg (by omega)]; omega
    generalize ((u / 10 : Nat) : Int) = q at h6 h7 IH
    generalize ((u % 10 : Nat) : Int) = r at h3 h5 hcv
    generalize UInt8.ofNat (48 + u % 10) = b at hcv hd ⊢
    have hl : (Lib.decDigits (u / 10)).length ≤ 20 := by
      rw [Lib.decDigits_length]
      by_cases h0 : u / 10 = 0
      · rw [h0, Lib.nDigits_small (by omega)]; omega
      · have := Lib.numDigits_eq (u / 10) (by omega) (by omega); split at this <;> omega
    generalize Lib.decDigits (u / 10) = ds at IH hl hd ⊢
    clear ih hd
    go_enter Tryd.func35, Tryd.ntmps35
    go_wp2_with fail
    refine (IH.out _).mono ?_
    rintro e w' ⟨rfl, hb⟩
    go_wp2
    go_ret
    refine ⟨?_, ?_⟩
    · congr 2
    · exact ((Below.refl _ _).alloc (Nat.le_refl _) _).trans (hb.mono (by simp))
end Go.Proofs.YtofgajlpdnokdaaDoor
