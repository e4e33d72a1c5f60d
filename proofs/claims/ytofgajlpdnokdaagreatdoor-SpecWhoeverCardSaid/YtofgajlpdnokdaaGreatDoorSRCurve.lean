/- The document's Curve. Condition: at most 1000 bytes. -/
import Derived.Test.YtofgajlpdnokdaaGreatDoorSCurve
namespace Go.Proofs.YtofgajlpdnokdaaGreatDoor
set_option linter.unusedVariables false
open Go.Shelf Go.RowKit Go.Sort Go.Lib

/-- What holds of the words so far, at byte k, from f on. -/
def PIv (c : UInt8) (s : ByteArray) (k f : Nat) (L : List (List UInt8)) : Prop :=
  L.length ≤ k ∧ f ≤ k ∧ ((k ≤ s.size ∧ L ++ pieces c (s.data.toList.drop f) = pieces c s.data.toList ∧ c ∉ (s.data.toList.drop f).take (k - f)) ∨ (k = s.size + 1 ∧ L = pieces c s.data.toList))
section
variable {c : UInt8} {s : ByteArray} {k f : Nat} {L : List (List UInt8)}
theorem PIv.start (c : UInt8) (s : ByteArray) : PIv c s 0 0 [] := ⟨by simp, by simp, .inl ⟨by omega, by simp, by simp⟩⟩
theorem PIv.skip (h : PIv c s k f L) (hk : k < s.size) (hb : ¬ (s[k]'hk) = c) : PIv c s (k + 1) f L := by
  obtain ⟨h1, h2, h⟩ := h
  rcases h with ⟨h3, h4, h5⟩ | ⟨h3, _⟩
  · refine ⟨by omega, by omega, .inl ⟨by omega, h4, ?_⟩⟩
    have hd : k - f < (s.data.toList.drop f).length := by simp; omega
    have e : k + 1 - f = k - f + 1 := by omega
    rw [e, List.take_succ_eq_append_getElem hd]
    intro hm
    rcases List.mem_append.1 hm with hm | hm
    · exact h5 hm
    · simp only [List.mem_singleton, List.getElem_drop] at hm
      apply hb
      show s.data[k]'hk = _
      rw [hm]
      simp only [show f + (k - f) = k by omega]
      simp
  · omega
theorem PIv.cut (h : PIv c s k f L) (hk : k < s.size) (hb : (s[k]'hk) = c) : PIv c s (k + 1) (k + 1) (L ++ [(s.extract f k).data.toList]) := by
  obtain ⟨h1, h2, h⟩ := h
  rcases h with ⟨h3, h4, h5⟩ | ⟨h3, _⟩
  · refine ⟨by simp; omega, by omega, .inl ⟨by omega, ?_, by simp⟩⟩
    have hb' : s.data.toList[k]'(by simpa using hk) = c := by
      rw [← hb]
      rfl
    have e : s.data.toList.drop f = (s.data.toList.drop f).take (k - f) ++ c :: s.data.toList.drop (k + 1) := by
      have hd : k - f < (s.data.toList.drop f).length := by simp; omega
      have e1 := List.take_append_drop (k - f) (s.data.toList.drop f)
      rw [List.drop_eq_getElem_cons hd] at e1
      simp only [List.getElem_drop, List.drop_drop] at e1
      have e2 : f + (k - f) = k := by omega
      have e3 : f + (k - f + 1) = k + 1 := by omega
      simp only [e2, e3, hb'] at e1
      exact e1.symm
    rw [e, pieces_free c _ _ h5] at h4
    rw [← h4, Lib.extract_data]
    simp
  · omega
theorem PIv.last (h : PIv c s s.size f L) : PIv c s (s.size + 1) (s.size + 1) (L ++ [(s.extract f s.size).data.toList]) := by
  obtain ⟨h1, h2, h⟩ := h
  rcases h with ⟨h3, h4, h5⟩ | ⟨h3, _⟩
  · refine ⟨by simp; omega, by omega, .inr ⟨rfl, ?_⟩⟩
    rw [List.take_of_length_le (by simp)] at h5
    rw [pieces_one c _ h5] at h4
    rw [← h4, Lib.extract_data, List.take_of_length_le (by simp)]
  · omega
theorem PIv.fin (h : PIv c s (s.size + 1) f L) : L = pieces c s.data.toList := by
  obtain ⟨h1, h2, h⟩ := h
  rcases h with ⟨h3, h4, h5⟩ | ⟨_, h⟩
  · omega
  · exact h
theorem PIv.pre (h : PIv c s k f L) : ∃ R, pieces c s.data.toList = L ++ R := by
  obtain ⟨h1, h2, h⟩ := h
  rcases h with ⟨h3, h4, h5⟩ | ⟨_, h⟩
  · exact ⟨_, h4.symm⟩
  · exact ⟨[], by simp [h]⟩
end
theorem NoCw.pre {s : ByteArray} {k f : Nat} {L : List (List UInt8)} {x : List UInt8} (h : PIv 47 s k f (L ++ [x])) (hx : ∀ u : Nat, u < 18446744073709551616 → x ≠ Lib.decDigits u) : ∀ c, ¬ IsCw s.data.toList c := by
  obtain ⟨R, hR⟩ := h.pre
  exact NoCw.word hR L.length x (by simp) hx

def decs (ns : List Nat) : List (List UInt8) := ns.map Lib.decDigits
theorem decs_snoc (ns : List Nat) (u : Nat) : decs (ns ++ [u]) = decs ns ++ [Lib.decDigits u] := by simp [decs]
theorem extract_size (s : ByteArray) (f k : Nat) (hk : k ≤ s.size) : (s.extract f k).size ≤ s.size := by rw [ByteArray.size_extract]; omega

end Go.Proofs.YtofgajlpdnokdaaGreatDoor
