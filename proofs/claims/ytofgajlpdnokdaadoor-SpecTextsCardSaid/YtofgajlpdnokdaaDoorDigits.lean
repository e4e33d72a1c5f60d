/- packet: whether a text is digits. No condition. -/
import Derived.Test.YtofgajlpdnokdaaDoorNumber
import Derived.Laws.RangeAny
import Derived.LoopTactic
namespace Go.Proofs.YtofgajlpdnokdaaDoor
set_option linter.unusedVariables false
open Go.Shelf Go.RowKit Go.Sort Go.Lib

def dig (b : UInt8) : Bool := decide (48 ≤ b.toNat) && decide (b.toNat ≤ 57)
def digitsB (s : ByteArray) : Bool := s.data.toList.all dig && !s.data.toList.isEmpty

theorem digitsB_false (s : ByteArray) (pos : Nat) (h : pos < s.size) (hd : dig (s[pos]'h) = false) : digitsB s = false := by
  unfold digitsB
  have : s.data.toList.all dig = false := by
    rw [Bool.eq_false_iff]
    intro ha
    have := List.all_eq_true.1 ha (s[pos]'h) (by
      have : s[pos]'h = s.data[pos]'h := rfl
      rw [this]
      simp)
    rw [hd] at this
    cases this
  rw [this]
  rfl
theorem digitsB_end (s : ByteArray) (h : ∀ j (hj : j < s.size), dig (s[j]'hj) = true) : digitsB s = !s.toList.isEmpty := by
  unfold digitsB
  have e : s.data.toList.all dig = true := by
    rw [List.all_eq_true]
    intro b hb
    obtain ⟨i, hi, rfl⟩ := List.mem_iff_getElem.1 hb
    exact h i (by simpa using hi)
  rw [e, ByteArray.toList_eq]
  rfl

set_option maxRecDepth 100000 in
theorem pkDigits_any (s : ByteArray) (w : World) : Calls Tryd.prog 38 #[.string s] w fun e w' => e = .returned (.bool (digitsB s)) ∧ Below w.heap.size w w' := by
  go_enter Tryd.func38, Tryd.ntmps38
  go_wp2
  go_loopw [4] (fun c w' => ∃ pos, w' = w.iter s pos ∧ pos ≤ s.size ∧ (∀ j (h : j < s.size), j < pos → dig (s[j]'h) = true)) (fun _ w' => s.size - w'.iterPos w.heap.size)
  case atStart => exact ⟨0, rfl, Nat.zero_le _, fun j h hj => by omega⟩
  case round =>
    obtain ⟨pos, rfl, hle, hall⟩ := hrel
    have HALL := hide hall
    clear hall
    have hB : Below w.heap.size w (w.iter s (pos + 1)) := (Below.refl _ _).alloc (Nat.le_refl _) _
    by_cases hp : pos < s.size
    · have DF := hide (digitsB_false s pos hp)
      by_cases ha : (s[pos]'hp).toNat < 128
      · have hnx : ∀ ty, (Instr.next (.pointer (some ⟨w.heap.size, 0, none⟩)) true ty).run Tryd.prog (w.iter s pos) = _ := fun ty => run_next_ascii w s pos ty hp ha
        have HB := hide (rfl : s[pos]'hp = s[pos]'hp)
        generalize hb : (s[pos]'hp).toNat = b at hnx
        clear ha
        by_cases d1 : 48 ≤ b
        · by_cases d2 : b ≤ 57
          · have e1 : decide ((b : Int) < 48) = false := by simp; omega
            have e2 : decide ((57 : Int) < (b : Int)) = false := by simp; omega
            go_wp2
            go_roundw
            case rel =>
              refine ⟨pos + 1, rfl, by omega, fun j h hj => ?_⟩
              by_cases hjp : j = pos
              · subst hjp
                simp [dig, hb, d1, d2]
              · exact HALL.out j h (by omega)
            case measure =>
              simp
              omega
          · have e1 : decide ((b : Int) < 48) = false := by simp; omega
            have e2 : decide ((57 : Int) < (b : Int)) = true := by simp; omega
            have HD := hide (DF.out (by simp [dig, hb, d2]))
            go_wp2
            go_ret
            exact ⟨by rw [HD.out]; rfl, hB⟩
        · have e1 : decide ((b : Int) < 48) = true := by simp; omega
          have HD := hide (DF.out (by simp [dig, hb, d1]))
          go_wp2
          go_ret
          exact ⟨by rw [HD.out]; rfl, hB⟩
      · have hnx : ∀ ty, (Instr.next (.pointer (some ⟨w.heap.size, 0, none⟩)) true ty).run Tryd.prog (w.iter s pos) = _ := fun ty => run_next_any w s pos ty hp
        have hh := decode_high s pos hp (by omega)
        have hB2 : Below w.heap.size w (w.iter s (pos + (Utf8.decode s pos).2)) := (Below.refl _ _).alloc (Nat.le_refl _) _
        have HD := hide (DF.out (by simp [dig]; omega))
        generalize (Utf8.decode s pos).1 = b at hnx hh
        have e1 : decide ((b : Int) < 48) = false := by simp; omega
        have e2 : decide ((57 : Int) < (b : Int)) = true := by simp; omega
        go_wp2
        go_ret
        exact ⟨by rw [HD.out]; rfl, hB2⟩
    · have hnx : ∀ ty, (Instr.next (.pointer (some ⟨w.heap.size, 0, none⟩)) true ty).run Tryd.prog (w.iter s pos) = _ := fun ty => run_next_end w s pos ty hp
      have HD := hide (digitsB_end s (fun j hj => HALL.out j hj (by omega)))
      have hB2 : Below w.heap.size w (w.iter s pos) := (Below.refl _ _).alloc (Nat.le_refl _) _
      go_wp2
      go_ret
      exact ⟨by rw [HD.out]; rfl, hB2⟩
end Go.Proofs.YtofgajlpdnokdaaDoor
