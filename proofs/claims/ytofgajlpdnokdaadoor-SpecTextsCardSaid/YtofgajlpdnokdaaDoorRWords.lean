/- The document's Words: a text, cut at each blank. Condition: at most 1000 bytes. -/
import Derived.Test.YtofgajlpdnokdaaDoorRDigits
namespace Go.Proofs.YtofgajlpdnokdaaDoor
set_option linter.unusedVariables false
open Go.Shelf Go.RowKit Go.Sort Go.Lib

/-- What holds of the words so far, at byte k, from f on. -/
def PInv (s : ByteArray) (k f : Nat) (L : List ByteArray) : Prop :=
  L.length ≤ k ∧ f ≤ k ∧ ((k ≤ s.size ∧ L.map (·.data.toList) ++ pieces 32 (s.data.toList.drop f) = pieces 32 s.data.toList ∧ 32 ∉ (s.data.toList.drop f).take (k - f)) ∨ (k = s.size + 1 ∧ L.map (·.data.toList) = pieces 32 s.data.toList))
theorem PInv.start (s : ByteArray) : PInv s 0 0 [] := ⟨by simp, by simp, .inl ⟨by omega, by simp, by simp⟩⟩
theorem ext_list (s : ByteArray) (f k : Nat) (hk : k ≤ s.size) : (s.extract f k).data.toList = (s.data.toList.drop f).take (k - f) := by
  rw [Lib.extract_data]
theorem PInv.skip {s : ByteArray} {k f : Nat} {L : List ByteArray} (h : PInv s k f L) (hk : k < s.size) (hb : ¬ (s[k]'hk).toNat = 32) : PInv s (k + 1) f L := by
  obtain ⟨h1, h2, h⟩ := h
  rcases h with ⟨h3, h4, h5⟩ | ⟨h3, _⟩
  · refine ⟨by omega, by omega, .inl ⟨by omega, h4, ?_⟩⟩
    have hd : k - f < (s.data.toList.drop f).length := by simp; omega
    have e : k + 1 - f = k - f + 1 := by omega
    rw [e, List.take_succ_eq_append_getElem hd]
    intro hm
    rcases List.mem_append.1 hm with hm | hm
    · exact h5 hm
    · simp only [List.mem_singleton, List.getElem_drop] at hm
      have : s[k]'hk = (32 : UInt8) := by
        show s.data[k]'hk = _
        rw [hm]
        simp only [show f + (k - f) = k by omega]
        simp
      exact hb (by rw [this]; rfl)
  · omega
theorem PInv.cut {s : ByteArray} {k f : Nat} {L : List ByteArray} (h : PInv s k f L) (hk : k < s.size) (hb : (s[k]'hk).toNat = 32) : PInv s (k + 1) (k + 1) (L ++ [s.extract f k]) := by
  obtain ⟨h1, h2, h⟩ := h
  rcases h with ⟨h3, h4, h5⟩ | ⟨h3, _⟩
  · refine ⟨by simp; omega, by omega, .inl ⟨by omega, ?_, by simp⟩⟩
    have hb' : s.data.toList[k]'(by simpa using hk) = (32 : UInt8) := by
      have : s[k]'hk = (32 : UInt8) := UInt8.toNat_inj.1 (by rw [hb]; rfl)
      rw [← this]
      rfl
    have e : s.data.toList.drop f = (s.data.toList.drop f).take (k - f) ++ 32 :: s.data.toList.drop (k + 1) := by
      have hd : k - f < (s.data.toList.drop f).length := by simp; omega
      have e1 := List.take_append_drop (k - f) (s.data.toList.drop f)
      rw [List.drop_eq_getElem_cons hd] at e1
      simp only [List.getElem_drop, List.drop_drop] at e1
      have e2 : f + (k - f) = k := by omega
      have e3 : f + (k - f + 1) = k + 1 := by omega
      simp only [e2, e3, hb'] at e1
      exact e1.symm
    rw [e, pieces_free 32 _ _ h5] at h4
    rw [List.map_append, ← h4]
    simp
  · omega
theorem PInv.last {s : ByteArray} {f : Nat} {L : List ByteArray} (h : PInv s s.size f L) : PInv s (s.size + 1) (s.size + 1) (L ++ [s.extract f s.size]) := by
  obtain ⟨h1, h2, h⟩ := h
  rcases h with ⟨h3, h4, h5⟩ | ⟨h3, _⟩
  · refine ⟨by simp; omega, by omega, .inr ⟨rfl, ?_⟩⟩
    rw [List.take_of_length_le (by simp)] at h5
    rw [pieces_one 32 _ h5] at h4
    rw [List.map_append, ← h4]
    simp
    rw [List.take_of_length_le (by simp)]
  · omega
theorem PInv.fin {s : ByteArray} {f : Nat} {L : List ByteArray} (h : PInv s (s.size + 1) f L) : L.map (·.data.toList) = pieces 32 s.data.toList := by
  obtain ⟨h1, h2, h⟩ := h
  rcases h with ⟨h3, h4, h5⟩ | ⟨_, h⟩
  · omega
  · exact h

theorem own_next {w wr : World} {v v2 : Value} {S : Nat → Prop} (hc : Chg S w wr) (hG : ∀ g, v.ownBlock = some g → w.heap.size ≤ g) (hv : v2.ownBlock = v.ownBlock ∨ v2.ownBlock = some (wr.heap.size + 1)) : ∀ g, v2.ownBlock = some g → w.heap.size ≤ g := by
  intro g hg
  have := hc.size
  rcases hv with e | e
  · rw [e] at hg; exact hG g hg
  · rw [e] at hg
    have := Option.some.inj hg
    omega

/-- A slice of texts of the call's own. -/
def WordsIs (w : World) (L : List (List UInt8)) (e : Ending) (w' : World) : Prop :=
  ∃ v l, e = .returned v ∧ l.map (fun b : ByteArray => b.data.toList) = L ∧ Own strC 1 9 w' v l ∧ (∀ g, v.ownBlock = some g → w.heap.size ≤ g) ∧ Chg NoChg w w'

set_option maxRecDepth 100000 in
set_option maxHeartbeats 4000000 in
theorem r10Words_any (s : ByteArray) (w : World) (hs : s.size ≤ 1000) : Calls Tryd.prog 39 #[.string s] w fun e w' => WordsIs w (pieces 32 s.data.toList) e w' := by
  have HP := hide (PInv.start s)
  go_enter Tryd.func39, Tryd.ntmps39
  go_wp2
  go_loopw [3, 4, 5] (fun v f i wr => ∃ (k m : Nat) (L : List ByteArray), i = .int .i64 k ∧ f = .int .i64 m ∧ k ≤ s.size + 1 ∧ Hid (PInv s k m L) ∧ Hid (Own strC 1 9 wr v L) ∧ Hid (∀ g, v.ownBlock = some g → w.heap.size ≤ g) ∧ Hid (Chg NoChg w wr)) (fun _ _ i _ => s.size + 1 - (RowKit.intOf i).toNat)
  case atStart => exact ⟨0, 0, [], rfl, rfl, by omega, HP, hide (Own.nil _ _ _ _), hide (fun g h => by cases h), hide (Chg.refl _ _)⟩
  case round =>
    obtain ⟨k, m, L, rfl, rfl, hk, HI, HO, HG, HC⟩ := hrel
    have hmk := HI.out.2.1
    have hL := HI.out.1
    by_cases hlt : k < s.size
    · have hne : ((k : Int) == (s.size : Int)) = false := by simp; omega
      by_cases hb : (s[k]'hlt).toNat = 32
      · have HI2 := hide (HI.out.cut hlt hb)
        have hb1 : ((s[k]'hlt).toNat : Int) = 32 := by omega
        go_wp2_with (at_builtin; refine wpList_append_rec strR rfl (.tmp 22) (.tmp 27) rfl _ L rfl (HO.out.keep ((Chg.refl NoChg _).alloc _) (fun _ _ h => h)) _ _ [s.extract m k] rfl ?a1 ?a2 ?a3 ?a4 ?a5)
        case a1 => intro h; cases h
        case a2 => exact Blk.row1 _ _ 9
        case a3 => simp [maxLen]; omega
        case a4 => simp; omega
        intro v2 w2 hown hcc hv
        have HO2 := hide hown
        have HC2 := hide ((HC.out.alloc _).trans hcc (fun j hj => .inr (HG.out j hj)))
        have HG2 : Hid (∀ g, v2.ownBlock = some g → w.heap.size ≤ g) := hide (own_next HC.out HG.out hv)
        clear hown hcc hv HO HC HG
        go_wp2
        go_roundw
        case rel => exact ⟨k + 1, k + 1, _, by go_num, by go_num, by omega, HI2, HO2, HG2, HC2⟩
        case measure => simp [RowKit.intOf]; omega
      · have HI2 := hide (HI.out.skip hlt hb)
        have hb1 : ¬ ((s[k]'hlt).toNat : Int) = 32 := by omega
        go_wp2
        go_roundw
        case rel => exact ⟨k + 1, m, L, by go_num, rfl, by omega, HI2, HO, HG, HC⟩
        case measure => simp [RowKit.intOf]; omega
    · by_cases he : k = s.size
      · subst he
        have HI2 := hide HI.out.last
        go_wp2_with (at_builtin; refine wpList_append_rec strR rfl (.tmp 22) (.tmp 27) rfl _ L rfl (HO.out.keep ((Chg.refl NoChg _).alloc _) (fun _ _ h => h)) _ _ [s.extract m s.size] rfl ?b1 ?b2 ?b3 ?b4 ?b5)
        case b1 => intro h; cases h
        case b2 => exact Blk.row1 _ _ 9
        case b3 => simp [maxLen]; omega
        case b4 => simp; omega
        intro v2 w2 hown hcc hv
        have HO2 := hide hown
        have HC2 := hide ((HC.out.alloc _).trans hcc (fun j hj => .inr (HG.out j hj)))
        have HG2 : Hid (∀ g, v2.ownBlock = some g → w.heap.size ≤ g) := hide (own_next HC.out HG.out hv)
        clear hown hcc hv HO HC HG
        go_wp2
        go_roundw
        case rel => exact ⟨s.size + 1, s.size + 1, _, by go_num, by go_num, by omega, HI2, HO2, HG2, HC2⟩
        case measure => simp [RowKit.intOf]
      · obtain rfl : k = s.size + 1 := by omega
        have HF := hide HI.out.fin
        go_wp2
        go_ret
        exact ⟨_, L, rfl, HF.out, HO.out, HG.out, HC.out⟩
end Go.Proofs.YtofgajlpdnokdaaDoor
