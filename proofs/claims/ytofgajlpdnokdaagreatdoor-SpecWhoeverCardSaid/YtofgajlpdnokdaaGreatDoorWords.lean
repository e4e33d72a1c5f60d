/- Words, as one text: Format Number Digits Txt Text Text2 Text3 RDigits RWords RParse PParse PParse2. -/
import Derived.Test.YtofgajlpdnokdaaGreatDoorShelf
import Derived.Test.YtofgajlpdnokdaaGreatDoorChecked
import Derived.Test.YtofgajlpdnokdaaGreatDoorBase
import Derived.Lib.Walk
import Derived.Lib.ItoaWalk
import Derived.Lib.ItoaMem
import Derived.Lib.AppendIntMem
import Derived.WalkKit
import Derived.Laws.RangeAny
import Derived.LoopTactic
import Derived.Lib.SplitLaws
import Derived.Lib.Join
import Derived.Lib.ParseIntB
import Derived.Lib.ItoaNum
import Derived.Deep.QuietTactic
import Derived.BigQuiet
import Derived.Outline
import Derived.RegionTactic
import Derived.ChangeAlike
import Derived.Deep.RegionHeld3
import Derived.WalkSpells
/- strconv.FormatUint at base 10: the number's decimal digits. Conditions: the number fits 64 bits; the table of powers of ten is what the library lays. -/
namespace Go.Proofs.YtofgajlpdnokdaaGreatDoor
set_option linter.unusedVariables false
open Go.Shelf Go.RowKit Go.Sort Go.Lib

set_option maxRecDepth 100000 in
theorem iFormatUint_small (u : Nat) (hu : u < 100) (w : World) : Calls Tryz.prog 49 #[.int .u64 (u : Int), .int .i64 10] w fun e w' => e = .returned (.string ⟨(Lib.decDigits u).toArray⟩) ∧ w' = w := by
  have h1 : (u : Int) < 100 := by omega
  go_enter Tryz.func49, Tryz.ntmps49
  go_wp2_with (go_at_call 60; refine (Tryz.internal_strconv_small u hu _).mono ?_; rintro e w' ⟨rfl, rfl⟩)
  go_ret
  exact ⟨rfl, rfl⟩

set_option maxRecDepth 100000 in
set_option maxHeartbeats 4000000 in
theorem iFormatUint_big (u : Nat) (hu : 100 ≤ u) (hu64 : u < 18446744073709551616) (w : World) (htab : Lib.TabIs Tryz.prog w "internal/strconv.uint64pow10" .u64 Lib.pow10Tab) :
    Calls Tryz.prog 49 #[.int .u64 (u : Int), .int .i64 10] w fun e w' => e = .returned (.string ⟨(Lib.decDigits u).toArray⟩) ∧ Below w.heap.size w w' := by
  have h1 : (100 : Int) ≤ (u : Int) := by omega
  have hu1 : 1 ≤ u := by omega
  have hnd20 : Lib.nDigits u ≤ 20 := by have := Lib.numDigits_eq u hu1 hu64; split at this <;> omega
  have hal : Tryz.prog.arrayLen 103 = 24 := by kernel_rfl
  have hsl : ∀ W, (Instr.sliceAt 103 (.pointer (some ⟨w.heap.size, 0, none⟩)) none (some (.int .i64 (Lib.nDigits u : Int))) none).run Tryz.prog W = .ok (.slice (some ⟨w.heap.size, 0, none⟩) (Lib.nDigits u) 24) W := fun W => by
    rw [run_sliceAt_array_h W 103 ⟨w.heap.size, 0, none⟩ (by simp [Program.arrayLen, Program.elem, Tryz.underlying103]) .i64 (Lib.nDigits u : Int) (by omega) (by rw [hal]; omega)]
    go_simp
  have hH0 := Lib.holds_zero0 w 103 (Lib.nDigits u) (by omega)
  have hfmt := Tryz.internal_strconv_formatBase10 w.heap.size 0 24 u (Array.replicate (Lib.nDigits u) 0) (w.alloc (.cells Lib.zeros24 103)) hH0 (by rw [Array.size_replicate]; exact Lib.lt_pow_nDigits u) hu64 (by rw [Array.size_replicate]; omega)
  rw [Array.size_replicate] at hfmt
  have HH0 := Lib.hid hH0
  clear hH0 hal
  go_enter Tryz.func49, Tryz.ntmps49
  go_wp2_with (go_at_call 61; refine (Tryz.internal_strconv_numDigits u hu1 hu64 _ (Lib.tabIs_alloc htab _)).mono ?_; rintro e w' ⟨rfl, rfl⟩)
  go_at_call 62
  refine hfmt.mono ?_
  rintro e w' ⟨rfl, k, v', dk, rfl, hF⟩
  have hcv : (convert 71 9 (.slice (some ⟨w.heap.size, 0, none⟩) (Lib.nDigits u) 24)).run Tryz.prog ((putRow (fun (b : UInt8) => Value.int .u8 (b.toNat : Int)) (w.alloc (.cells Lib.zeros24 103)) w.heap.size 0 dk).drewN k) = .ok (.string ⟨(Lib.decDigits u).toArray⟩) ((putRow (fun (b : UInt8) => Value.int .u8 (b.toNat : Int)) (w.alloc (.cells Lib.zeros24 103)) w.heap.size 0 dk).drewN k) := by
    have h := run_convert_bytes_back (P := Tryz.prog) ((putRow (fun (b : UInt8) => Value.int .u8 (b.toNat : Int)) (w.alloc (.cells Lib.zeros24 103)) w.heap.size 0 dk).drewN k) 71 9 5 ⟨w.heap.size, 0, none⟩ 24 (Lib.decDigits u) Tryz.underlying71 Tryz.underlying5 Tryz.underlying9 (fun j hj => by
      rw [Lib.row_is_numeral hF j hj, Lib.add_plain, World.cell?_drewN]
      exact cell?_putRow (fun (b : UInt8) => Value.int .u8 (b.toNat : Int)) _ w.heap.size 0 _ dk HH0.out (by rw [hF.size, Array.size_replicate]) j (by rw [hF.size]; rw [Lib.decDigits_length] at hj; exact hj))
    rw [Lib.decDigits_length] at h
    exact h
  go_wp2
  go_ret
  obtain ⟨os, eo⟩ := Lib.fin_at w (.cells Lib.zeros24 103) dk k 0
  refine ⟨rfl, ?_⟩
  rw [eo]
  exact Lib.below_grow w.heap.size w (Nat.le_refl _) k os

theorem iFormatUint_any (u : Nat) (hu64 : u < 18446744073709551616) (w : World) (htab : Lib.TabIs Tryz.prog w "internal/strconv.uint64pow10" .u64 Lib.pow10Tab) :
    Calls Tryz.prog 49 #[.int .u64 (u : Int), .int .i64 10] w fun e w' => e = .returned (.string ⟨(Lib.decDigits u).toArray⟩) ∧ Below w.heap.size w w' := by
  by_cases h : u < 100
  · exact (iFormatUint_small u h w).mono fun e w' h => ⟨h.1, by rw [h.2]; exact Below.refl _ _⟩
  · exact iFormatUint_big u (by omega) hu64 w htab

set_option maxRecDepth 100000 in
theorem formatUint_any (u : Nat) (hu64 : u < 18446744073709551616) (w : World) (htab : Lib.TabIs Tryz.prog w "internal/strconv.uint64pow10" .u64 Lib.pow10Tab) :
    Calls Tryz.prog 34 #[.int .u64 (u : Int), .int .i64 10] w fun e w' => e = .returned (.string ⟨(Lib.decDigits u).toArray⟩) ∧ Below w.heap.size w w' := by
  go_enter Tryz.func34, Tryz.ntmps34
  go_wp2_with (go_at_call 49; refine (iFormatUint_any u hu64 _ htab).mono ?_; rintro e w' ⟨rfl, hb⟩)
  go_ret
  exact ⟨rfl, hb⟩
end Go.Proofs.YtofgajlpdnokdaaGreatDoor

/- The document's number in digits. Condition: the number fits 64 bits. -/
namespace Go.Proofs.YtofgajlpdnokdaaGreatDoor
set_option linter.unusedVariables false
open Go.Shelf Go.RowKit Go.Sort Go.Lib

theorem digit_byte (k : Nat) (h : k < 10) : ((UInt8.ofNat (48 + k)).toNat : Int) = 48 + (k : Int) := by
  have : (UInt8.ofNat (48 + k)).toNat = 48 + k := by
    simp [UInt8.toNat_ofNat']
    omega
  omega

theorem one_byte (k : Nat) (h : k < 10) (w : World) : (convert 71 9 (.slice (some ⟨w.heap.size, 0, none⟩) 1 1)).run Tryz.prog (w.alloc (.cells #[.int .u8 (48 + (k : Int))] 5)) = .ok (.string ⟨#[UInt8.ofNat (48 + k)]⟩) (w.alloc (.cells #[.int .u8 (48 + (k : Int))] 5)) := by
  have h' := run_convert_bytes_back (P := Tryz.prog) (w.alloc (.cells #[.int .u8 (48 + (k : Int))] 5)) 71 9 5 ⟨w.heap.size, 0, none⟩ 1 [UInt8.ofNat (48 + k)] Tryz.underlying71 Tryz.underlying5 Tryz.underlying9 (fun j hj => by
    have : j = 0 := by simpa using hj
    subst this
    rw [Lib.add_plain, World.cell?_alloc_new]
    simp only [List.getElem_cons_zero, digit_byte k h]
    rfl)
  exact h'

end Go.Proofs.YtofgajlpdnokdaaGreatDoor

/- packet: whether a text is digits. No condition. -/
namespace Go.Proofs.YtofgajlpdnokdaaGreatDoor
set_option linter.unusedVariables false
open Go.Shelf Go.RowKit Go.Sort Go.Lib

def dig (b : UInt8) : Bool := decide (48 ≤ b.toNat) && decide (b.toNat ≤ 57)
def digitsB (s : ByteArray) : Bool := s.data.toList.all dig && !s.data.toList.isEmpty

theorem digitsB_false (s : ByteArray) (pos : Nat) (h : pos < s.size) (hd : dig (s[pos]'h) = false) : digitsB s = false := by
  unfold digitsB
  have : s.data.toList.all dig = false := by
    rw [Bool.eq_false_iff]
    intro ha
    have := List.all_eq_true.1 ha (s[pos]'h) (by
      have : s[pos]'h = s.data[pos]'h := rfl
      rw [this]
      simp)
    rw [hd] at this
    cases this
  rw [this]
  rfl
theorem digitsB_end (s : ByteArray) (h : ∀ j (hj : j < s.size), dig (s[j]'hj) = true) : digitsB s = !s.toList.isEmpty := by
  unfold digitsB
  have e : s.data.toList.all dig = true := by
    rw [List.all_eq_true]
    intro b hb
    obtain ⟨i, hi, rfl⟩ := List.mem_iff_getElem.1 hb
    exact h i (by simpa using hi)
  rw [e, ByteArray.toList_eq]
  rfl

end Go.Proofs.YtofgajlpdnokdaaGreatDoor

/- Texts: a text cut at a byte, and its pieces joined; decimal digits read back. Plain lists of bytes, no program. -/
namespace Go.Proofs.YtofgajlpdnokdaaGreatDoor
set_option linter.unusedVariables false

/-- A text, cut at each byte c. -/
def pieces (c : UInt8) : List UInt8 → List (List UInt8)
  | [] => [[]]
  | b :: l => if b = c then [] :: pieces c l else match pieces c l with
    | [] => [[b]]
    | p :: ps => (b :: p) :: ps

theorem pieces_ne (c : UInt8) : ∀ l, pieces c l ≠ []
  | [] => by simp [pieces]
  | b :: l => by
    unfold pieces
    split
    · simp
    · split <;> simp

theorem pieces_free (c : UInt8) : ∀ (w r : List UInt8), c ∉ w → pieces c (w ++ c :: r) = w :: pieces c r
  | [], r, _ => by simp [pieces]
  | b :: w, r, h => by
    have hb : b ≠ c := fun e => h (by simp [e])
    have hw : c ∉ w := fun e => h (by simp [e])
    rw [List.cons_append, pieces, if_neg hb, pieces_free c w r hw]

theorem pieces_one (c : UInt8) : ∀ (w : List UInt8), c ∉ w → pieces c w = [w]
  | [], _ => by simp [pieces]
  | b :: w, h => by
    have hb : b ≠ c := fun e => h (by simp [e])
    have hw : c ∉ w := fun e => h (by simp [e])
    rw [pieces, if_neg hb, pieces_one c w hw]

theorem join_cons2 (x y : List UInt8) (r : List (List UInt8)) (sep : List UInt8) : Lib.join (x :: y :: r) sep = x ++ sep ++ Lib.join (y :: r) sep := by
  rw [Lib.join_cons, Lib.join_cons]
  simp [Lib.joinTail]

theorem pieces_join (c : UInt8) : ∀ (ws : List (List UInt8)), ws ≠ [] → (∀ w ∈ ws, c ∉ w) → pieces c (Lib.join ws [c]) = ws
  | [], h, _ => absurd rfl h
  | [w], _, h => by rw [Lib.join_one, pieces_one c w (h w (by simp))]
  | w :: y :: r, _, h => by
    rw [join_cons2, List.append_assoc, List.singleton_append, pieces_free c w _ (h w (by simp)), pieces_join c (y :: r) (by simp) (fun x hx => h x (by simp at hx ⊢; exact .inr hx))]

theorem join_pieces (c : UInt8) : ∀ l, Lib.join (pieces c l) [c] = l
  | [] => by simp [pieces, Lib.join_one]
  | b :: l => by
    have ih := join_pieces c l
    rw [pieces]
    split
    · rename_i h
      subst h
      cases hp : pieces b l with
      | nil => exact absurd hp (pieces_ne b l)
      | cons p ps =>
        rw [hp] at ih
        rw [join_cons2, ih]
        simp
    · cases hp : pieces c l with
      | nil => exact absurd hp (pieces_ne c l)
      | cons p ps =>
        rw [hp] at ih
        cases ps with
        | nil => rw [Lib.join_one] at *; rw [← ih]
        | cons q qs =>
          rw [join_cons2] at *
          rw [← ih]
          simp

theorem pieces_mem (c : UInt8) : ∀ l, ∀ w ∈ pieces c l, c ∉ w
  | [], w, h => by
    simp [pieces] at h
    simp [h]
  | b :: l, w, h => by
    have ih := pieces_mem c l
    rw [pieces] at h
    split at h
    · rcases List.mem_cons.1 h with rfl | h
      · simp
      · exact ih w h
    · rename_i hb
      cases hp : pieces c l with
      | nil => exact absurd hp (pieces_ne c l)
      | cons p ps =>
        rw [hp] at h ih
        rcases List.mem_cons.1 h with rfl | h
        · have := ih p (by simp)
          simp [Ne.symm hb, this]
        · exact ih w (by simp [h])

theorem pieces_length (c : UInt8) : ∀ l, (pieces c l).length = l.count c + 1
  | [] => by simp [pieces]
  | b :: l => by
    have ih := pieces_length c l
    rw [pieces]
    split
    · rename_i h
      subst h
      simp [ih]
    · rename_i hb
      cases hp : pieces c l with
      | nil => exact absurd hp (pieces_ne c l)
      | cons p ps =>
        rw [hp] at ih
        rw [List.count_cons_of_ne (by simpa using hb)]
        simpa using ih

theorem piece_length (c : UInt8) : ∀ l, ∀ w ∈ pieces c l, w.length ≤ l.length
  | [], w, h => by
    simp [pieces] at h
    simp [h]
  | b :: l, w, h => by
    have ih := piece_length c l
    rw [pieces] at h
    split at h
    · rcases List.mem_cons.1 h with rfl | h
      · simp
      · have := ih w h
        simp
        omega
    · cases hp : pieces c l with
      | nil => exact absurd hp (pieces_ne c l)
      | cons p ps =>
        rw [hp] at h ih
        rcases List.mem_cons.1 h with rfl | h
        · have := ih p (by simp)
          simpa using this
        · have := ih w (by simp [h])
          simp
          omega

theorem splitK_pieces (c : UInt8) : ∀ (k : Nat) (l : List UInt8), l.count c = k → Lib.splitK [c] 0 k l = pieces c l
  | 0, l, h => by
    rw [Lib.splitK, pieces_one c l (List.count_eq_zero.1 h)]
  | k + 1, l, h => by
    have hm : c ∈ l := List.count_pos_iff.1 (by omega)
    rw [Lib.splitK]
    rcases Lib.index_spec l [c] with ⟨hi, hno⟩ | ⟨i, hi, hle, hocc, hno⟩
    · exfalso
      obtain ⟨j, hj, hjc⟩ := List.mem_iff_getElem.1 hm
      have := hno j (by omega)
      simp [Lib.occAt, List.drop_eq_getElem_cons hj, hjc] at this
    · have hlt : i < l.length := by
        rcases Nat.lt_or_ge i l.length with h | h
        · exact h
        · rw [Lib.occAt, List.drop_of_length_le h] at hocc
          simp at hocc
      have hic : l[i] = c := by
        rw [Lib.occAt, List.drop_eq_getElem_cons hlt, List.isPrefixOf] at hocc
        simp only [Bool.and_eq_true, beq_iff_eq] at hocc
        exact hocc.1.symm
      have hfree : c ∉ l.take i := by
        intro hc
        obtain ⟨j, hj, hjc⟩ := List.mem_iff_getElem.1 hc
        have hj' : j < i := by simp at hj; omega
        have := hno j hj'
        rw [Lib.occAt, List.drop_eq_getElem_cons (by omega)] at this
        rw [List.getElem_take] at hjc
        simp [hjc] at this
      have e : l = l.take i ++ c :: l.drop (i + 1) := by
        conv => lhs; rw [← List.take_append_drop i l, List.drop_eq_getElem_cons hlt, hic]
      rw [hi, if_neg (by simp)]
      simp only [Int.toNat_natCast, Nat.add_zero, List.length_singleton]
      have hcnt : (l.drop (i + 1)).count c = k := by
        have := congrArg (List.count c) e
        rw [List.count_append, List.count_eq_zero.2 hfree, List.count_cons_self] at this
        omega
      rw [splitK_pieces c k _ hcnt]
      conv => rhs; rw [e]
      rw [pieces_free c _ _ hfree]

/-- What strings.Split tells, of one byte. -/
theorem splitB_pieces (c : UInt8) (s : ByteArray) : (Lib.splitB ⟨#[c]⟩ 0 (Lib.countB s ⟨#[c]⟩) s).map (·.data.toList) = pieces c s.data.toList := by
  rw [Lib.splitB_data]
  have : Lib.countB s ⟨#[c]⟩ = s.data.toList.count c := by
    unfold Lib.countB
    exact Lib.count_one c s.data.toList
  rw [this]
  exact splitK_pieces c _ _ rfl

/-! ### Decimal digits -/

theorem dec_ind {P : Nat → Prop} (h1 : ∀ u, u < 10 → P u) (h2 : ∀ u, ¬ u < 10 → P (u / 10) → P u) : ∀ u, P u := by
  intro u
  induction u using Nat.strongRecOn with
  | _ u ih =>
    by_cases h : u < 10
    · exact h1 u h
    · exact h2 u h (ih _ (by omega))

theorem dec_small {u : Nat} (h : u < 10) : Lib.decDigits u = [UInt8.ofNat (48 + u)] := by rw [Lib.decDigits, dif_pos h]
theorem dec_big {u : Nat} (h : ¬ u < 10) : Lib.decDigits u = Lib.decDigits (u / 10) ++ [UInt8.ofNat (48 + u % 10)] := by rw [Lib.decDigits, dif_neg h]

theorem dec_digit (u : Nat) : ∀ b ∈ Lib.decDigits u, 48 ≤ b.toNat ∧ b.toNat ≤ 57 := by
  induction u using dec_ind with
  | h1 u h =>
    intro b hb
    rw [dec_small h] at hb
    simp at hb
    subst hb
    simp [UInt8.toNat_ofNat']
    omega
  | h2 u h ih =>
    intro b hb
    rw [dec_big h] at hb
    rcases List.mem_append.1 hb with hb | hb
    · exact ih b hb
    · simp at hb
      subst hb
      simp [UInt8.toNat_ofNat']
      omega

theorem dec_ne (u : Nat) : Lib.decDigits u ≠ [] := by
  by_cases h : u < 10
  · rw [dec_small h]; simp
  · rw [dec_big h]; simp

theorem dec_free (u : Nat) (c : UInt8) (h : c.toNat < 48) : c ∉ Lib.decDigits u := fun hc => by
  have := dec_digit u c hc
  omega

/-- The number that digits spell, the number before them acc. -/
def spell (acc : Nat) (l : List UInt8) : Nat := l.foldl (fun a c => a * 10 + (c.toNat - 48)) acc
theorem spell_cons (acc : Nat) (c : UInt8) (r : List UInt8) : spell acc (c :: r) = spell (acc * 10 + (c.toNat - 48)) r := by unfold spell; rw [List.foldl_cons]

theorem spell_append (l : List UInt8) : ∀ (acc : Nat) (b : UInt8), spell acc (l ++ [b]) = spell acc l * 10 + (b.toNat - 48) := by
  intro acc b
  unfold spell
  rw [List.foldl_append, List.foldl_cons, List.foldl_nil]

theorem spell_dec (u : Nat) : spell 0 (Lib.decDigits u) = u := by
  induction u using dec_ind with
  | h1 u h =>
    rw [dec_small h]
    simp [spell, UInt8.toNat_ofNat']
    omega
  | h2 u h ih =>
    rw [dec_big h, spell_append, ih]
    simp [UInt8.toNat_ofNat']
    omega

theorem dec_inj {u v : Nat} (h : Lib.decDigits u = Lib.decDigits v) : u = v := by
  rw [← spell_dec u, h, spell_dec]

theorem spell_ge (l : List UInt8) : ∀ acc, acc ≤ spell acc l := by
  induction l with
  | nil => intro acc; exact Nat.le_refl _
  | cons c r ih =>
    intro acc
    have := ih (acc * 10 + (c.toNat - 48))
    rw [spell_cons]
    omega

theorem parseM_spell (l : List UInt8) : ∀ acc, (∀ b ∈ l, 48 ≤ b.toNat ∧ b.toNat ≤ 57) → spell acc l < 18446744073709551616 → Lib.parseUintM (2 ^ 64 - 1) acc l = .ok (spell acc l) := by
  induction l with
  | nil => intro acc _ _; rfl
  | cons c r ih =>
    intro acc hd hlt
    have hc := hd c (by simp)
    have h1 := spell_ge r (acc * 10 + (c.toNat - 48))
    rw [spell_cons] at hlt
    rw [Lib.parseUintM, if_pos hc, if_neg (by omega), if_neg (by omega), spell_cons]
    exact ih _ (fun b hb => hd b (by simp [hb])) hlt

theorem parse_dec (u : Nat) (h : u < 18446744073709551616) : Lib.parseUintB 64 (Lib.decDigits u) = .ok u := by
  rw [Lib.parseUintB, if_neg (dec_ne u), parseM_spell _ 0 (dec_digit u) (by rw [spell_dec]; exact h), spell_dec]

theorem parseM_lt (l : List UInt8) : ∀ acc u, acc < 18446744073709551616 → Lib.parseUintM (2 ^ 64 - 1) acc l = .ok u → u < 18446744073709551616 := by
  induction l with
  | nil =>
    intro acc u ha h
    simp only [Lib.parseUintM, Lib.NumEnd.ok.injEq] at h
    omega
  | cons c r ih =>
    intro acc u ha h
    rw [Lib.parseUintM] at h
    split at h
    · split at h
      · cases h
      · split at h
        · cases h
        · exact ih _ u (by omega) h
    · cases h

theorem parse_lt {l : List UInt8} {u : Nat} (h : Lib.parseUintB 64 l = .ok u) : u < 18446744073709551616 := by
  unfold Lib.parseUintB at h
  split at h
  · cases h
  · exact parseM_lt l 0 u (by omega) h

theorem dec_length (u : Nat) (hu : u < 18446744073709551616) : (Lib.decDigits u).length ≤ 20 := by
  rw [Lib.decDigits_length]
  by_cases h0 : u = 0
  · rw [h0, Lib.nDigits_small (by omega)]; omega
  · have := Lib.numDigits_eq u (by omega) hu; split at this <;> omega

/-! ### A packet's text -/

def pkText (i c n t : Nat) : List UInt8 := Lib.join [Lib.decDigits i, Lib.decDigits c, Lib.decDigits n, Lib.decDigits t] [32]

theorem pkText_pieces (i c n t : Nat) : pieces 32 (pkText i c n t) = [Lib.decDigits i, Lib.decDigits c, Lib.decDigits n, Lib.decDigits t] :=
  pieces_join 32 _ (by simp) (by
    intro w hw
    simp at hw
    rcases hw with rfl | rfl | rfl | rfl <;> exact dec_free _ _ (by decide))

theorem pkText_inj {i c n t i' c' n' t' : Nat} (h : pkText i c n t = pkText i' c' n' t') : i = i' ∧ c = c' ∧ n = n' ∧ t = t' := by
  have e := congrArg (pieces 32) h
  rw [pkText_pieces, pkText_pieces] at e
  simp only [List.cons.injEq, and_true] at e
  exact ⟨dec_inj e.1, dec_inj e.2.1, dec_inj e.2.2.1, dec_inj e.2.2.2⟩

/-- These bytes are just the text of a packet with these numbers. -/
def IsPk (l : List UInt8) (i c n t : Nat) : Prop := l = pkText i c n t ∧ i < 18446744073709551616 ∧ c < 9223372036854775808 ∧ n < 9223372036854775808 ∧ t < 18446744073709551616
/-- These bytes are no packet's text. -/
def NoPk (l : List UInt8) : Prop := ∀ i c n t, ¬ IsPk l i c n t

theorem pkText_length {i c n t : Nat} (hi : i < 18446744073709551616) (hc : c < 18446744073709551616) (hn : n < 18446744073709551616) (ht : t < 18446744073709551616) : (pkText i c n t).length ≤ 83 := by
  have := dec_length i hi
  have := dec_length c hc
  have := dec_length n hn
  have := dec_length t ht
  simp [pkText, Lib.join_cons, Lib.joinTail]
  omega
end Go.Proofs.YtofgajlpdnokdaaGreatDoor

/- packet.Text: four numbers in digits, with blanks between. Condition: the library's tables and errors are what it lays. -/
namespace Go.Proofs.YtofgajlpdnokdaaGreatDoor
set_option linter.unusedVariables false
open Go.Shelf Go.RowKit Go.Sort Go.Lib

def bs (l : List UInt8) : ByteArray := ⟨l.toArray⟩
theorem bs_list (l : List UInt8) : (bs l).data.toList = l := by simp [bs]
theorem bs_inj {a b : List UInt8} (h : bs a = bs b) : a = b := by rw [← bs_list a, h, bs_list]
theorem bs_of (s : ByteArray) : bs s.data.toList = s := by simp [bs]
def strC (s : ByteArray) : List Value := [.string s]
theorem strR : RecT Tryz.prog strC 1 46 9 16 (⟨#[]⟩ : ByteArray) :=
  ⟨Tryz.underlying46, info_rec (by kernel_rfl), by omega, fun _ => rfl, fun x u hu => by
    simp only [strC, List.mem_singleton] at hu
    subst hu
    rfl⟩

theorem Blk.row1 (w : World) (s : ByteArray) (e : TypeId) : RowAt strC 1 (w.alloc (.cells #[.string s] e)) (some ⟨w.heap.size, 0, none⟩) [s] := by
  intro i hi
  obtain rfl : i = 0 := by simpa using hi
  refine ⟨w.heap.size, 0, rfl, fun j u hu => ?_⟩
  simp only [List.getElem_cons_zero, strC] at hu
  have hj : j = 0 := by
    have := (List.getElem?_eq_some_iff.1 hu).1
    simpa using this
  subst hj
  rw [(Blk.new w #[.string s] e).cell]
  simpa using hu

theorem var_keep {P : Program} {w w' : World} {n : String} {cs : Array Value} (h : w.var? P n = some cs) (c : Chg NoChg w w') : w'.var? P n = some cs := by
  unfold World.var? at *
  cases hg : P.globalNamed n with
  | none => rw [hg] at h; cases h
  | some g =>
    simp only [hg, Option.bind_some] at h ⊢
    have hlt : g < w.heap.size := by
      rcases Nat.lt_or_ge g w.heap.size with h' | h'
      · exact h'
      · rw [Array.getElem?_eq_none h'] at h; simp at h
    rw [c.block g hlt (fun h => h.elim)]
    exact h

/-- What the library lays. -/
structure Door (w : World) : Prop where
  tab : Lib.TabIs Tryz.prog w "internal/strconv.uint64pow10" .u64 Lib.pow10Tab
  syn : ∃ tp p, w.var? Tryz.prog "strconv.ErrSyntax" = some #[.iface tp p]
  rng : ∃ tp p, w.var? Tryz.prog "strconv.ErrRange" = some #[.iface tp p]
  ml : ∃ m, w.cell? ⟨1, 0, none⟩ = some (.int .i64 m)

theorem Door.keep {w w' : World} (h : Door w) (c : Chg NoChg w w') : Door w' := by
  obtain ⟨a, ⟨t1, p1, b⟩, ⟨t2, p2, d⟩, ⟨m, e⟩⟩ := h
  exact ⟨var_keep a c, ⟨t1, p1, var_keep b c⟩, ⟨t2, p2, var_keep d c⟩, ⟨m, (c.cell (cell_lt e) (fun h => h)).trans e⟩⟩

theorem fmt_any (u : Nat) (hu64 : u < 18446744073709551616) (w : World) (hd : Door w) :
    Calls Tryz.prog 34 #[.int .u64 (u : Int), .int .i64 10] w fun e w' => e = .returned (.string (bs (Lib.decDigits u))) ∧ Chg NoChg w w' :=
  (formatUint_any u hu64 w hd.tab).mono fun e w' h => ⟨h.1, Chg.ofBelow h.2⟩

/-- strings.Join of a slice that the call itself made. -/
theorem strJoin_any (w : World) (v : Value) (x : ByteArray) (l : List ByteArray) (sep : ByteArray) (hown : Own strC 1 9 w v (x :: l)) (hlen : (Lib.join ((x :: l).map (·.data.toList)) sep.data.toList).length ≤ 140737488355328) (hN : (x :: l).length ≤ 140737488355328) :
    Calls Tryz.prog 20 #[v, .string sep] w fun e w' => e = .returned (.string (bs (Lib.join ((x :: l).map (·.data.toList)) sep.data.toList))) ∧ Chg NoChg w w' := by
  obtain ⟨a, cap, rfl, hcap, -, hrow⟩ := Own.row (sz := 1) (cells := strC) (fun _ => rfl) hown
  obtain ⟨g, o, rfl, h0⟩ := hrow 0 (by simp)
  have hcells : ∀ (j : Nat) y, (x :: l)[j]? = some y → w.cell? ⟨g, o + j, none⟩ = some (.string y) := by
    intro j y hj
    obtain ⟨hj1, hj2⟩ := List.getElem?_eq_some_iff.1 hj
    obtain ⟨g', o', he, hc⟩ := hrow j hj1
    obtain ⟨rfl, rfl⟩ : g = g' ∧ o = o' := by simpa using he
    have := hc 0 (.string y) (by rw [hj2]; rfl)
    simpa using this
  exact (Tryz.strings_Join g o cap (x :: l) sep w hcells (cell_lt (hcells 0 x rfl)) hN hcap hlen).mono fun e w' h => ⟨h.1, Chg.ofBelow h.2⟩
end Go.Proofs.YtofgajlpdnokdaaGreatDoor

/- packet.Text: four numbers in digits, with blanks between. Condition: the library's tables and errors are what it lays. -/
namespace Go.Proofs.YtofgajlpdnokdaaGreatDoor
set_option linter.unusedVariables false
open Go.Shelf Go.RowKit Go.Sort Go.Lib

end Go.Proofs.YtofgajlpdnokdaaGreatDoor

/- The document's text of a packet. No condition. -/
namespace Go.Proofs.YtofgajlpdnokdaaGreatDoor
set_option linter.unusedVariables false
open Go.Shelf Go.RowKit Go.Sort Go.Lib

theorem bs_app (a b : List UInt8) : (⟨a.toArray⟩ : ByteArray) ++ ⟨b.toArray⟩ = ⟨(a ++ b).toArray⟩ := by
  apply ByteArray.ext
  simp
end Go.Proofs.YtofgajlpdnokdaaGreatDoor

/- The document's Digits: the number of digits, as it would be written. No condition. -/
namespace Go.Proofs.YtofgajlpdnokdaaGreatDoor
set_option linter.unusedVariables false
open Go.Shelf Go.RowKit Go.Sort Go.Lib

/-- Bytes, and what Digits tells of them: the number whose digits they are; or that they are none's. -/
def DigIs (l : List UInt8) (e : Ending) : Prop :=
  (∃ u : Nat, u < 18446744073709551616 ∧ l = Lib.decDigits u ∧ e = .returned (.tuple #[.int .u64 (u : Int), .bool true])) ∨
  ((∀ u : Nat, u < 18446744073709551616 → l ≠ Lib.decDigits u) ∧ ∃ m : Nat, m < 18446744073709551616 ∧ e = .returned (.tuple #[.int .u64 (m : Int), .bool false]))

/-- The number so far, wrapped. -/
def spw (l : List UInt8) : Nat := spell 0 l % 18446744073709551616
theorem spw_lt (l : List UInt8) : spw l < 18446744073709551616 := Nat.mod_lt _ (by omega)
theorem spw_snoc (l : List UInt8) (b : UInt8) : spw (l ++ [b]) = (10 * spw l + (b.toNat - 48)) % 18446744073709551616 := by
  unfold spw
  rw [spell_append]
  omega
theorem spw_dec (u : Nat) (h : u < 18446744073709551616) : spw (Lib.decDigits u) = u := by
  unfold spw
  rw [spell_dec]
  omega
theorem DigIs.no_long {l : List UInt8} (h : 20 < l.length) : DigIs l (.returned (.tuple #[.int .u64 0, .bool false])) :=
  .inr ⟨fun u hu e => by have := dec_length u hu; rw [← e] at this; omega, 0, by omega, rfl⟩
theorem DigIs.no_digit {l : List UInt8} (j : Nat) (h : j < l.length) (hd : dig l[j] = false) : DigIs l (.returned (.tuple #[.int .u64 0, .bool false])) :=
  .inr ⟨fun u hu e => by
    have := dec_digit u l[j] (by rw [← e]; exact List.getElem_mem h)
    simp [dig] at hd
    omega, 0, by omega, rfl⟩
theorem DigIs.fin (s : ByteArray) : DigIs s.data.toList (.returned (.tuple #[.int .u64 (spw s.data.toList : Int), .bool (Lib.decDigits (spw s.data.toList) == s.toList)])) := by
  have hl := spw_lt s.data.toList
  rw [ByteArray.toList_eq]
  by_cases h : Lib.decDigits (spw s.data.toList) = s.data.toList
  · refine .inl ⟨spw s.data.toList, hl, h.symm, ?_⟩
    simp [h]
  · refine .inr ⟨fun u hu e => h ?_, spw s.data.toList, hl, ?_⟩
    · rw [e, spw_dec u hu]
    · simp [h]

theorem take_snocB (s : ByteArray) (k : Nat) (h : k < s.size) : s.data.toList.take (k + 1) = s.data.toList.take k ++ [s[k]] := by
  rw [List.take_succ_eq_append_getElem (by simpa using h)]; rfl

end Go.Proofs.YtofgajlpdnokdaaGreatDoor

/- The document's Words: a text, cut at each blank. Condition: at most 1000 bytes. -/
namespace Go.Proofs.YtofgajlpdnokdaaGreatDoor
set_option linter.unusedVariables false
open Go.Shelf Go.RowKit Go.Sort Go.Lib

/-- What holds of the words so far, at byte k, from f on. -/
def PInv (s : ByteArray) (k f : Nat) (L : List ByteArray) : Prop :=
  L.length ≤ k ∧ f ≤ k ∧ ((k ≤ s.size ∧ L.map (·.data.toList) ++ pieces 32 (s.data.toList.drop f) = pieces 32 s.data.toList ∧ 32 ∉ (s.data.toList.drop f).take (k - f)) ∨ (k = s.size + 1 ∧ L.map (·.data.toList) = pieces 32 s.data.toList))
theorem PInv.start (s : ByteArray) : PInv s 0 0 [] := ⟨by simp, by simp, .inl ⟨by omega, by simp, by simp⟩⟩
theorem ext_list (s : ByteArray) (f k : Nat) (hk : k ≤ s.size) : (s.extract f k).data.toList = (s.data.toList.drop f).take (k - f) := by
  rw [Lib.extract_data]
theorem PInv.skip {s : ByteArray} {k f : Nat} {L : List ByteArray} (h : PInv s k f L) (hk : k < s.size) (hb : ¬ (s[k]'hk).toNat = 32) : PInv s (k + 1) f L := by
  obtain ⟨h1, h2, h⟩ := h
  rcases h with ⟨h3, h4, h5⟩ | ⟨h3, _⟩
  · refine ⟨by omega, by omega, .inl ⟨by omega, h4, ?_⟩⟩
    have hd : k - f < (s.data.toList.drop f).length := by simp; omega
    have e : k + 1 - f = k - f + 1 := by omega
    rw [e, List.take_succ_eq_append_getElem hd]
    intro hm
    rcases List.mem_append.1 hm with hm | hm
    · exact h5 hm
    · simp only [List.mem_singleton, List.getElem_drop] at hm
      have : s[k]'hk = (32 : UInt8) := by
        show s.data[k]'hk = _
        rw [hm]
        simp only [show f + (k - f) = k by omega]
        simp
      exact hb (by rw [this]; rfl)
  · omega
theorem PInv.cut {s : ByteArray} {k f : Nat} {L : List ByteArray} (h : PInv s k f L) (hk : k < s.size) (hb : (s[k]'hk).toNat = 32) : PInv s (k + 1) (k + 1) (L ++ [s.extract f k]) := by
  obtain ⟨h1, h2, h⟩ := h
  rcases h with ⟨h3, h4, h5⟩ | ⟨h3, _⟩
  · refine ⟨by simp; omega, by omega, .inl ⟨by omega, ?_, by simp⟩⟩
    have hb' : s.data.toList[k]'(by simpa using hk) = (32 : UInt8) := by
      have : s[k]'hk = (32 : UInt8) := UInt8.toNat_inj.1 (by rw [hb]; rfl)
      rw [← this]
      rfl
    have e : s.data.toList.drop f = (s.data.toList.drop f).take (k - f) ++ 32 :: s.data.toList.drop (k + 1) := by
      have hd : k - f < (s.data.toList.drop f).length := by simp; omega
      have e1 := List.take_append_drop (k - f) (s.data.toList.drop f)
      rw [List.drop_eq_getElem_cons hd] at e1
      simp only [List.getElem_drop, List.drop_drop] at e1
      have e2 : f + (k - f) = k := by omega
      have e3 : f + (k - f + 1) = k + 1 := by omega
      simp only [e2, e3, hb'] at e1
      exact e1.symm
    rw [e, pieces_free 32 _ _ h5] at h4
    rw [List.map_append, ← h4]
    simp
  · omega
theorem PInv.last {s : ByteArray} {f : Nat} {L : List ByteArray} (h : PInv s s.size f L) : PInv s (s.size + 1) (s.size + 1) (L ++ [s.extract f s.size]) := by
  obtain ⟨h1, h2, h⟩ := h
  rcases h with ⟨h3, h4, h5⟩ | ⟨h3, _⟩
  · refine ⟨by simp; omega, by omega, .inr ⟨rfl, ?_⟩⟩
    rw [List.take_of_length_le (by simp)] at h5
    rw [pieces_one 32 _ h5] at h4
    rw [List.map_append, ← h4]
    simp
    rw [List.take_of_length_le (by simp)]
  · omega
theorem PInv.fin {s : ByteArray} {f : Nat} {L : List ByteArray} (h : PInv s (s.size + 1) f L) : L.map (·.data.toList) = pieces 32 s.data.toList := by
  obtain ⟨h1, h2, h⟩ := h
  rcases h with ⟨h3, h4, h5⟩ | ⟨_, h⟩
  · omega
  · exact h

theorem own_next {w wr : World} {v v2 : Value} {S : Nat → Prop} (hc : Chg S w wr) (hG : ∀ g, v.ownBlock = some g → w.heap.size ≤ g) (hv : v2.ownBlock = v.ownBlock ∨ v2.ownBlock = some (wr.heap.size + 1)) : ∀ g, v2.ownBlock = some g → w.heap.size ≤ g := by
  intro g hg
  have := hc.size
  rcases hv with e | e
  · rw [e] at hg; exact hG g hg
  · rw [e] at hg
    have := Option.some.inj hg
    omega

/-- A slice of texts of the call's own. -/
def WordsIs (w : World) (L : List (List UInt8)) (e : Ending) (w' : World) : Prop :=
  ∃ v l, e = .returned v ∧ l.map (fun b : ByteArray => b.data.toList) = L ∧ Own strC 1 9 w' v l ∧ (∀ g, v.ownBlock = some g → w.heap.size ≤ g) ∧ Chg NoChg w w'

end Go.Proofs.YtofgajlpdnokdaaGreatDoor

/- The document's Parse of a packet. Condition: at most 1000 bytes. -/
namespace Go.Proofs.YtofgajlpdnokdaaGreatDoor
set_option linter.unusedVariables false
open Go.Shelf Go.RowKit Go.Sort Go.Lib

def pkAgg (i c n t : Nat) : Value := .agg #[.int .u64 (i : Int), .int .i64 (c : Int), .int .i64 (n : Int), .int .u64 (t : Int)]
/-- Bytes, and what Parse tells of them: the packet whose text they are; or that they are none's. -/
def PkIs (l : List UInt8) (e : Ending) : Prop :=
  (∃ i c n t : Nat, IsPk l i c n t ∧ e = .returned (.tuple #[.agg #[.int .u64 (i : Int), .int .i64 (c : Int), .int .i64 (n : Int), .int .u64 (t : Int)], .int .i64 0])) ∨ (NoPk l ∧ e = .returned (.tuple #[.agg #[.int .u64 0, .int .i64 0, .int .i64 0, .int .u64 0], .int .i64 2]))

def numC (u : Nat) : List Value := [.int .u64 (u : Int)]
theorem numR : RecT Tryz.prog numC 1 98 22 8 0 :=
  ⟨Tryz.underlying98, info_rec (by kernel_rfl), by omega, fun _ => rfl, fun x u hu => by
    simp only [numC, List.mem_singleton] at hu
    subst hu
    rfl⟩
theorem Blk.rowN (w : World) (n : Nat) (e : TypeId) : RowAt numC 1 (w.alloc (.cells #[.int .u64 (n : Int)] e)) (some ⟨w.heap.size, 0, none⟩) [n] := by
  intro i hi
  obtain rfl : i = 0 := by simpa using hi
  refine ⟨w.heap.size, 0, rfl, fun j u hu => ?_⟩
  simp only [List.getElem_cons_zero, numC] at hu
  have hj : j = 0 := by
    have := (List.getElem?_eq_some_iff.1 hu).1
    simpa using this
  subst hj
  rw [(Blk.new w #[.int .u64 (n : Int)] e).cell]
  simpa using hu

theorem NoPk.words {l : List UInt8} (h : (pieces 32 l).length ≠ 4) : NoPk l := by
  intro i c n t hp
  rw [hp.1, pkText_pieces] at h
  exact h rfl
/-- A word that is no number of the right size: no packet's text. -/
theorem NoPk.word {l : List UInt8} {ws : List (List UInt8)} (hw : pieces 32 l = ws) (k : Nat) (x : List UInt8) (hx : ws[k]? = some x) (hk : k < 4) (h : ∀ u : Nat, u < 18446744073709551616 → (k = 1 ∨ k = 2 → u < 9223372036854775808) → x ≠ Lib.decDigits u) : NoPk l := by
  intro i c n t ⟨e, hi, hc, hn, ht⟩
  rw [e, pkText_pieces] at hw
  subst hw
  match k, hk with
  | 0, _ => exact h i hi (fun h => by omega) (by simpa using hx.symm)
  | 1, _ => exact h c (by omega) (fun _ => hc) (by simpa using hx.symm)
  | 2, _ => exact h n (by omega) (fun _ => hn) (by simpa using hx.symm)
  | 3, _ => exact h t ht (fun h => by omega) (by simpa using hx.symm)
theorem IsPk.mk {l : List UInt8} {i c n t : Nat} (hw : pieces 32 l = [Lib.decDigits i, Lib.decDigits c, Lib.decDigits n, Lib.decDigits t]) (hi : i < 18446744073709551616) (hc : c < 9223372036854775808) (hn : n < 9223372036854775808) (ht : t < 18446744073709551616) : IsPk l i c n t := by
  refine ⟨?_, hi, hc, hn, ht⟩
  rw [← join_pieces 32 l, hw]
  rfl

/-- A slice of texts that the call made: where each lies. -/
theorem own_cell {w : World} {v : Value} {l : List ByteArray} (h : Own strC 1 9 w v l) : ∃ a cap, v = .slice a l.length cap ∧ (0 < l.length → ∃ g o, a = some ⟨g, o, none⟩ ∧ ∀ (j : Nat) (hj : j < l.length), w.cell? ⟨g, o + j, none⟩ = some (.string l[j])) := by
  obtain ⟨a, cap, rfl, hcap, -, hrow⟩ := Own.row (sz := 1) (cells := strC) (fun _ => rfl) h
  refine ⟨a, cap, rfl, fun hpos => ?_⟩
  obtain ⟨g, o, rfl, h0⟩ := hrow 0 hpos
  refine ⟨g, o, rfl, fun j hj => ?_⟩
  obtain ⟨g', o', he, hc⟩ := hrow j hj
  obtain ⟨rfl, rfl⟩ : g = g' ∧ o = o' := by simpa using he
  have := hc 0 (.string l[j]) (by rfl)
  simpa using this
theorem chg_same {w w' : World} (hc : Chg NoChg w w') {ad : Addr} {u : Value} (h : w.cell? ad = some u) : w'.cell? ad = some u := (hc.cell (cell_lt h) (fun h => h)).trans h
theorem word_size (s x : ByteArray) (h : x.data.toList ∈ pieces 32 s.data.toList) (hs : s.size ≤ 1000) : x.size ≤ 9223372036854775807 := by
  have := piece_length 32 s.data.toList _ h
  simp at this
  omega
/-- Numbers in a slice of the call's own. -/
structure NS (w1 wk : World) (v : Value) (ns : List Nat) : Prop where
  chg : Chg NoChg w1 wk
  own : Own numC 1 22 wk v ns
  lt : ∀ g, v.ownBlock = some g → w1.heap.size ≤ g
theorem NS.start (w1 : World) : NS w1 w1 (.slice none 0 0) [] := ⟨Chg.refl _ _, Own.nil _ _ _ _, fun g h => by cases h⟩
theorem NS.step {w1 wk wb w2 : World} {v v' : Value} {l : List Nat} {x : Nat} {o : Obj} (h : NS w1 wk v l) (cb : Chg NoChg wk wb) (hown : Own numC 1 22 w2 v' (l ++ [x]))
    (hc : Chg (fun k => v.ownBlock = some k) (wb.alloc o) w2) (hv : v'.ownBlock = v.ownBlock ∨ v'.ownBlock = some (wb.heap.size + 1)) : NS w1 w2 v' (l ++ [x]) :=
  ⟨((h.chg.trans' cb).alloc o).trans hc (fun k hk => .inr (h.lt k hk)), hown, own_next (h.chg.trans' cb) h.lt hv⟩
theorem own_cellN {w : World} {v : Value} {l : List Nat} (h : Own numC 1 22 w v l) : ∃ a cap, v = .slice a l.length cap ∧ (0 < l.length → ∃ g o, a = some ⟨g, o, none⟩ ∧ ∀ (j : Nat) (hj : j < l.length), w.cell? ⟨g, o + j, none⟩ = some (.int .u64 (l[j] : Int))) := by
  obtain ⟨a, cap, rfl, hcap, -, hrow⟩ := Own.row (sz := 1) (cells := numC) (fun _ => rfl) h
  refine ⟨a, cap, rfl, fun hpos => ?_⟩
  obtain ⟨g, o, rfl, h0⟩ := hrow 0 hpos
  refine ⟨g, o, rfl, fun j hj => ?_⟩
  obtain ⟨g', o', he, hc⟩ := hrow j hj
  obtain ⟨rfl, rfl⟩ : g = g' ∧ o = o' := by simpa using he
  have := hc 0 (.int .u64 (l[j] : Int)) (by rfl)
  simpa using this

end Go.Proofs.YtofgajlpdnokdaaGreatDoor

/- packet.Parse. Conditions: at most 1000 bytes; the library's tables and errors are what it lays. -/
namespace Go.Proofs.YtofgajlpdnokdaaGreatDoor
set_option linter.unusedVariables false
open Go.Shelf Go.RowKit Go.Sort Go.Lib

/-- What ParseUint tells of a text. -/
def NumIs (x : ByteArray) (e : Ending) : Prop :=
  (∃ u : Nat, u < 18446744073709551616 ∧ Lib.parseUintB 64 x.data.toList = .ok u ∧ e = .returned (.tuple #[.int .u64 (u : Int), .nilIface])) ∨
  ((∀ u : Nat, Lib.parseUintB 64 x.data.toList ≠ .ok u) ∧ ∃ (m N : Nat), e = .returned (.tuple #[.int .u64 (m : Int), .iface 118 (.pointer (some ⟨N, 0, none⟩))]))

theorem chg_bytes (w : World) (t : TypeId) (s : ByteArray) : Chg NoChg w (Lib.bytesWorld w t s) :=
  ⟨rfl, rfl, rfl, by rw [Lib.bytesWorld_size]; omega, fun k hk _ => Lib.bytesWorld_at_old w t s k hk⟩

theorem parseU_any (x : ByteArray) (w : World) (hd : Door w) (hs : x.size ≤ 1000) : Calls Tryz.prog 39 #[.string x, .int .i64 10, .int .i64 64] w fun e w' => NumIs x e ∧ Chg NoChg w w' := by
  cases hp : Lib.parseUintB 64 x.data.toList with
  | ok u =>
    refine (Tryz.strconv_ParseUint_10_at64_ok x (by omega) u hp w).mono fun e w' h => ⟨.inl ⟨u, parse_lt hp, hp, h.1⟩, ?_⟩
    rcases h.2 with rfl | rfl
    · exact Chg.refl _ _
    · exact chg_bytes _ _ _
  | range =>
    obtain ⟨tp, p, hv⟩ := hd.rng
    exact (Tryz.strconv_ParseUint_10_at64_range_var x (by omega) hp tp p w hv).mono fun e w' ⟨N, he, _, _, hb⟩ => ⟨.inr ⟨fun u h => (by rw [hp] at h; cases h), 18446744073709551615, N, he⟩, Chg.ofBelow hb⟩
  | _ =>
    obtain ⟨tp, p, hv⟩ := hd.syn
    have h1 : ∀ u, Lib.parseUintB 64 x.data.toList ≠ .ok u := fun u h => (by rw [hp] at h; cases h)
    exact (Tryz.strconv_ParseUint_10_at64_bad_var x (by omega) h1 (fun h => by rw [hp] at h; cases h) tp p w hv).mono fun e w' ⟨N, he, _, _, hb⟩ => ⟨.inr ⟨h1, 0, N, he⟩, Chg.ofBelow hb⟩

theorem digits_dec (x : ByteArray) (u : Nat) (h : x.data.toList = Lib.decDigits u) : digitsB x = true := by
  unfold digitsB
  rw [h]
  have := dec_ne u
  simp only [Bool.and_eq_true, List.all_eq_true]
  refine ⟨fun b hb => ?_, by simpa using this⟩
  have := dec_digit u b hb
  simp [dig]
  omega

/-- strings.Split at a blank. -/
theorem split_any (s : ByteArray) (w : World) (hd : Door w) (hs : s.size ≤ 1000) : Calls Tryz.prog 21 #[.string s, .string ⟨#[32]⟩] w fun e w' => ∃ L : List ByteArray, L.map (fun b : ByteArray => b.data.toList) = pieces 32 s.data.toList ∧
    e = .returned (.slice (some ⟨w.heap.size, 0, none⟩) L.length L.length) ∧ w' = w.alloc (.cells (L.map Value.string).toArray 9) := by
  obtain ⟨m, hm⟩ := hd.ml
  refine (Tryz.strings_Split s ⟨#[32]⟩ m w (by omega) hm (by decide)).mono fun e w' ⟨h1, h2⟩ => ⟨_, splitB_pieces 32 s, ?_, h2⟩
  have hl : (Lib.splitB ⟨#[32]⟩ 0 (Lib.countB s ⟨#[32]⟩) s).length = Lib.countB s ⟨#[32]⟩ + 1 := Lib.splitB_all _ (by decide) _ _ _ rfl
  rw [hl]
  exact h1

/-- What holds of the numbers read so far. -/
def QInv (L : List ByteArray) (k a0 a1 a2 a3 : Nat) : Prop :=
  a0 < 18446744073709551616 ∧ a1 < 18446744073709551616 ∧ a2 < 18446744073709551616 ∧ a3 < 18446744073709551616 ∧
  (0 < k → L[0]?.map (fun x => Lib.parseUintB 64 x.data.toList) = some (.ok a0)) ∧ (1 < k → L[1]?.map (fun x => Lib.parseUintB 64 x.data.toList) = some (.ok a1)) ∧
  (2 < k → L[2]?.map (fun x => Lib.parseUintB 64 x.data.toList) = some (.ok a2)) ∧ (3 < k → L[3]?.map (fun x => Lib.parseUintB 64 x.data.toList) = some (.ok a3))
theorem QInv.start (L : List ByteArray) : QInv L 0 0 0 0 0 := ⟨by omega, by omega, by omega, by omega, fun h => by omega, fun h => by omega, fun h => by omega, fun h => by omega⟩
theorem QInv.s0 {L : List ByteArray} {a0 a1 a2 a3 u : Nat} (h : QInv L 0 a0 a1 a2 a3) (hu : u < 18446744073709551616) (hk : 0 < L.length) (hp : Lib.parseUintB 64 L[0].data.toList = .ok u) : QInv L 1 u a1 a2 a3 := by
  obtain ⟨h0, h1, h2, h3, p0, p1, p2, p3⟩ := h
  exact ⟨hu, h1, h2, h3, fun _ => by simp [hk, hp], fun h => by omega, fun h => by omega, fun h => by omega⟩
theorem QInv.s1 {L : List ByteArray} {a0 a1 a2 a3 u : Nat} (h : QInv L 1 a0 a1 a2 a3) (hu : u < 18446744073709551616) (hk : 1 < L.length) (hp : Lib.parseUintB 64 L[1].data.toList = .ok u) : QInv L 2 a0 u a2 a3 := by
  obtain ⟨h0, h1, h2, h3, p0, p1, p2, p3⟩ := h
  exact ⟨h0, hu, h2, h3, fun _ => p0 (by omega), fun _ => by simp [hk, hp], fun h => by omega, fun h => by omega⟩
theorem QInv.s2 {L : List ByteArray} {a0 a1 a2 a3 u : Nat} (h : QInv L 2 a0 a1 a2 a3) (hu : u < 18446744073709551616) (hk : 2 < L.length) (hp : Lib.parseUintB 64 L[2].data.toList = .ok u) : QInv L 3 a0 a1 u a3 := by
  obtain ⟨h0, h1, h2, h3, p0, p1, p2, p3⟩ := h
  exact ⟨h0, h1, hu, h3, fun _ => p0 (by omega), fun _ => p1 (by omega), fun _ => by simp [hk, hp], fun h => by omega⟩
theorem QInv.s3 {L : List ByteArray} {a0 a1 a2 a3 u : Nat} (h : QInv L 3 a0 a1 a2 a3) (hu : u < 18446744073709551616) (hk : 3 < L.length) (hp : Lib.parseUintB 64 L[3].data.toList = .ok u) : QInv L 4 a0 a1 a2 u := by
  obtain ⟨h0, h1, h2, h3, p0, p1, p2, p3⟩ := h
  exact ⟨h0, h1, h2, hu, fun _ => p0 (by omega), fun _ => p1 (by omega), fun _ => p2 (by omega), fun _ => by simp [hk, hp]⟩
theorem QInv.fin {l : List UInt8} {L : List ByteArray} {a0 a1 a2 a3 i c n t : Nat} (h : QInv L L.length a0 a1 a2 a3) (hL : L.map (fun b : ByteArray => b.data.toList) = pieces 32 l) (hp : IsPk l i c n t) : a0 = i ∧ a1 = c ∧ a2 = n ∧ a3 = t := by
  obtain ⟨e, hi, hc, hn, ht⟩ := hp
  rw [e, pkText_pieces] at hL
  have h4 : L.length = 4 := by simpa using congrArg List.length hL
  obtain ⟨x0, x1, x2, x3, rfl⟩ : ∃ x0 x1 x2 x3, L = [x0, x1, x2, x3] := by
    match L, h4 with
    | [x0, x1, x2, x3], _ => exact ⟨x0, x1, x2, x3, rfl⟩
  simp only [List.map_cons, List.map_nil, List.cons.injEq, and_true] at hL
  obtain ⟨q0, q1, q2, q3⟩ := hL
  obtain ⟨h0, h1, h2, h3, p0, p1, p2, p3⟩ := h
  have r0 := p0 (by simp)
  have r1 := p1 (by simp)
  have r2 := p2 (by simp)
  have r3 := p3 (by simp)
  simp only [List.getElem?_cons_zero, List.getElem?_cons_succ, Option.map_some, Option.some.injEq, q0, q1, q2, q3] at r0 r1 r2 r3
  rw [parse_dec _ (by omega)] at r0 r1 r2 r3
  simp only [Lib.NumEnd.ok.injEq] at r0 r1 r2 r3
  exact ⟨r0.symm, r1.symm, r2.symm, r3.symm⟩

/-- A word that ParseUint doesn't take, or that is no digits: no packet's text. -/
theorem NoPk.bad {l : List UInt8} {L : List ByteArray} (hL : L.map (fun b : ByteArray => b.data.toList) = pieces 32 l) (k : Nat) (hk : k < L.length) (h : ∀ u : Nat, u < 18446744073709551616 → L[k].data.toList ≠ Lib.decDigits u) : NoPk l := by
  by_cases h4 : k < 4
  · exact NoPk.word hL.symm k L[k].data.toList (by simp [hk]) h4 (fun u hu _ => h u hu)
  · refine NoPk.words ?_
    rw [← hL]
    simp
    omega
end Go.Proofs.YtofgajlpdnokdaaGreatDoor

/- packet.Parse, walked. Conditions: at most 1000 bytes; the library's tables and errors are what it lays. -/
namespace Go.Proofs.YtofgajlpdnokdaaGreatDoor
set_option linter.unusedVariables false
open Go.Shelf Go.RowKit Go.Sort Go.Lib

section
variable {w wr w' : World} {L : List ByteArray} {a0 a1 a2 a3 : Nat}
end

end Go.Proofs.YtofgajlpdnokdaaGreatDoor

