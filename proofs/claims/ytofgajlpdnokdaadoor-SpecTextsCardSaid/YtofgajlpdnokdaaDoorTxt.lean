/- Texts: a text cut at a byte, and its pieces joined; decimal digits read back. Plain lists of bytes, no program. -/
import Derived.Lib.SplitLaws
import Derived.Lib.Join
import Derived.Lib.ParseIntB
import Derived.Lib.ItoaNum
namespace Go.Proofs.YtofgajlpdnokdaaDoor
set_option linter.unusedVariables false

/-- A text, cut at each byte c. -/
def pieces (c : UInt8) : List UInt8 → List (List UInt8)
  | [] => [[]]
  | b :: l => if b = c then [] :: pieces c l else match pieces c l with
    | [] => [[b]]
    | p :: ps => (b :: p) :: ps

theorem pieces_ne (c : UInt8) : ∀ l, pieces c l ≠ []
  | [] => by simp [pieces]
  | b :: l => by
    unfold pieces
    split
    · simp
    · split <;> simp

theorem pieces_free (c : UInt8) : ∀ (w r : List UInt8), c ∉ w → pieces c (w ++ c :: r) = w :: pieces c r
  | [], r, _ => by simp [pieces]
  | b :: w, r, h => by
    have hb : b ≠ c := fun e => h (by simp [e])
    have hw : c ∉ w := fun e => h (by simp [e])
    rw [List.cons_append, pieces, if_neg hb, pieces_free c w r hw]

theorem pieces_one (c : UInt8) : ∀ (w : List UInt8), c ∉ w → pieces c w = [w]
  | [], _ => by simp [pieces]
  | b :: w, h => by
    have hb : b ≠ c := fun e => h (by simp [e])
    have hw : c ∉ w := fun e => h (by simp [e])
    rw [pieces, if_neg hb, pieces_one c w hw]

theorem join_cons2 (x y : List UInt8) (r : List (List UInt8)) (sep : List UInt8) : Lib.join (x :: y :: r) sep = x ++ sep ++ Lib.join (y :: r) sep := by
  rw [Lib.join_cons, Lib.join_cons]
  simp [Lib.joinTail]

theorem pieces_join (c : UInt8) : ∀ (ws : List (List UInt8)), ws ≠ [] → (∀ w ∈ ws, c ∉ w) → pieces c (Lib.join ws [c]) = ws
  | [], h, _ => absurd rfl h
  | [w], _, h => by rw [Lib.join_one, pieces_one c w (h w (by simp))]
  | w :: y :: r, _, h => by
    rw [join_cons2, List.append_assoc, List.singleton_append, pieces_free c w _ (h w (by simp)), pieces_join c (y :: r) (by simp) (fun x hx => h x (by simp at hx ⊢; exact .inr hx))]

theorem join_pieces (c : UInt8) : ∀ l, Lib.join (pieces c l) [c] = l
  | [] => by simp [pieces, Lib.join_one]
  | b :: l => by
    have ih := join_pieces c l
    rw [pieces]
    split
    · rename_i h
      subst h
      cases hp : pieces b l with
      | nil => exact absurd hp (pieces_ne b l)
      | cons p ps =>
        rw [hp] at ih
        rw [join_cons2, ih]
        simp
    · cases hp : pieces c l with
      | nil => exact absurd hp (pieces_ne c l)
      | cons p ps =>
        rw [hp] at ih
        cases ps with
        | nil => rw [Lib.join_one] at *; rw [← ih]
        | cons q qs =>
          rw [join_cons2] at *
          rw [← ih]
          simp

theorem pieces_mem (c : UInt8) : ∀ l, ∀ w ∈ pieces c l, c ∉ w
  | [], w, h => by
    simp [pieces] at h
    simp [h]
  | b :: l, w, h => by
    have ih := pieces_mem c l
    rw [pieces] at h
    split at h
    · rcases List.mem_cons.1 h with rfl | h
      · simp
      · exact ih w h
    · rename_i hb
      cases hp : pieces c l with
      | nil => exact absurd hp (pieces_ne c l)
      | cons p ps =>
        rw [hp] at h ih
        rcases List.mem_cons.1 h with rfl | h
        · have := ih p (by simp)
          simp [Ne.symm hb, this]
        · exact ih w (by simp [h])

theorem pieces_length (c : UInt8) : ∀ l, (pieces c l).length = l.count c + 1
  | [] => by simp [pieces]
  | b :: l => by
    have ih := pieces_length c l
    rw [pieces]
    split
    · rename_i h
      subst h
      simp [ih]
    · rename_i hb
      cases hp : pieces c l with
      | nil => exact absurd hp (pieces_ne c l)
      | cons p ps =>
        rw [hp] at ih
        rw [List.count_cons_of_ne (by simpa using hb)]
        simpa using ih

theorem piece_length (c : UInt8) : ∀ l, ∀ w ∈ pieces c l, w.length ≤ l.length
  | [], w, h => by
    simp [pieces] at h
    simp [h]
  | b :: l, w, h => by
    have ih := piece_length c l
    rw [pieces] at h
    split at h
    · rcases List.mem_cons.1 h with rfl | h
      · simp
      · have := ih w h
        simp
        omega
    · cases hp : pieces c l with
      | nil => exact absurd hp (pieces_ne c l)
      | cons p ps =>
        rw [hp] at h ih
        rcases List.mem_cons.1 h with rfl | h
        · have := ih p (by simp)
          simpa using this
        · have := ih w (by simp [h])
          simp
          omega

theorem splitK_pieces (c : UInt8) : ∀ (k : Nat) (l : List UInt8), l.count c = k → Lib.splitK [c] 0 k l = pieces c l
  | 0, l, h => by
    rw [Lib.splitK, pieces_one c l (List.count_eq_zero.1 h)]
  | k + 1, l, h => by
    have hm : c ∈ l := List.count_pos_iff.1 (by omega)
    rw [Lib.splitK]
    rcases Lib.index_spec l [c] with ⟨hi, hno⟩ | ⟨i, hi, hle, hocc, hno⟩
    · exfalso
      obtain ⟨j, hj, hjc⟩ := List.mem_iff_getElem.1 hm
      have := hno j (by omega)
      simp [Lib.occAt, List.drop_eq_getElem_cons hj, hjc] at this
    · have hlt : i < l.length := by
        rcases Nat.lt_or_ge i l.length with h | h
        · exact h
        · rw [Lib.occAt, List.drop_of_length_le h] at hocc
          simp at hocc
      have hic : l[i] = c := by
        rw [Lib.occAt, List.drop_eq_getElem_cons hlt, List.isPrefixOf] at hocc
        simp only [Bool.and_eq_true, beq_iff_eq] at hocc
        exact hocc.1.symm
      have hfree : c ∉ l.take i := by
        intro hc
        obtain ⟨j, hj, hjc⟩ := List.mem_iff_getElem.1 hc
        have hj' : j < i := by simp at hj; omega
        have := hno j hj'
        rw [Lib.occAt, List.drop_eq_getElem_cons (by omega)] at this
        rw [List.getElem_take] at hjc
        simp [hjc] at this
      have e : l = l.take i ++ c :: l.drop (i + 1) := by
        conv => lhs; rw [← List.take_append_drop i l, List.drop_eq_getElem_cons hlt, hic]
      rw [hi, if_neg (by simp)]
      simp only [Int.toNat_natCast, Nat.add_zero, List.length_singleton]
      have hcnt : (l.drop (i + 1)).count c = k := by
        have := congrArg (List.count c) e
        rw [List.count_append, List.count_eq_zero.2 hfree, List.count_cons_self] at this
        omega
      rw [splitK_pieces c k _ hcnt]
      conv => rhs; rw [e]
      rw [pieces_free c _ _ hfree]

/-- What strings.Split tells, of one byte. -/
theorem splitB_pieces (c : UInt8) (s : ByteArray) : (Lib.splitB ⟨#[c]⟩ 0 (Lib.countB s ⟨#[c]⟩) s).map (·.data.toList) = pieces c s.data.toList := by
  rw [Lib.splitB_data]
  have : Lib.countB s ⟨#[c]⟩ = s.data.toList.count c := by
    unfold Lib.countB
    exact Lib.count_one c s.data.toList
  rw [this]
  exact splitK_pieces c _ _ rfl

/-! ### Decimal digits -/

theorem dec_ind {P : Nat → Prop} (h1 : ∀ u, u < 10 → P u) (h2 : ∀ u, ¬ u < 10 → P (u / 10) → P u) : ∀ u, P u := by
  intro u
  induction u using Nat.strongRecOn with
  | _ u ih =>
    by_cases h : u < 10
    · exact h1 u h
    · exact h2 u h (ih _ (by omega))

theorem dec_small {u : Nat} (h : u < 10) : Lib.decDigits u = [UInt8.ofNat (48 + u)] := by rw [Lib.decDigits, dif_pos h]
theorem dec_big {u : Nat} (h : ¬ u < 10) : Lib.decDigits u = Lib.decDigits (u / 10) ++ [UInt8.ofNat (48 + u % 10)] := by rw [Lib.decDigits, dif_neg h]

theorem dec_digit (u : Nat) : ∀ b ∈ Lib.decDigits u, 48 ≤ b.toNat ∧ b.toNat ≤ 57 := by
  induction u using dec_ind with
  | h1 u h =>
    intro b hb
    rw [dec_small h] at hb
    simp at hb
    subst hb
    simp [UInt8.toNat_ofNat']
    omega
  | h2 u h ih =>
    intro b hb
    rw [dec_big h] at hb
    rcases List.mem_append.1 hb with hb | hb
    · exact ih b hb
    · simp at hb
      subst hb
      simp [UInt8.toNat_ofNat']
      omega

theorem dec_ne (u : Nat) : Lib.decDigits u ≠ [] := by
  by_cases h : u < 10
  · rw [dec_small h]; simp
  · rw [dec_big h]; simp

theorem dec_free (u : Nat) (c : UInt8) (h : c.toNat < 48) : c ∉ Lib.decDigits u := fun hc => by
  have := dec_digit u c hc
  omega

/-- The number that digits spell, the number before them acc. -/
def spell (acc : Nat) (l : List UInt8) : Nat := l.foldl (fun a c => a * 10 + (c.toNat - 48)) acc
theorem spell_cons (acc : Nat) (c : UInt8) (r : List UInt8) : spell acc (c :: r) = spell (acc * 10 + (c.toNat - 48)) r := by unfold spell; rw [List.foldl_cons]

theorem spell_append (l : List UInt8) : ∀ (acc : Nat) (b : UInt8), spell acc (l ++ [b]) = spell acc l * 10 + (b.toNat - 48) := by
  intro acc b
  unfold spell
  rw [List.foldl_append, List.foldl_cons, List.foldl_nil]

theorem spell_dec (u : Nat) : spell 0 (Lib.decDigits u) = u := by
  induction u using dec_ind with
  | h1 u h =>
    rw [dec_small h]
    simp [spell, UInt8.toNat_ofNat']
    omega
  | h2 u h ih =>
    rw [dec_big h, spell_append, ih]
    simp [UInt8.toNat_ofNat']
    omega

theorem dec_inj {u v : Nat} (h : Lib.decDigits u = Lib.decDigits v) : u = v := by
  rw [← spell_dec u, h, spell_dec]

theorem spell_ge (l : List UInt8) : ∀ acc, acc ≤ spell acc l := by
  induction l with
  | nil => intro acc; exact Nat.le_refl _
  | cons c r ih =>
    intro acc
    have := ih (acc * 10 + (c.toNat - 48))
    rw [spell_cons]
    omega

theorem parseM_spell (l : List UInt8) : ∀ acc, (∀ b ∈ l, 48 ≤ b.toNat ∧ b.toNat ≤ 57) → spell acc l < 18446744073709551616 → Lib.parseUintM (2 ^ 64 - 1) acc l = .ok (spell acc l) := by
  induction l with
  | nil => intro acc _ _; rfl
  | cons c r ih =>
    intro acc hd hlt
    have hc := hd c (by simp)
    have h1 := spell_ge r (acc * 10 + (c.toNat - 48))
    rw [spell_cons] at hlt
    rw [Lib.parseUintM, if_pos hc, if_neg (by omega), if_neg (by omega), spell_cons]
    exact ih _ (fun b hb => hd b (by simp [hb])) hlt

theorem parse_dec (u : Nat) (h : u < 18446744073709551616) : Lib.parseUintB 64 (Lib.decDigits u) = .ok u := by
  rw [Lib.parseUintB, if_neg (dec_ne u), parseM_spell _ 0 (dec_digit u) (by rw [spell_dec]; exact h), spell_dec]

theorem parseM_lt (l : List UInt8) : ∀ acc u, acc < 18446744073709551616 → Lib.parseUintM (2 ^ 64 - 1) acc l = .ok u → u < 18446744073709551616 := by
  induction l with
  | nil =>
    intro acc u ha h
    simp only [Lib.parseUintM, Lib.NumEnd.ok.injEq] at h
    omega
  | cons c r ih =>
    intro acc u ha h
    rw [Lib.parseUintM] at h
    split at h
    · split at h
      · cases h
      · split at h
        · cases h
        · exact ih _ u (by omega) h
    · cases h

theorem parse_lt {l : List UInt8} {u : Nat} (h : Lib.parseUintB 64 l = .ok u) : u < 18446744073709551616 := by
  unfold Lib.parseUintB at h
  split at h
  · cases h
  · exact parseM_lt l 0 u (by omega) h

theorem dec_length (u : Nat) (hu : u < 18446744073709551616) : (Lib.decDigits u).length ≤ 20 := by
  rw [Lib.decDigits_length]
  by_cases h0 : u = 0
  · rw [h0, Lib.nDigits_small (by omega)]; omega
  · have := Lib.numDigits_eq u (by omega) hu; split at this <;> omega

/-! ### A packet's text -/

def pkText (i c n t : Nat) : List UInt8 := Lib.join [Lib.decDigits i, Lib.decDigits c, Lib.decDigits n, Lib.decDigits t] [32]

theorem pkText_pieces (i c n t : Nat) : pieces 32 (pkText i c n t) = [Lib.decDigits i, Lib.decDigits c, Lib.decDigits n, Lib.decDigits t] :=
  pieces_join 32 _ (by simp) (by
    intro w hw
    simp at hw
    rcases hw with rfl | rfl | rfl | rfl <;> exact dec_free _ _ (by decide))

theorem pkText_inj {i c n t i' c' n' t' : Nat} (h : pkText i c n t = pkText i' c' n' t') : i = i' ∧ c = c' ∧ n = n' ∧ t = t' := by
  have e := congrArg (pieces 32) h
  rw [pkText_pieces, pkText_pieces] at e
  simp only [List.cons.injEq, and_true] at e
  exact ⟨dec_inj e.1, dec_inj e.2.1, dec_inj e.2.2.1, dec_inj e.2.2.2⟩

/-- These bytes are just the text of a packet with these numbers. -/
def IsPk (l : List UInt8) (i c n t : Nat) : Prop := l = pkText i c n t ∧ i < 18446744073709551616 ∧ c < 9223372036854775808 ∧ n < 9223372036854775808 ∧ t < 18446744073709551616
/-- These bytes are no packet's text. -/
def NoPk (l : List UInt8) : Prop := ∀ i c n t, ¬ IsPk l i c n t

theorem pkText_length {i c n t : Nat} (hi : i < 18446744073709551616) (hc : c < 18446744073709551616) (hn : n < 18446744073709551616) (ht : t < 18446744073709551616) : (pkText i c n t).length ≤ 83 := by
  have := dec_length i hi
  have := dec_length c hc
  have := dec_length n hn
  have := dec_length t ht
  simp [pkText, Lib.join_cons, Lib.joinTail]
  omega
end Go.Proofs.YtofgajlpdnokdaaDoor
