/- Texts of curves and specs. Plain lists of bytes, no program. -/
import Derived.Test.YtofgajlpdnokdaaDoorTxt
import Derived.Test.YtofgajlpdnokdaaDoorSpc
namespace Go.Proofs.YtofgajlpdnokdaaDoor
set_option linter.unusedVariables false

/-- A curve's word. -/
def cw (c : Crv) : List UInt8 := Lib.join [Lib.decDigits c.f, Lib.decDigits c.l, Lib.decDigits c.r] [47]
theorem cw_pieces (c : Crv) : pieces 47 (cw c) = [Lib.decDigits c.f, Lib.decDigits c.l, Lib.decDigits c.r] :=
  pieces_join 47 _ (by simp) (by
    intro w hw
    simp at hw
    rcases hw with rfl | rfl | rfl <;> exact dec_free _ _ (by decide))
theorem cw_inj {c d : Crv} (h : cw c = cw d) : c = d := by
  have e := congrArg (pieces 47) h
  rw [cw_pieces, cw_pieces] at e
  simp only [List.cons.injEq, and_true] at e
  obtain ⟨f, l, r⟩ := c
  obtain ⟨f', l', r'⟩ := d
  simp only [Crv.mk.injEq]
  exact ⟨dec_inj e.1, dec_inj e.2.1, dec_inj e.2.2⟩
theorem cw_free (c : Crv) : (32 : UInt8) ∉ cw c := by
  intro h
  simp only [cw, Lib.join_cons, Lib.joinTail, List.map_cons, List.map_nil, List.flatten_cons, List.flatten_nil, List.append_nil, List.mem_append, List.mem_cons, List.not_mem_nil, or_false] at h
  have d := fun u => dec_free u 32 (by decide)
  rcases h with h | (h | h) | h | h
  · exact d _ h
  · revert h; decide
  · exact d _ h
  · revert h; decide
  · exact d _ h

def Crv.fits (c : Crv) : Prop := c.f < 18446744073709551616 ∧ c.l < 18446744073709551616 ∧ c.r < 18446744073709551616
/-- These bytes are just a curve's word. -/
def IsCw (l : List UInt8) (c : Crv) : Prop := l = cw c ∧ c.fits
theorem IsCw.inj {l : List UInt8} {c d : Crv} (h : IsCw l c) (h' : IsCw l d) : c = d := cw_inj (h.1.symm.trans h'.1)
theorem NoCw.words {l : List UInt8} (h : (pieces 47 l).length ≠ 3) : ∀ c, ¬ IsCw l c := by
  intro c hp
  rw [hp.1, cw_pieces] at h
  exact h rfl
theorem NoCw.word {l : List UInt8} {ws : List (List UInt8)} (hw : pieces 47 l = ws) (k : Nat) (x : List UInt8) (hx : ws[k]? = some x) (h : ∀ u : Nat, u < 18446744073709551616 → x ≠ Lib.decDigits u) : ∀ c, ¬ IsCw l c := by
  intro c ⟨e, h0, h1, h2⟩
  rw [e, cw_pieces] at hw
  subst hw
  match k with
  | 0 => exact h c.f h0 (by simpa using hx.symm)
  | 1 => exact h c.l h1 (by simpa using hx.symm)
  | 2 => exact h c.r h2 (by simpa using hx.symm)
  | k + 3 => simp at hx
theorem IsCw.mk {l : List UInt8} {c : Crv} (hw : pieces 47 l = [Lib.decDigits c.f, Lib.decDigits c.l, Lib.decDigits c.r]) (h : c.fits) : IsCw l c := by
  refine ⟨?_, h⟩
  rw [← join_pieces 47 l, hw]
  rfl
theorem cw_length {c : Crv} (h : c.fits) : (cw c).length ≤ 62 := by
  have := dec_length c.f h.1
  have := dec_length c.l h.2.1
  have := dec_length c.r h.2.2
  simp [cw, Lib.join_cons, Lib.joinTail]
  omega

def kindW (b : Bool) : List UInt8 := if b then [108, 101, 97, 102] else [105, 110, 110, 101, 114]
theorem kind_free (b : Bool) : (32 : UInt8) ∉ kindW b := by cases b <;> decide
theorem kind_inj {a b : Bool} (h : kindW a = kindW b) : a = b := by revert h; cases a <;> cases b <;> decide

/-- A spec's words. -/
def sWords (s : Spc) : List (List UInt8) := [kindW s.leaf, Lib.decDigits s.id.toNat, Lib.decDigits s.par.toNat, cw s.real, cw s.share, cw s.upper, Lib.decDigits s.pk.toNat, Lib.decDigits s.bt.toNat]
def sText (s : Spc) : List UInt8 := Lib.join (sWords s) [32]
theorem sText_pieces (s : Spc) : pieces 32 (sText s) = sWords s :=
  pieces_join 32 _ (by simp [sWords]) (by
    intro w hw
    simp only [sWords, List.mem_cons, List.not_mem_nil, or_false] at hw
    rcases hw with rfl | rfl | rfl | rfl | rfl | rfl | rfl | rfl
    · exact kind_free _
    · exact dec_free _ _ (by decide)
    · exact dec_free _ _ (by decide)
    · exact cw_free _
    · exact cw_free _
    · exact cw_free _
    · exact dec_free _ _ (by decide)
    · exact dec_free _ _ (by decide))

/-- The numbers of a spec that has a text. -/
def Spc.nums (s : Spc) : Prop := 0 ≤ s.id ∧ 0 ≤ s.par ∧ 0 ≤ s.pk ∧ 0 ≤ s.bt
def Spc.fits (s : Spc) : Prop := s.id ≤ 9223372036854775807 ∧ s.par ≤ 9223372036854775807 ∧ s.pk ≤ 9223372036854775807 ∧ s.bt ≤ 9223372036854775807 ∧ s.real.fits ∧ s.share.fits ∧ s.upper.fits
/-- These bytes are just a spec's text. -/
def IsSp (l : List UInt8) (s : Spc) : Prop := l = sText s ∧ s.nums ∧ s.fits

theorem IsSp.inj {l : List UInt8} {s t : Spc} (h : IsSp l s) (h' : IsSp l t) : s = t := by
  obtain ⟨e, ⟨a1, a2, a3, a4⟩, _⟩ := h
  obtain ⟨e', ⟨b1, b2, b3, b4⟩, _⟩ := h'
  have q := congrArg (pieces 32) (e.symm.trans e')
  rw [sText_pieces, sText_pieces] at q
  simp only [sWords, List.cons.injEq, and_true] at q
  obtain ⟨q0, q1, q2, q3, q4, q5, q6, q7⟩ := q
  obtain ⟨i, p, b, r, sh, u, k, t'⟩ := s
  obtain ⟨i', p', b', r', sh', u', k', t''⟩ := t
  have := dec_inj q1
  have := dec_inj q2
  have := dec_inj q6
  have := dec_inj q7
  dsimp only at *
  simp only [Spc.mk.injEq]
  exact ⟨by omega, by omega, kind_inj q0, cw_inj q3, cw_inj q4, cw_inj q5, by omega, by omega⟩

theorem NoSp.words {l : List UInt8} (h : (pieces 32 l).length ≠ 8) : ∀ s, ¬ IsSp l s := by
  intro c hp
  rw [hp.1, sText_pieces] at h
  exact h rfl
theorem IsSp.words {l : List UInt8} {s : Spc} (h : IsSp l s) : pieces 32 l = sWords s := by rw [h.1, sText_pieces]
theorem IsSp.mk {l : List UInt8} {s : Spc} (hw : pieces 32 l = sWords s) (h : s.nums) (h' : s.fits) : IsSp l s := by
  refine ⟨?_, h, h'⟩
  rw [← join_pieces 32 l, hw]
  rfl
theorem sText_length {s : Spc} (h : s.nums) (h' : s.fits) : (sText s).length ≤ 300 := by
  obtain ⟨h0, h1, h2, h3⟩ := h
  obtain ⟨g0, g1, g2, g3, g4, g5, g6⟩ := h'
  have := dec_length s.id.toNat (by omega)
  have := dec_length s.par.toNat (by omega)
  have := dec_length s.pk.toNat (by omega)
  have := dec_length s.bt.toNat (by omega)
  have := cw_length g4
  have := cw_length g5
  have := cw_length g6
  have hk : (kindW s.leaf).length ≤ 5 := by cases s.leaf <;> decide
  simp [sText, sWords, Lib.join_cons, Lib.joinTail]
  omega
end Go.Proofs.YtofgajlpdnokdaaDoor
