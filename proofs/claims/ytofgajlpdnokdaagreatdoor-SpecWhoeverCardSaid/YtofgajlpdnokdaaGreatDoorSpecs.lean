/- Specs, as one text: Spc STxt SMap. -/
import Derived.Test.YtofgajlpdnokdaaGreatDoorBase
import Derived.Test.YtofgajlpdnokdaaGreatDoorWords
import Derived.Maps.RangeWalk
import Derived.Maps.Views
/- Curves and specs as records of numbers. -/
namespace Go.Proofs.YtofgajlpdnokdaaGreatDoor
set_option linter.unusedVariables false
open Go.RowKit

structure Crv where
  f : Nat
  l : Nat
  r : Nat
def Crv.cells (c : Crv) : List Value := [.int .u64 (c.f : Int), .int .u64 (c.l : Int), .int .u64 (c.r : Int)]
theorem Crv.cells_length (c : Crv) : c.cells.length = 3 := rfl
def Crv.zero : Crv := ⟨0, 0, 0⟩

structure Spc where
  id : Int
  par : Int
  leaf : Bool
  real : Crv
  share : Crv
  upper : Crv
  pk : Int
  bt : Int

end Go.Proofs.YtofgajlpdnokdaaGreatDoor

/- Texts of curves and specs. Plain lists of bytes, no program. -/
namespace Go.Proofs.YtofgajlpdnokdaaGreatDoor
set_option linter.unusedVariables false

/-- A curve's word. -/
def cw (c : Crv) : List UInt8 := Lib.join [Lib.decDigits c.f, Lib.decDigits c.l, Lib.decDigits c.r] [47]
theorem cw_pieces (c : Crv) : pieces 47 (cw c) = [Lib.decDigits c.f, Lib.decDigits c.l, Lib.decDigits c.r] :=
  pieces_join 47 _ (by simp) (by
    intro w hw
    simp at hw
    rcases hw with rfl | rfl | rfl <;> exact dec_free _ _ (by decide))
theorem cw_inj {c d : Crv} (h : cw c = cw d) : c = d := by
  have e := congrArg (pieces 47) h
  rw [cw_pieces, cw_pieces] at e
  simp only [List.cons.injEq, and_true] at e
  obtain ⟨f, l, r⟩ := c
  obtain ⟨f', l', r'⟩ := d
  simp only [Crv.mk.injEq]
  exact ⟨dec_inj e.1, dec_inj e.2.1, dec_inj e.2.2⟩
theorem cw_free (c : Crv) : (32 : UInt8) ∉ cw c := by
  intro h
  simp only [cw, Lib.join_cons, Lib.joinTail, List.map_cons, List.map_nil, List.flatten_cons, List.flatten_nil, List.append_nil, List.mem_append, List.mem_cons, List.not_mem_nil, or_false] at h
  have d := fun u => dec_free u 32 (by decide)
  rcases h with h | (h | h) | h | h
  · exact d _ h
  · revert h; decide
  · exact d _ h
  · revert h; decide
  · exact d _ h

def Crv.fits (c : Crv) : Prop := c.f < 18446744073709551616 ∧ c.l < 18446744073709551616 ∧ c.r < 18446744073709551616
/-- These bytes are just a curve's word. -/
def IsCw (l : List UInt8) (c : Crv) : Prop := l = cw c ∧ c.fits
theorem IsCw.inj {l : List UInt8} {c d : Crv} (h : IsCw l c) (h' : IsCw l d) : c = d := cw_inj (h.1.symm.trans h'.1)
theorem NoCw.words {l : List UInt8} (h : (pieces 47 l).length ≠ 3) : ∀ c, ¬ IsCw l c := by
  intro c hp
  rw [hp.1, cw_pieces] at h
  exact h rfl
theorem NoCw.word {l : List UInt8} {ws : List (List UInt8)} (hw : pieces 47 l = ws) (k : Nat) (x : List UInt8) (hx : ws[k]? = some x) (h : ∀ u : Nat, u < 18446744073709551616 → x ≠ Lib.decDigits u) : ∀ c, ¬ IsCw l c := by
  intro c ⟨e, h0, h1, h2⟩
  rw [e, cw_pieces] at hw
  subst hw
  match k with
  | 0 => exact h c.f h0 (by simpa using hx.symm)
  | 1 => exact h c.l h1 (by simpa using hx.symm)
  | 2 => exact h c.r h2 (by simpa using hx.symm)
  | k + 3 => simp at hx
theorem IsCw.mk {l : List UInt8} {c : Crv} (hw : pieces 47 l = [Lib.decDigits c.f, Lib.decDigits c.l, Lib.decDigits c.r]) (h : c.fits) : IsCw l c := by
  refine ⟨?_, h⟩
  rw [← join_pieces 47 l, hw]
  rfl
theorem cw_length {c : Crv} (h : c.fits) : (cw c).length ≤ 62 := by
  have := dec_length c.f h.1
  have := dec_length c.l h.2.1
  have := dec_length c.r h.2.2
  simp [cw, Lib.join_cons, Lib.joinTail]
  omega

def kindW (b : Bool) : List UInt8 := if b then [108, 101, 97, 102] else [105, 110, 110, 101, 114]
theorem kind_free (b : Bool) : (32 : UInt8) ∉ kindW b := by cases b <;> decide
theorem kind_inj {a b : Bool} (h : kindW a = kindW b) : a = b := by revert h; cases a <;> cases b <;> decide

/-- A spec's words. -/
def sWords (s : Spc) : List (List UInt8) := [kindW s.leaf, Lib.decDigits s.id.toNat, Lib.decDigits s.par.toNat, cw s.real, cw s.share, cw s.upper, Lib.decDigits s.pk.toNat, Lib.decDigits s.bt.toNat]
def sText (s : Spc) : List UInt8 := Lib.join (sWords s) [32]
theorem sText_pieces (s : Spc) : pieces 32 (sText s) = sWords s :=
  pieces_join 32 _ (by simp [sWords]) (by
    intro w hw
    simp only [sWords, List.mem_cons, List.not_mem_nil, or_false] at hw
    rcases hw with rfl | rfl | rfl | rfl | rfl | rfl | rfl | rfl
    · exact kind_free _
    · exact dec_free _ _ (by decide)
    · exact dec_free _ _ (by decide)
    · exact cw_free _
    · exact cw_free _
    · exact cw_free _
    · exact dec_free _ _ (by decide)
    · exact dec_free _ _ (by decide))

/-- The numbers of a spec that has a text. -/
def Spc.nums (s : Spc) : Prop := 0 ≤ s.id ∧ 0 ≤ s.par ∧ 0 ≤ s.pk ∧ 0 ≤ s.bt
def Spc.fits (s : Spc) : Prop := s.id ≤ 9223372036854775807 ∧ s.par ≤ 9223372036854775807 ∧ s.pk ≤ 9223372036854775807 ∧ s.bt ≤ 9223372036854775807 ∧ s.real.fits ∧ s.share.fits ∧ s.upper.fits
/-- These bytes are just a spec's text. -/
def IsSp (l : List UInt8) (s : Spc) : Prop := l = sText s ∧ s.nums ∧ s.fits

theorem IsSp.inj {l : List UInt8} {s t : Spc} (h : IsSp l s) (h' : IsSp l t) : s = t := by
  obtain ⟨e, ⟨a1, a2, a3, a4⟩, _⟩ := h
  obtain ⟨e', ⟨b1, b2, b3, b4⟩, _⟩ := h'
  have q := congrArg (pieces 32) (e.symm.trans e')
  rw [sText_pieces, sText_pieces] at q
  simp only [sWords, List.cons.injEq, and_true] at q
  obtain ⟨q0, q1, q2, q3, q4, q5, q6, q7⟩ := q
  obtain ⟨i, p, b, r, sh, u, k, t'⟩ := s
  obtain ⟨i', p', b', r', sh', u', k', t''⟩ := t
  have := dec_inj q1
  have := dec_inj q2
  have := dec_inj q6
  have := dec_inj q7
  dsimp only at *
  simp only [Spc.mk.injEq]
  exact ⟨by omega, by omega, kind_inj q0, cw_inj q3, cw_inj q4, cw_inj q5, by omega, by omega⟩

theorem NoSp.words {l : List UInt8} (h : (pieces 32 l).length ≠ 8) : ∀ s, ¬ IsSp l s := by
  intro c hp
  rw [hp.1, sText_pieces] at h
  exact h rfl
theorem IsSp.words {l : List UInt8} {s : Spc} (h : IsSp l s) : pieces 32 l = sWords s := by rw [h.1, sText_pieces]
theorem IsSp.mk {l : List UInt8} {s : Spc} (hw : pieces 32 l = sWords s) (h : s.nums) (h' : s.fits) : IsSp l s := by
  refine ⟨?_, h, h'⟩
  rw [← join_pieces 32 l, hw]
  rfl
theorem sText_length {s : Spc} (h : s.nums) (h' : s.fits) : (sText s).length ≤ 300 := by
  obtain ⟨h0, h1, h2, h3⟩ := h
  obtain ⟨g0, g1, g2, g3, g4, g5, g6⟩ := h'
  have := dec_length s.id.toNat (by omega)
  have := dec_length s.par.toNat (by omega)
  have := dec_length s.pk.toNat (by omega)
  have := dec_length s.bt.toNat (by omega)
  have := cw_length g4
  have := cw_length g5
  have := cw_length g6
  have hk : (kindW s.leaf).length ≤ 5 := by cases s.leaf <;> decide
  simp [sText, sWords, Lib.join_cons, Lib.joinTail]
  omega
end Go.Proofs.YtofgajlpdnokdaaGreatDoor

/- A map of four numbers to the fields of a record, and how it is gone over. Plain: the map's laws at one shape. -/
namespace Go.Proofs.YtofgajlpdnokdaaGreatDoor
set_option linter.unusedVariables false
open Go.RowKit Go.Maps

/-- What a pointer into block b reads as: which cell. -/
def ptrR (b : Nat) (v : Value) : Option (DataW Unit × List MemPlace) :=
  match v with
  | .pointer (some ⟨b', o, none⟩) => if b' = b then some (.lit (.int .i64 (o : Int)), []) else none
  | _ => none
theorem ptrR_mk (b o : Nat) : ptrR b (.pointer (some ⟨b, o, none⟩)) = some (.lit (.int .i64 (o : Int)), []) := by simp [ptrR]
theorem ptrR_inv {b : Nat} {v : Value} {y : DataW Unit × List MemPlace} (h : ptrR b v = some y) : ∃ o : Nat, v = .pointer (some ⟨b, o, none⟩) ∧ y = (.lit (.int .i64 (o : Int)), []) := by
  unfold ptrR at h
  split at h
  · rename_i b' o
    split at h
    · rename_i hb
      subst hb
      simp only [Option.some.injEq] at h
      exact ⟨o, rfl, h.symm⟩
    · cases h
  · cases h

theorem keyI : Keyed Tryz.prog 3 := int_keyed Tryz.underlying3
theorem keyI_of (n : Int) (h : (Lit.int .i64 n).wf = true) : keyOf Tryz.prog 3 (.int .i64 n) = some (.int .i64 n) := keyOf_int_mk Tryz.underlying3 h

/-- The map of the four. -/
noncomputable def D4 : DataW Unit := ((((DataW.map []).put (.int .i64 1) (.lit (.int .i64 0))).put (.int .i64 2) (.lit (.int .i64 1))).put (.int .i64 6) (.lit (.int .i64 12))).put (.int .i64 7) (.lit (.int .i64 13))
theorem lit_ne {a b : Int} (h : a ≠ b) : (Lit.int .i64 a) ≠ .int .i64 b := fun e => h (by cases e; rfl)
theorem has4 {x : Int} (h : Maps.has D4 (.int .i64 x) = true) : x = 1 ∨ x = 2 ∨ x = 6 ∨ x = 7 := by
  by_cases h7 : x = 7
  · exact .inr (.inr (.inr h7))
  · by_cases h6 : x = 6
    · exact .inr (.inr (.inl h6))
    · by_cases h2 : x = 2
      · exact .inr (.inl h2)
      · by_cases h1 : x = 1
        · exact .inl h1
        · exfalso
          unfold D4 at h
          rw [has_put_other (lit_ne h7), has_put_other (lit_ne h6), has_put_other (lit_ne h2), has_put_other (lit_ne h1)] at h
          cases h

/-- From making the map to going over it. -/
theorem map4 (w : World) (b m : Nat) (hm : w.heap.size = m) : ∃ (w1 w2 w3 w4 w5 : World) (r : Nat),
    (Instr.mapUpdate 53 (.map (some m)) (.int .i64 1) (.pointer (some ⟨b, 0, none⟩))).run Tryz.prog (w.alloc (.map #[] 0)) = .ok () w1 ∧
    (Instr.mapUpdate 53 (.map (some m)) (.int .i64 2) (.pointer (some ⟨b, 1, none⟩))).run Tryz.prog w1 = .ok () w2 ∧
    (Instr.mapUpdate 53 (.map (some m)) (.int .i64 6) (.pointer (some ⟨b, 12, none⟩))).run Tryz.prog w2 = .ok () w3 ∧
    (Instr.mapUpdate 53 (.map (some m)) (.int .i64 7) (.pointer (some ⟨b, 13, none⟩))).run Tryz.prog w3 = .ok () w4 ∧
    (Instr.range 53 (.map (some m))).run Tryz.prog w4 = .ok (.pointer (some ⟨r, 0, none⟩)) w5 ∧
    w5.ranges Tryz.prog 3 (ptrR b) m r 4 D4 (Maps.has D4) (Maps.size D4) ∧ Chg NoChg w w5 ∧ m < r := by
  subst hm
  have h0 := World.ownsMap_made (H := Unit) w Tryz.prog 3 (ptrR b)
  obtain ⟨w1, r1, h1, g1⟩ := h0.update keyI Tryz.underlying53 (by unfold maxLen; omega) (keyI_of 1 (by decide)) (ptrR_mk b 0)
  obtain ⟨w2, r2, h2, g2⟩ := h1.update keyI Tryz.underlying53 (by unfold maxLen; omega) (keyI_of 2 (by decide)) (ptrR_mk b 1)
  obtain ⟨w3, r3, h3, g3⟩ := h2.update keyI Tryz.underlying53 (by unfold maxLen; omega) (keyI_of 6 (by decide)) (ptrR_mk b 12)
  obtain ⟨w4, r4, h4, g4⟩ := h3.update keyI Tryz.underlying53 (by unfold maxLen; omega) (keyI_of 7 (by decide)) (ptrR_mk b 13)
  obtain ⟨w5, r5, h5, g5, s5⟩ := h4.range keyI Tryz.underlying53
  have c1 : Chg NoChg w w1 := ((Chg.refl NoChg w).alloc (.map #[] 0)).grown g1 (fun k hk => by simp at hk; exact .inr (by omega))
  have c2 := c1.grown g2 (fun k hk => by simp at hk; exact .inr (by omega))
  have c3 := c2.grown g3 (fun k hk => by simp at hk; exact .inr (by omega))
  have c4 := c3.grown g4 (fun k hk => by simp at hk; exact .inr (by omega))
  have c5 := c4.grown g5 (fun k hk => by cases hk)
  have z := h4.lt
  exact ⟨w1, w2, w3, w4, w5, w4.heap.size, r1, r2, r3, r4, r5, h5, c5, z⟩

theorem size4 : Maps.size D4 = 4 := by rfl
theorem at4_1 {y : DataW Unit} (h : ∀ z, D4.atKey (.int .i64 1) z = y) : y = .lit (.int .i64 0) := (h .nil).symm.trans rfl
theorem at4_2 {y : DataW Unit} (h : ∀ z, D4.atKey (.int .i64 2) z = y) : y = .lit (.int .i64 1) := (h .nil).symm.trans rfl
theorem at4_6 {y : DataW Unit} (h : ∀ z, D4.atKey (.int .i64 6) z = y) : y = .lit (.int .i64 12) := (h .nil).symm.trans rfl
theorem at4_7 {y : DataW Unit} (h : ∀ z, D4.atKey (.int .i64 7) z = y) : y = .lit (.int .i64 13) := (h .nil).symm.trans rfl

/-- A step that leaves both blocks leaves what is gone over. -/
theorem ranges_chg {P : Program} {k : TypeId} {R : Value → Option (DataW Unit × List MemPlace)} {b r n cnt : Nat} {D : DataW Unit} {left : Lit → Bool} {S : Nat → Prop} {w w' : World} (h : w.ranges P k R b r n D left cnt) (c : Chg S w w') (hb : ¬ S b) (hr : ¬ S r) : w'.ranges P k R b r n D left cnt := by
  have h1 := h.owns.lt
  have h2 := h.lt
  obtain ⟨es, clock, since, seen, c0, a1, a2, a3, a4, a5, a6⟩ := h
  exact ⟨es, clock, since, seen, c0, (c.block b h1 hb).trans a1, a2, a3, a4, (c.block r h2 hr).trans a5, a6⟩

/-- Which of the four are still to come: l x. -/
def Left4 (left : Lit → Bool) : Prop := ∀ x : Int, left (.int .i64 x) = true → x = 1 ∨ x = 2 ∨ x = 6 ∨ x = 7
theorem Left4.start : Left4 (Maps.has D4) := fun x h => has4 h
theorem Left4.step {left : Lit → Bool} (h : Left4 left) (kl : Lit) : Left4 (fun z => left z && !z.sameKey kl) := fun x hx => h x (by simp only [Bool.and_eq_true] at hx; exact hx.1)

/-- One step of the loop: nothing is left; or one of the four comes, with its cell. -/
theorem next4 {w : World} {b m r cnt : Nat} {left : Lit → Bool} (h : w.ranges Tryz.prog 3 (ptrR b) m r 4 D4 left cnt) (hl : Left4 left) (ty : TypeId) :
    (cnt = 0 ∧ (∀ kl, left kl = false) ∧ (Instr.next (.pointer (some ⟨r, 0, none⟩)) false ty).run Tryz.prog w = .ok (.tuple #[.bool false]) w) ∨
    ∃ (x : Int) (o : Nat) (w' : World) (cnt' : Nat), ((x = 1 ∧ o = 0) ∨ (x = 2 ∧ o = 1) ∨ (x = 6 ∧ o = 12) ∨ (x = 7 ∧ o = 13)) ∧ left (.int .i64 x) = true ∧
      (Instr.next (.pointer (some ⟨r, 0, none⟩)) false ty).run Tryz.prog w = .ok (.tuple #[.bool true, .int .i64 x, .pointer (some ⟨b, o, none⟩)]) w' ∧
      (Instr.entry (.pointer (some ⟨r, 0, none⟩))).run Tryz.prog w' = .ok (.tuple #[.int .i64 x, .pointer (some ⟨b, o, none⟩)]) w' ∧
      w'.ranges Tryz.prog 3 (ptrR b) m r 4 D4 (fun z => left z && !z.sameKey (.int .i64 x)) cnt' ∧ cnt' < cnt ∧ Chg (fun k => k = r) w w' := by
  rcases h.next keyI ty with ⟨h0, hn, hrun⟩ | ⟨key, v, kl, y, w', cnt', hkey, hlk, hv, hat, hrun, hrg, hlt, hgr, hsz, hen⟩
  · exact .inl ⟨h0, hn, hrun⟩
  · obtain ⟨x, rfl, rfl, hw⟩ := Maps.keyOf_int_inv Tryz.underlying3 hkey
    obtain ⟨o, rfl, rfl⟩ := ptrR_inv hv
    refine .inr ⟨x, o, w', cnt', ?_, hlk, hrun, hen, hrg, hlt, (Chg.refl _ w).grown hgr (fun k hk => .inl (Option.some.inj hk).symm)⟩
    rcases hl x hlk with rfl | rfl | rfl | rfl
    · have := at4_1 hat
      simp only [DataW.lit.injEq, Lit.int.injEq, true_and] at this
      exact .inl ⟨rfl, by omega⟩
    · have := at4_2 hat
      simp only [DataW.lit.injEq, Lit.int.injEq, true_and] at this
      exact .inr (.inl ⟨rfl, by omega⟩)
    · have := at4_6 hat
      simp only [DataW.lit.injEq, Lit.int.injEq, true_and] at this
      exact .inr (.inr (.inl ⟨rfl, by omega⟩))
    · have := at4_7 hat
      simp only [DataW.lit.injEq, Lit.int.injEq, true_and] at this
      exact .inr (.inr (.inr ⟨rfl, by omega⟩))
end Go.Proofs.YtofgajlpdnokdaaGreatDoor

