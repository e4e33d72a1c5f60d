/- A map of four numbers to the fields of a record, and how it is gone over. Plain: the map's laws at one shape. -/
import Derived.Test.YtofgajlpdnokdaaDoorHeap
import Derived.Maps.RangeWalk
import Derived.Maps.Views
namespace Go.Proofs.YtofgajlpdnokdaaDoor
set_option linter.unusedVariables false
open Go.RowKit Go.Maps

/-- What a pointer into block b reads as: which cell. -/
def ptrR (b : Nat) (v : Value) : Option (DataW Unit × List MemPlace) :=
  match v with
  | .pointer (some ⟨b', o, none⟩) => if b' = b then some (.lit (.int .i64 (o : Int)), []) else none
  | _ => none
theorem ptrR_mk (b o : Nat) : ptrR b (.pointer (some ⟨b, o, none⟩)) = some (.lit (.int .i64 (o : Int)), []) := by simp [ptrR]
theorem ptrR_inv {b : Nat} {v : Value} {y : DataW Unit × List MemPlace} (h : ptrR b v = some y) : ∃ o : Nat, v = .pointer (some ⟨b, o, none⟩) ∧ y = (.lit (.int .i64 (o : Int)), []) := by
  unfold ptrR at h
  split at h
  · rename_i b' o
    split at h
    · rename_i hb
      subst hb
      simp only [Option.some.injEq] at h
      exact ⟨o, rfl, h.symm⟩
    · cases h
  · cases h

theorem keyI : Keyed Tryd.prog 3 := int_keyed Tryd.underlying3
theorem keyI_of (n : Int) (h : (Lit.int .i64 n).wf = true) : keyOf Tryd.prog 3 (.int .i64 n) = some (.int .i64 n) := keyOf_int_mk Tryd.underlying3 h

/-- The map of the four. -/
noncomputable def D4 : DataW Unit := ((((DataW.map []).put (.int .i64 1) (.lit (.int .i64 0))).put (.int .i64 2) (.lit (.int .i64 1))).put (.int .i64 6) (.lit (.int .i64 12))).put (.int .i64 7) (.lit (.int .i64 13))
theorem lit_ne {a b : Int} (h : a ≠ b) : (Lit.int .i64 a) ≠ .int .i64 b := fun e => h (by cases e; rfl)
theorem has4 {x : Int} (h : Maps.has D4 (.int .i64 x) = true) : x = 1 ∨ x = 2 ∨ x = 6 ∨ x = 7 := by
  by_cases h7 : x = 7
  · exact .inr (.inr (.inr h7))
  · by_cases h6 : x = 6
    · exact .inr (.inr (.inl h6))
    · by_cases h2 : x = 2
      · exact .inr (.inl h2)
      · by_cases h1 : x = 1
        · exact .inl h1
        · exfalso
          unfold D4 at h
          rw [has_put_other (lit_ne h7), has_put_other (lit_ne h6), has_put_other (lit_ne h2), has_put_other (lit_ne h1)] at h
          cases h

/-- From making the map to going over it. -/
theorem map4 (w : World) (b m : Nat) (hm : w.heap.size = m) : ∃ (w1 w2 w3 w4 w5 : World) (r : Nat),
    (Instr.mapUpdate 91 (.map (some m)) (.int .i64 1) (.pointer (some ⟨b, 0, none⟩))).run Tryd.prog (w.alloc (.map #[] 0)) = .ok () w1 ∧
    (Instr.mapUpdate 91 (.map (some m)) (.int .i64 2) (.pointer (some ⟨b, 1, none⟩))).run Tryd.prog w1 = .ok () w2 ∧
    (Instr.mapUpdate 91 (.map (some m)) (.int .i64 6) (.pointer (some ⟨b, 12, none⟩))).run Tryd.prog w2 = .ok () w3 ∧
    (Instr.mapUpdate 91 (.map (some m)) (.int .i64 7) (.pointer (some ⟨b, 13, none⟩))).run Tryd.prog w3 = .ok () w4 ∧
    (Instr.range 91 (.map (some m))).run Tryd.prog w4 = .ok (.pointer (some ⟨r, 0, none⟩)) w5 ∧
    w5.ranges Tryd.prog 3 (ptrR b) m r 4 D4 (Maps.has D4) (Maps.size D4) ∧ Chg NoChg w w5 ∧ m < r := by
  subst hm
  have h0 := World.ownsMap_made (H := Unit) w Tryd.prog 3 (ptrR b)
  obtain ⟨w1, r1, h1, g1⟩ := h0.update keyI Tryd.underlying91 (by unfold maxLen; omega) (keyI_of 1 (by decide)) (ptrR_mk b 0)
  obtain ⟨w2, r2, h2, g2⟩ := h1.update keyI Tryd.underlying91 (by unfold maxLen; omega) (keyI_of 2 (by decide)) (ptrR_mk b 1)
  obtain ⟨w3, r3, h3, g3⟩ := h2.update keyI Tryd.underlying91 (by unfold maxLen; omega) (keyI_of 6 (by decide)) (ptrR_mk b 12)
  obtain ⟨w4, r4, h4, g4⟩ := h3.update keyI Tryd.underlying91 (by unfold maxLen; omega) (keyI_of 7 (by decide)) (ptrR_mk b 13)
  obtain ⟨w5, r5, h5, g5, s5⟩ := h4.range keyI Tryd.underlying91
  have c1 : Chg NoChg w w1 := ((Chg.refl NoChg w).alloc (.map #[] 0)).grown g1 (fun k hk => by simp at hk; exact .inr (by omega))
  have c2 := c1.grown g2 (fun k hk => by simp at hk; exact .inr (by omega))
  have c3 := c2.grown g3 (fun k hk => by simp at hk; exact .inr (by omega))
  have c4 := c3.grown g4 (fun k hk => by simp at hk; exact .inr (by omega))
  have c5 := c4.grown g5 (fun k hk => by cases hk)
  have z := h4.lt
  exact ⟨w1, w2, w3, w4, w5, w4.heap.size, r1, r2, r3, r4, r5, h5, c5, z⟩

theorem size4 : Maps.size D4 = 4 := by rfl
theorem at4_1 {y : DataW Unit} (h : ∀ z, D4.atKey (.int .i64 1) z = y) : y = .lit (.int .i64 0) := (h .nil).symm.trans rfl
theorem at4_2 {y : DataW Unit} (h : ∀ z, D4.atKey (.int .i64 2) z = y) : y = .lit (.int .i64 1) := (h .nil).symm.trans rfl
theorem at4_6 {y : DataW Unit} (h : ∀ z, D4.atKey (.int .i64 6) z = y) : y = .lit (.int .i64 12) := (h .nil).symm.trans rfl
theorem at4_7 {y : DataW Unit} (h : ∀ z, D4.atKey (.int .i64 7) z = y) : y = .lit (.int .i64 13) := (h .nil).symm.trans rfl

/-- A step that leaves both blocks leaves what is gone over. -/
theorem ranges_chg {P : Program} {k : TypeId} {R : Value → Option (DataW Unit × List MemPlace)} {b r n cnt : Nat} {D : DataW Unit} {left : Lit → Bool} {S : Nat → Prop} {w w' : World} (h : w.ranges P k R b r n D left cnt) (c : Chg S w w') (hb : ¬ S b) (hr : ¬ S r) : w'.ranges P k R b r n D left cnt := by
  have h1 := h.owns.lt
  have h2 := h.lt
  obtain ⟨es, clock, since, seen, c0, a1, a2, a3, a4, a5, a6⟩ := h
  exact ⟨es, clock, since, seen, c0, (c.block b h1 hb).trans a1, a2, a3, a4, (c.block r h2 hr).trans a5, a6⟩

/-- Which of the four are still to come: l x. -/
def Left4 (left : Lit → Bool) : Prop := ∀ x : Int, left (.int .i64 x) = true → x = 1 ∨ x = 2 ∨ x = 6 ∨ x = 7
theorem Left4.start : Left4 (Maps.has D4) := fun x h => has4 h
theorem Left4.step {left : Lit → Bool} (h : Left4 left) (kl : Lit) : Left4 (fun z => left z && !z.sameKey kl) := fun x hx => h x (by simp only [Bool.and_eq_true] at hx; exact hx.1)

/-- One step of the loop: nothing is left; or one of the four comes, with its cell. -/
theorem next4 {w : World} {b m r cnt : Nat} {left : Lit → Bool} (h : w.ranges Tryd.prog 3 (ptrR b) m r 4 D4 left cnt) (hl : Left4 left) (ty : TypeId) :
    (cnt = 0 ∧ (∀ kl, left kl = false) ∧ (Instr.next (.pointer (some ⟨r, 0, none⟩)) false ty).run Tryd.prog w = .ok (.tuple #[.bool false]) w) ∨
    ∃ (x : Int) (o : Nat) (w' : World) (cnt' : Nat), ((x = 1 ∧ o = 0) ∨ (x = 2 ∧ o = 1) ∨ (x = 6 ∧ o = 12) ∨ (x = 7 ∧ o = 13)) ∧ left (.int .i64 x) = true ∧
      (Instr.next (.pointer (some ⟨r, 0, none⟩)) false ty).run Tryd.prog w = .ok (.tuple #[.bool true, .int .i64 x, .pointer (some ⟨b, o, none⟩)]) w' ∧
      (Instr.entry (.pointer (some ⟨r, 0, none⟩))).run Tryd.prog w' = .ok (.tuple #[.int .i64 x, .pointer (some ⟨b, o, none⟩)]) w' ∧
      w'.ranges Tryd.prog 3 (ptrR b) m r 4 D4 (fun z => left z && !z.sameKey (.int .i64 x)) cnt' ∧ cnt' < cnt ∧ Chg (fun k => k = r) w w' := by
  rcases h.next keyI ty with ⟨h0, hn, hrun⟩ | ⟨key, v, kl, y, w', cnt', hkey, hlk, hv, hat, hrun, hrg, hlt, hgr, hsz, hen⟩
  · exact .inl ⟨h0, hn, hrun⟩
  · obtain ⟨x, rfl, rfl, hw⟩ := Maps.keyOf_int_inv Tryd.underlying3 hkey
    obtain ⟨o, rfl, rfl⟩ := ptrR_inv hv
    refine .inr ⟨x, o, w', cnt', ?_, hlk, hrun, hen, hrg, hlt, (Chg.refl _ w).grown hgr (fun k hk => .inl (Option.some.inj hk).symm)⟩
    rcases hl x hlk with rfl | rfl | rfl | rfl
    · have := at4_1 hat
      simp only [DataW.lit.injEq, Lit.int.injEq, true_and] at this
      exact .inl ⟨rfl, by omega⟩
    · have := at4_2 hat
      simp only [DataW.lit.injEq, Lit.int.injEq, true_and] at this
      exact .inr (.inl ⟨rfl, by omega⟩)
    · have := at4_6 hat
      simp only [DataW.lit.injEq, Lit.int.injEq, true_and] at this
      exact .inr (.inr (.inl ⟨rfl, by omega⟩))
    · have := at4_7 hat
      simp only [DataW.lit.injEq, Lit.int.injEq, true_and] at this
      exact .inr (.inr (.inr ⟨rfl, by omega⟩))
end Go.Proofs.YtofgajlpdnokdaaDoor
