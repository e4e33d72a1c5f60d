/- A region that draws its order, walked once: operations that only look (in every world where no old block has changed) taken first; then some that make memory, one behind the other; then the rest in one forced order. For every order that the tape may pick. -/
import Derived.Test.YtofgajlpdnokdaaDoorHeap
import Derived.OrdersHeld
namespace Go.Proofs.YtofgajlpdnokdaaDoor
set_option linter.unusedVariables false
open Go.RowKit

section
variable {P : Program} {ops : Array Oper} {Q : Exit → Act → World → Prop} {C : World → Prop}

/-- Whatever order is picked from here on; behind every operation that is not a late one, C holds. -/
def wpAnyC (P : Program) (ops : Array Oper) (Q : Exit → Act → World → Prop) (C : World → Prop) (late : Nat → Bool) : Nat → Array Bool → Act → World → Prop
  | 0, listed, a, w => Region.ready .any ops listed = [] ∧ Q .normal a w
  | f + 1, listed, a, w => (Region.ready .any ops listed = [] → Q .normal a w) ∧
    ∀ i ∈ Region.ready .any ops listed, wpOp P ops Q i (fun a' w' => (late i = false → C w') ∧ wpAnyC P ops Q C late f (listed.setIfInBounds i true) a' w') a w

theorem wpAny_of_C {late : Nat → Bool} : ∀ (f : Nat) (listed : Array Bool) (a : Act) (w : World), wpAnyC P ops Q C late f listed a w → wpAny P .any ops Q f listed a w
  | 0, _, _, _, h => h
  | f + 1, _, _, _, h => ⟨h.1, fun i hi => wpOp_mono (fun a' w' h' => wpAny_of_C f _ a' w' h'.2) (h.2 i hi)⟩

theorem wpAnyC_first {late : Nat → Bool} {i F : Nat} {oi : Oper} {v : Value} (hi : ops[i]? = some oi) (hsel : ∀ (j : Nat) (o : Oper) cs b, ops[j]? = some o → o.op ≠ .select cs b)
    (hQ : ∀ c a w, Q (.panic c) (a.put oi.dst v) w → Q (.panic c) a w) (hneed : ∀ j oj, ops[j]? = some oj → late j = true → waitsOn ops F j i = true) :
    ∀ (f : Nat) (listed : Array Bool) (a : Act) (w : World), ClosedL ops listed →
      (∀ j oj, ops[j]? = some oj → j ≠ i → listed.getD j true = false → (∀ e ∈ oj.after, Region.binds .any e = true → e.on ≠ i) → oi.apart ops oj = true) →
      i ∈ Region.ready .any ops listed → YieldsIf P ops C oi v a → C w →
      wpAnyC P ops Q C late f (listed.setIfInBounds i true) (a.put oi.dst v) w → wpAnyC P ops Q C late (f + 1) listed a w := by
  intro f
  induction f with
  | zero =>
    intro listed a w hcl _ hr hy hC H
    refine ⟨fun h => (by rw [h] at hr; cases hr), fun j hj => ?_⟩
    by_cases hji : j = i
    · subst hji; exact hy.wpOp hi hC ⟨fun _ => hC, H⟩
    · have := ready_mono hj hji
      rw [H.1] at this
      cases this
  | succ f ih =>
    intro listed a w hcl hfree hr hy hC H
    have hun := (mem_ready.1 hr).1
    refine ⟨fun h => (by rw [h] at hr; cases hr), fun j hj => ?_⟩
    by_cases hji : j = i
    · subst hji; exact hy.wpOp hi hC ⟨fun _ => hC, H⟩
    · have h1 := H.2 j (ready_mono hj hji)
      obtain ⟨hjun, oj, hoj, hall⟩ := mem_ready.1 hj
      have hnl : late j = false := by
        cases hl : late j with
        | false => rfl
        | true =>
          have h1 := listed_of_waits hcl F j i (fun o ho e he hb => by
            have : o = oj := Option.some.inj (ho.symm.trans hoj)
            subst this
            exact hall e he hb) (hneed j oj hoj hl)
          rw [getD_both hun] at h1
          cases h1
      have hnot : ∀ e ∈ oj.after, Region.binds .any e = true → e.on ≠ i := fun e he hb heq => by
        have h1 := hall e he hb
        rw [heq, getD_both hun] at h1
        cases h1
      have h2 := wpOp_putIf (S := C) hoj (hfree j oj hoj hji hjun hnot) (fun cs b => hsel i oi cs b hi) (fun cs b => hsel j oj cs b hoj) hQ hy h1
      have hfree' : ∀ k ok, ops[k]? = some ok → k ≠ i → (listed.setIfInBounds j true).getD k true = false →
          (∀ e ∈ ok.after, Region.binds .any e = true → e.on ≠ i) → oi.apart ops ok = true := fun k ok hk hki hun hno => by
        refine hfree k ok hk hki ?_ hno
        by_cases hjk : j = k
        · subst hjk; exact hjun
        · rw [getD_set_ne true hjk] at hun; exact hun
      refine wpOp_mono (fun a' w' h3 => ⟨h3.2.1, ih (listed.setIfInBounds j true) a' w' (hcl.set hj) hfree' (ready_mono hr (Ne.symm hji)) h3.1 (h3.2.1 hnl) ?_⟩) h2
      rw [Array.setIfInBounds_comm _ _ hji]
      exact h3.2.2

/-- One value, in every world of the class, the world left as it is. -/
def yieldC (P : Program) (o : Oper) (a : Act) (C : World → Prop) (next : Act → Prop) : Prop :=
  ∃ v, (∀ w, C w → (execOp a.eval o).run P w = .ok (.value v) w) ∧ next (a.put o.dst v)

def wpYield (P : Program) (ops : Array Oper) (C : World → Prop) (R : Act → Prop) : List Oper → Act → Prop
  | [], a => R a
  | o :: rest, a => if Region.wanted o (yielded ops a.tmps) then yieldC P o a C (wpYield P ops C R rest) else wpYield P ops C R rest (a.put o.dst undef)

theorem wpYield_nil {R : Act → Prop} {a : Act} (h : R a) : wpYield P ops C R [] a := h
theorem wpYield_step {R : Act → Prop} {a : Act} {o : Oper} {rest : List Oper}
    (h : ∀ K : Act → Prop, (∀ a, wpYield P ops C R rest a → K a) → if Region.wanted o (yielded ops a.tmps) then yieldC P o a C K else K (a.put o.dst undef)) : wpYield P ops C R (o :: rest) a :=
  h _ (fun _ h => h)

/-- The operations that make memory, one behind the other, C shown behind each; then the rest. -/
def wpMakes (P : Program) (ops : Array Oper) (Q : Exit → Act → World → Prop) (C : World → Prop) (late : List Oper) : List Oper → Act → World → Prop
  | [], a, w => wpList P ops Q late a w
  | o :: rest, a, w => wpList P ops (Exit.then (fun a' w' => C w' ∧ wpMakes P ops Q C late rest a' w') Q) [o] a w

def seqC (ops : Array Oper) : Nat → Nat → Array Bool → Bool
  | 0, _, listed => (Region.ready .any ops listed).isEmpty
  | g + 1, k, listed => decide (Region.ready .any ops listed = [k]) && seqC ops g (k + 1) (listed.setIfInBounds k true)

theorem wpAnyC_late {late : Nat → Bool} : ∀ (l : List Oper) (k : Nat) (listed : Array Bool) (a : Act) (w : World), (∀ j, l[j]? = ops[k + j]?) → (∀ j, k ≤ j → late j = true) → seqC ops l.length k listed = true →
    wpList P ops Q l a w → wpAnyC P ops Q C late l.length listed a w
  | [], k, listed, a, w, _, _, hB, h => ⟨by simpa [seqC] using hB, h⟩
  | o :: l, k, listed, a, w, hl, hlt, hB, h => by
    have h0 : ops[k]? = some o := by simpa using (hl 0).symm
    simp only [List.length_cons, seqC, Bool.and_eq_true, decide_eq_true_eq] at hB
    refine ⟨fun h1 => (by rw [hB.1] at h1; cases h1), fun i hi => ?_⟩
    rw [hB.1] at hi
    have hik : i = k := by simpa using hi
    subst hik
    have hw : wpOp P ops Q i (wpList P ops Q l) a w := by unfold wpOp; simp only [h0]; exact h
    exact wpOp_mono (fun a' w' h' => ⟨fun h => (by rw [hlt i (Nat.le_refl _)] at h; cases h), wpAnyC_late l (i + 1) _ a' w' (fun j => by have := hl (j + 1); simpa [Nat.add_assoc, Nat.add_comm 1 j] using this) (fun j hj => hlt j (by omega)) hB.2 h'⟩) hw

theorem wpOp_of_then {i : Nat} {o : Oper} {K : Act → World → Prop} {a : Act} {w : World} (h0 : ops[i]? = some o) (h : wpList P ops (Exit.then K Q) [o] a w) : wpOp P ops Q i K a w := by
  unfold wpOp
  simp only [h0]
  simp only [wpList] at h
  split
  · rename_i hw
    simp only [hw, if_true] at h
    rcases h with h | ⟨h1, a1, w1, h2⟩
    · refine .inl ?_
      unfold Oper.wp at *
      generalize (execOp a.eval o).run P w = r at *
      cases r with
      | ok n w' =>
        cases n <;> simp only [Oper.upon] at h ⊢ <;> exact h
      | halt x w' => cases x <;> simp only [Oper.upon] at h ⊢ <;> exact h
    · exact .inr ⟨h1, a1, w1, h2⟩
  · rename_i hw
    simp only [hw] at h
    exact h

theorem wpAnyC_makes {late : Nat → Bool} {n2 : Nat} {ll : List Oper} (hll : ∀ j, ll[j]? = ops[n2 + j]?) (hlate : ∀ j, n2 ≤ j → late j = true) :
    ∀ (l : List Oper) (k : Nat) (listed : Array Bool) (a : Act) (w : World), (∀ j, j < l.length → l[j]? = ops[k + j]?) → k + l.length = n2 → seqC ops (l.length + ll.length) k listed = true →
    wpMakes P ops Q C ll l a w → wpAnyC P ops Q C late (l.length + ll.length) listed a w
  | [], k, listed, a, w, _, hk, hB, h => by
    have : k = n2 := by simpa using hk
    subst this
    simp only [List.length_nil, Nat.zero_add] at *
    exact wpAnyC_late ll k listed a w hll hlate hB h
  | o :: l, k, listed, a, w, hl, hk, hB, h => by
    have h0 : ops[k]? = some o := by simpa using (hl 0 (by simp)).symm
    have e : (o :: l).length + ll.length = (l.length + ll.length) + 1 := by simp; omega
    rw [e] at hB ⊢
    simp only [seqC, Bool.and_eq_true, decide_eq_true_eq] at hB
    refine ⟨fun h1 => (by rw [hB.1] at h1; cases h1), fun i hi => ?_⟩
    rw [hB.1] at hi
    have hik : i = k := by simpa using hi
    subst hik
    refine wpOp_mono (fun a' w' h' => ⟨fun _ => h'.1, ?_⟩) (wpOp_of_then h0 h)
    exact wpAnyC_makes hll hlate l (i + 1) _ a' w' (fun j hj => by have := hl (j + 1) (by simp; omega); simpa [Nat.add_assoc, Nat.add_comm 1 j] using this) (by simp only [List.length_cons] at hk; omega) hB.2 h'.2

def looksOk (ops : Array Oper) (g : Nat) : Nat → Nat → Array Bool → Bool
  | 0, k, listed => seqC ops g k listed
  | f + 1, k, listed => (Region.ready .any ops listed).contains k && Region.free .any ops listed k && ((ops[k]?).map (·.dst.isSome)).getD false && looksOk ops g f (k + 1) (listed.setIfInBounds k true)

def lateNeeds (ops : Array Oper) (m n n2 : Nat) : Bool :=
  (List.range ops.size).all fun t => decide (t < n2) || (List.range n).all fun h => decide (h < m) || waitsOn ops ops.size t h

def copiesOkC (ops : Array Oper) (n g h : Nat) : Nat → Nat → Array Bool → Bool
  | 0, k, listed => looksOk ops g h k listed && decide (k + h = n)
  | f + 1, k, listed => (Region.ready .any ops listed).contains k && Region.free .any ops listed k && ((ops[k]?).map isCopy).getD false && copiesOkC ops n g h f (k + 1) (listed.setIfInBounds k true)

/-- m copies of locals; up to n operations that look; those up to n2 make memory; the rest comes one behind the other. -/
def heldB (ops : Array Oper) (m n n2 : Nat) : Bool :=
  Region.noSelect ops && decide (m ≤ n) && decide (n ≤ n2) && decide (n2 ≤ ops.size) && lateNeeds ops m n n2 && copiesOkC ops n (ops.size - n) (n - m) m 0 (Array.replicate ops.size false)

theorem looks_lex {m n n2 : Nat} {el ll : List Oper} (hsel : Region.noSelect ops = true) (hn : lateNeeds ops m n n2 = true)
    (hQ : ∀ c (a : Act) (d : Tmp) v w, Q (.panic c) (a.put (some d) v) w → Q (.panic c) a w) (hel : ∀ j, j < el.length → el[j]? = ops[n + j]?) (hen : n + el.length = n2) (hll : ∀ j, ll[j]? = ops[n2 + j]?) (hg : ops.size - n = el.length + ll.length) :
    ∀ (l : List Oper) (k : Nat) (listed : Array Bool) (a : Act) (w : World), (∀ j, j < l.length → l[j]? = ops[k + j]?) → k + l.length = n → m ≤ k → ClosedL ops listed → C w →
      looksOk ops (ops.size - n) l.length k listed = true → wpYield P ops C (fun a' => ∀ w', C w' → wpMakes P ops Q C ll el a' w') l a →
      wpAnyC P ops Q C (fun j => decide (n2 ≤ j)) (l.length + (el.length + ll.length)) listed a w
  | [], k, listed, a, w, _, hk, _, hcl, hC, hB, h => by
    have : k = n := by simpa using hk
    subst this
    simp only [List.length_nil, Nat.zero_add]
    exact wpAnyC_makes hll (fun j hj => by simpa using hj) el k listed a w hel hen (by rw [← hg]; simpa [looksOk] using hB) (h w hC)
  | o :: l, k, listed, a, w, hl, hk, hmk, hcl, hC, hB, h => by
    have h0 : ops[k]? = some o := by simpa using (hl 0 (by simp)).symm
    simp only [List.length_cons, looksOk, Bool.and_eq_true] at hB
    obtain ⟨⟨⟨hr, hf⟩, hd⟩, hB'⟩ := hB
    rw [h0] at hd
    simp only [Option.map_some, Option.getD_some] at hd
    obtain ⟨d, hd⟩ := Option.isSome_iff_exists.1 hd
    have hkn : k < n := by simp only [List.length_cons] at hk; omega
    have hr' : k ∈ Region.ready .any ops listed := by simpa using hr
    have hy : ∃ v, YieldsIf P ops C o v a ∧ wpYield P ops C (fun a' => ∀ w', C w' → wpMakes P ops Q C ll el a' w') l (a.put o.dst v) := by
      simp only [wpYield] at h
      by_cases hw : Region.wanted o (yielded ops a.tmps) = true
      · simp only [hw, if_true] at h
        obtain ⟨v, h1, h2⟩ := h
        exact ⟨v, .inl ⟨hw, h1⟩, h2⟩
      · simp only [hw] at h
        exact ⟨undef, .inr ⟨by simpa using hw, rfl⟩, h⟩
    obtain ⟨v, hy, hK⟩ := hy
    have e : (o :: l).length + (el.length + ll.length) = (l.length + (el.length + ll.length)) + 1 := by simp; omega
    rw [e]
    refine wpAnyC_first (F := ops.size) h0 (Region.noSelect_spec hsel) (fun c a' w' hq => by rw [hd] at hq; exact hQ c a' d _ w' hq) (fun j oj hj hT => ?_) _ listed a w hcl (Region.free_spec h0 hf) hr' hy hC
      (looks_lex hsel hn hQ hel hen hll hg l (k + 1) _ _ w (fun j hj => by have := hl (j + 1) (by simp; omega); simpa [Nat.add_assoc, Nat.add_comm 1 j] using this) (by simp only [List.length_cons] at hk; omega) (by omega) (hcl.set hr') hC hB' hK)
    have hjs : j < ops.size := (Array.getElem?_eq_some_iff.1 hj).1
    have hT' : n2 ≤ j := by simpa using hT
    have h1 := List.all_eq_true.1 hn j (List.mem_range.2 hjs)
    simp only [Bool.or_eq_true, decide_eq_true_eq] at h1
    rcases h1 with h1 | h1
    · omega
    · have h2 := List.all_eq_true.1 h1 k (List.mem_range.2 hkn)
      simp only [Bool.or_eq_true, decide_eq_true_eq] at h2
      rcases h2 with h2 | h2
      · omega
      · exact h2

theorem copiesC_lex {m n n2 : Nat} {rest el ll : List Oper} (hsel : Region.noSelect ops = true) (hn : lateNeeds ops m n n2 = true)
    (hQ : ∀ c (a : Act) (d : Tmp) v w, Q (.panic c) (a.put (some d) v) w → Q (.panic c) a w) (hrl : rest.length = n - m) (hrest : ∀ j, j < rest.length → rest[j]? = ops[m + j]?) (hel : ∀ j, j < el.length → el[j]? = ops[n + j]?) (hen : n + el.length = n2) (hll : ∀ j, ll[j]? = ops[n2 + j]?) (hg : ops.size - n = el.length + ll.length) :
    ∀ (l : List Oper) (k : Nat) (listed : Array Bool) (a : Act) (w : World), (∀ j, j < l.length → l[j]? = ops[k + j]?) → k + l.length = m → ClosedL ops listed → C w →
      copiesOkC ops n (ops.size - n) (n - m) l.length k listed = true → wpYield P ops C (fun a' => ∀ w', C w' → wpMakes P ops Q C ll el a' w') (l ++ rest) a →
      wpAny P .any ops Q (l.length + (rest.length + (el.length + ll.length))) listed a w
  | [], k, listed, a, w, _, hk, hcl, hC, hB, h => by
    have hkm : k = m := by simpa using hk
    subst hkm
    simp only [List.length_nil, copiesOkC, Bool.and_eq_true, decide_eq_true_eq] at hB
    simp only [List.length_nil, Nat.zero_add]
    refine wpAny_of_C (C := C) (late := fun j => decide (n2 ≤ j)) _ _ _ _ ?_
    exact looks_lex hsel hn hQ hel hen hll hg rest k listed a w hrest (by omega) (Nat.le_refl _) hcl hC (by rw [hrl]; exact hB.1) (by simpa using h)
  | o :: l, k, listed, a, w, hl, hk, hcl, hC, hB, h => by
    have h0 : ops[k]? = some o := by simpa using (hl 0 (by simp)).symm
    simp only [List.length_cons, copiesOkC, Bool.and_eq_true] at hB
    obtain ⟨⟨⟨hr, hf⟩, hcp⟩, hB'⟩ := hB
    have hr' : k ∈ Region.ready .any ops listed := by simpa using hr
    rw [h0] at hcp
    simp only [Option.map_some, Option.getD_some] at hcp
    obtain ⟨dst, op, type, pos, after, guard⟩ := o
    obtain ⟨d, x, e1, e2, e3⟩ := isCopy_spec hcp
    dsimp only at e1 e2 e3
    subst e1 e2 e3
    have hyld : Yields P ops ⟨some d, .move x, type, pos, after, none⟩ (a.eval x) a := .inl ⟨rfl, fun w' => rfl⟩
    have hlen : (⟨some d, .move x, type, pos, after, none⟩ :: l : List Oper).length + (rest.length + (el.length + ll.length)) = (l.length + (rest.length + (el.length + ll.length))) + 1 := by simp; omega
    rw [hlen]
    refine wpAny_first (md := .any) h0 (Region.noSelect_spec hsel) (fun c a' w' hq => hQ c a' d _ w' hq) _ listed a w (Region.free_spec h0 hf) hr' hyld ?_
    refine copiesC_lex hsel hn hQ hrl hrest hel hen hll hg l (k + 1) _ _ w (fun j hj => by have := hl (j + 1) (by simp; omega); simpa [Nat.add_assoc, Nat.add_comm 1 j] using this) (by simp only [List.length_cons] at hk; omega) (hcl.set hr') hC hB' ?_
    have h' : yieldC P ⟨some d, .move x, type, pos, after, none⟩ a C (wpYield P ops C (fun a' => ∀ w', C w' → wpMakes P ops Q C ll el a' w') (l ++ rest)) := h
    obtain ⟨v, hv, hK⟩ := h'
    have hv1 := hv w hC
    have hv2 : a.eval x = v := by injection hv1 with h1 _; injection h1
    rw [hv2]
    exact hK

theorem wp_region_looks {id : Nat} {a : Act} {w : World} {l : List Oper} (m n n2 : Nat) (hm : P.follows .mixedOrders = true) (hB : heldB l.toArray m n n2 = true)
    (hQ : ∀ c (a : Act) (d : Tmp) v w, Q (.panic c) (a.put (some d) v) w → Q (.panic c) a w)
    (h : wpYield P l.toArray (fun w' => ∃ x, w' = World.over w x) (fun a' => ∀ w', (∃ x, w' = World.over w x) → wpMakes P l.toArray Q (fun w' => ∃ x, w' = World.over w x) (l.drop n2) ((l.take n2).drop n) a' w') (l.take n) a) :
    (Code.region id l.toArray true).wp P Q a w := by
  simp only [heldB, Bool.and_eq_true, decide_eq_true_eq] at hB
  obtain ⟨⟨⟨⟨⟨hsel, hmn⟩, hnn⟩, hns⟩, hnd⟩, hcp⟩ := hB
  have hsz : l.toArray.size = l.length := by simp
  rw [hsz] at hns
  refine wp_region_any hm ?_
  have hcl : ClosedL l.toArray (Array.replicate l.toArray.size false) := fun j oj _ hl => by rw [getD_replicate_false] at hl; cases hl
  have hC0 : ∃ x, ({ w with drawn := w.drawn + 1 } : World) = World.over w x := over_of_below ⟨rfl, rfl, rfl, Nat.le_refl _, fun _ _ => rfl⟩
  have hsplit : (l.take n) = l.take m ++ (l.drop m).take (n - m) := by
    have : n = m + (n - m) := by omega
    conv => lhs; rw [this]
    rw [List.take_add]
  rw [hsplit] at h
  have e0 : (l.take m).length = m := by simp; omega
  have e1 : ((l.take n2).drop n).length = n2 - n := by simp; omega
  have e2 : ((l.drop m).take (n - m)).length = n - m := by simp; omega
  have := copiesC_lex (P := P) (ops := l.toArray) (C := fun w' => ∃ x, w' = World.over w x) (Q := Q) (m := m) (n := n) (n2 := n2) (rest := (l.drop m).take (n - m)) (el := (l.take n2).drop n) (ll := l.drop n2) hsel hnd hQ e2
    (fun j hj => by
      have hj' : j < n - m := by rw [e2] at hj; omega
      simp [List.getElem?_drop, hj'])
    (fun j hj => by
      have hj' : n + j < n2 := by rw [e1] at hj; omega
      simp [List.getElem?_drop, hj']) (by rw [e1]; omega) (fun j => by simp [List.getElem?_drop]) (by rw [e1]; simp; omega) (l.take m) 0 _ a _
    (fun j hj => by
      have hj' : j < m := by rw [e0] at hj; exact hj
      simp [hj']) (by rw [e0]; omega) hcl hC0 (by rw [e0]; exact hcp) h
  have e : (l.take m).length + (((l.drop m).take (n - m)).length + (((l.take n2).drop n).length + (l.drop n2).length)) = l.toArray.size := by rw [e0, e1, e2]; simp; omega
  rw [e] at this
  exact this
end
end Go.Proofs.YtofgajlpdnokdaaDoor
