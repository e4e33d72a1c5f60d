/- A region that draws its order, walked once in the order of its text: some copies of locals first, then operations that only look (in a class of worlds), then a tail in one forced order. For every order that the tape may pick. -/
import Derived.Test.YtofgajlpdnokdaaDoorOpen
import Derived.StillTail
import Derived.Deep.QuietTactic
import Derived.BigQuiet
namespace Go.Proofs.YtofgajlpdnokdaaDoor
set_option linter.unusedVariables false
open Go.RowKit

section
variable {P : Program} {ops : Array Oper} {C : World → Prop} {Q : Exit → Act → World → Prop}

/-- Does operation t wait for operation h, through others too? -/
def waitsOn (ops : Array Oper) : Nat → Nat → Nat → Bool
  | 0, _, _ => false
  | f + 1, t, h => match ops[t]? with
    | some o => o.after.any fun e => Region.binds .any e && (e.on == h || waitsOn ops f e.on h)
    | none => false

def ClosedL (ops : Array Oper) (listed : Array Bool) : Prop :=
  ∀ j oj, ops[j]? = some oj → listed.getD j false = true → ∀ e ∈ oj.after, Region.binds .any e = true → listed.getD e.on false = true

theorem listed_of_waits {listed : Array Bool} (hc : ClosedL ops listed) : ∀ (f t h : Nat),
    (∀ o, ops[t]? = some o → ∀ e ∈ o.after, Region.binds .any e = true → listed.getD e.on false = true) → waitsOn ops f t h = true → listed.getD h false = true
  | 0, _, _, _, hw => by simp [waitsOn] at hw
  | f + 1, t, h, ht, hw => by
    simp only [waitsOn] at hw
    split at hw
    · rename_i o ho
      obtain ⟨e, he, hb⟩ := Array.any_eq_true'.1 hw
      simp only [Bool.and_eq_true, Bool.or_eq_true, beq_iff_eq] at hb
      have h1 := ht o ho e he hb.1
      rcases hb.2 with rfl | h2
      · exact h1
      · exact listed_of_waits hc f e.on h (fun o' ho' e' he' hb' => hc e.on o' ho' h1 e' he' hb') h2
    · cases hw

theorem ClosedL.set {listed : Array Bool} {i : Nat} (hc : ClosedL ops listed) (hi : i ∈ Region.ready .any ops listed) : ClosedL ops (listed.setIfInBounds i true) := by
  obtain ⟨_, oi, hoi, hall⟩ := mem_ready.1 hi
  intro j oj hj hl e he hb
  by_cases hij : i = j
  · subst hij
    have : oj = oi := Option.some.inj (hj.symm.trans hoi)
    subst this
    exact getD_set_true (hall e he hb)
  · rw [getD_set_ne false hij] at hl
    exact getD_set_true (hc j oj hj hl e he hb)

/-- f operations come up, in any order, all quiet in the class; then L. -/
def HeadG (P : Program) (ops : Array Oper) (C : World → Prop) (L : Array Bool → Act → Prop) : Nat → Array Bool → Act → Prop
  | 0, listed, a => L listed a
  | f + 1, listed, a => Region.ready .any ops listed ≠ [] ∧ ∀ i ∈ Region.ready .any ops listed, qOp P ops C i (HeadG P ops C L f (listed.setIfInBounds i true)) a

theorem wpAny_of_headG {L : Array Bool → Act → Prop} {g : Nat} (hL : ∀ listed a w, C w → L listed a → wpAny P .any ops Q g listed a w) :
    ∀ (f : Nat) (listed : Array Bool) (a : Act) (w : World), C w → HeadG P ops C L f listed a → wpAny P .any ops Q (f + g) listed a w
  | 0, listed, a, w, hw, h => by rw [Nat.zero_add]; exact hL _ _ _ hw h
  | f + 1, listed, a, w, hw, h => by
    rw [show f + 1 + g = (f + g) + 1 by omega]
    exact ⟨fun h0 => absurd h0 h.1, fun i hi => wpOp_of_qOp hw (fun a' w' hw' h' => wpAny_of_headG hL f _ a' w' hw' h') (h.2 i hi)⟩

theorem headG_first {i F : Nat} {oi : Oper} {v : Value} {L : Array Bool → Act → Prop} {T : Nat → Prop} (hi : ops[i]? = some oi) (hsel : ∀ (j : Nat) (o : Oper) cs b, ops[j]? = some o → o.op ≠ .select cs b)
    (hdone : ∀ listed a, L listed a → ∀ j ∈ Region.ready .any ops listed, T j) (hneed : ∀ j oj, ops[j]? = some oj → T j → waitsOn ops F j i = true) :
    ∀ (f : Nat) (listed : Array Bool) (a : Act), ClosedL ops listed →
      (∀ j oj, ops[j]? = some oj → j ≠ i → listed.getD j true = false → (∀ e ∈ oj.after, Region.binds .any e = true → e.on ≠ i) → oi.apart ops oj = true) →
      i ∈ Region.ready .any ops listed → YieldsIn P ops C oi v a →
      HeadG P ops C L f (listed.setIfInBounds i true) (a.put oi.dst v) → HeadG P ops C L (f + 1) listed a := by
  intro f
  induction f with
  | zero =>
    intro listed a hcl _ hr hy H
    have hun := (mem_ready.1 hr).1
    refine ⟨fun h => (by rw [h] at hr; cases hr), fun j hj => ?_⟩
    by_cases hji : j = i
    · subst hji; exact hy.qOp hi H
    · obtain ⟨_, oj, hoj, hall⟩ := mem_ready.1 hj
      have hT := hdone _ _ H j (ready_mono hj hji)
      have h1 := listed_of_waits hcl F j i (fun o ho e he hb => by
        have : o = oj := Option.some.inj (ho.symm.trans hoj)
        subst this
        exact hall e he hb) (hneed j oj hoj hT)
      rw [getD_both hun] at h1
      cases h1
  | succ f ih =>
    intro listed a hcl hfree hr hy H
    have hun := (mem_ready.1 hr).1
    refine ⟨fun h => (by rw [h] at hr; cases hr), fun j hj => ?_⟩
    by_cases hji : j = i
    · subst hji; exact hy.qOp hi H
    · have h1 := H.2 j (ready_mono hj hji)
      obtain ⟨hjun, oj, hoj, hall⟩ := mem_ready.1 hj
      have hnot : ∀ e ∈ oj.after, Region.binds .any e = true → e.on ≠ i := fun e he hb heq => by
        have h1 := hall e he hb
        rw [heq, getD_both hun] at h1
        cases h1
      have h2 := qOp_put hoj (hfree j oj hoj hji hjun hnot) (fun cs b => hsel i oi cs b hi) (fun cs b => hsel j oj cs b hoj) hy h1
      have hfree' : ∀ k ok, ops[k]? = some ok → k ≠ i → (listed.setIfInBounds j true).getD k true = false →
          (∀ e ∈ ok.after, Region.binds .any e = true → e.on ≠ i) → oi.apart ops ok = true := fun k ok hk hki hun hno => by
        refine hfree k ok hk hki ?_ hno
        by_cases hjk : j = k
        · subst hjk; exact hjun
        · rw [getD_set_ne true hjk] at hun; exact hun
      refine qOp_mono (fun a' h3 => ih (listed.setIfInBounds j true) a' (hcl.set hj) hfree' (ready_mono hr (Ne.symm hji)) h3.1 ?_) h2
      rw [Array.setIfInBounds_comm _ _ hji]
      exact h3.2

/-- The head, from operation k on, then the tail (from n on). -/
def headOk (ops : Array Oper) (n g : Nat) : Nat → Nat → Array Bool → Bool
  | 0, _, listed => Region.seqB .any ops g n listed
  | f + 1, k, listed => (Region.ready .any ops listed).contains k && Region.free .any ops listed k && headOk ops n g f (k + 1) (listed.setIfInBounds k true)

def tailNeeds (ops : Array Oper) (m n : Nat) : Bool :=
  (List.range ops.size).all fun t => decide (t < n) || (List.range n).all fun h => decide (h < m) || waitsOn ops ops.size t h

theorem headG_lex {m n g : Nat} {Lq : Act → Prop} (hsel : Region.noSelect ops = true) (hn : tailNeeds ops m n = true) :
    ∀ (l : List Oper) (k : Nat) (listed : Array Bool) (a : Act), (∀ j, j < l.length → l[j]? = ops[k + j]?) → k + l.length = n → m ≤ k → ClosedL ops listed →
      headOk ops n g l.length k listed = true → wpQuiet P ops C Lq l a →
      HeadG P ops C (fun listed' a' => Region.seqB .any ops g n listed' = true ∧ Lq a') l.length listed a
  | [], k, listed, a, _, hk, _, _, hB, h => ⟨by simpa [headOk] using hB, h⟩
  | o :: l, k, listed, a, hl, hk, hmk, hcl, hB, h => by
    have h0 : ops[k]? = some o := by simpa using (hl 0 (by simp)).symm
    simp only [List.length_cons, headOk, Bool.and_eq_true] at hB
    obtain ⟨⟨hr, hf⟩, hB'⟩ := hB
    have hkn : k < n := by simp only [List.length_cons] at hk; omega
    have hr' : k ∈ Region.ready .any ops listed := by simpa using hr
    have hst : qOp P ops C k (wpQuiet P ops C Lq l) a := by unfold qOp; simp only [h0]; exact h
    obtain ⟨v, hy, hK⟩ := yieldsIn_of_qOp h0 hst
    refine headG_first (F := ops.size) (T := fun j => n ≤ j) h0 (Region.noSelect_spec hsel) (fun listed' a' hL => seqB_ready hL.1) (fun j oj hj hT => ?_) l.length listed a hcl (Region.free_spec h0 hf) hr' hy
      (headG_lex hsel hn l (k + 1) _ _ (fun j hj => by have := hl (j + 1) (by simp; omega); simpa [Nat.add_assoc, Nat.add_comm 1 j] using this) (by simp only [List.length_cons] at hk; omega) (by omega) (hcl.set hr') hB' hK)
    have hjs : j < ops.size := (Array.getElem?_eq_some_iff.1 hj).1
    have h1 := List.all_eq_true.1 hn j (List.mem_range.2 hjs)
    simp only [Bool.or_eq_true, decide_eq_true_eq] at h1
    rcases h1 with h1 | h1
    · omega
    · have h2 := List.all_eq_true.1 h1 k (List.mem_range.2 hkn)
      simp only [Bool.or_eq_true, decide_eq_true_eq] at h2
      rcases h2 with h2 | h2
      · omega
      · exact h2

/-- A copy of a local or a constant into a temporary, unguarded. -/
def isCopy (o : Oper) : Bool := match o with
  | { dst := some _, op := .move _, guard := none, .. } => true
  | _ => false

theorem isCopy_spec {o : Oper} (h : isCopy o = true) : ∃ d x, o.dst = some d ∧ o.op = .move x ∧ o.guard = none := by
  unfold isCopy at h
  split at h
  · exact ⟨_, _, rfl, rfl, rfl⟩
  · cases h

def copiesOk (ops : Array Oper) (m n g h : Nat) : Nat → Nat → Array Bool → Bool
  | 0, k, listed => headOk ops n g h k listed
  | f + 1, k, listed => (Region.ready .any ops listed).contains k && Region.free .any ops listed k && ((ops[k]?).map isCopy).getD false && copiesOk ops m n g h f (k + 1) (listed.setIfInBounds k true)

/-- The first m operations are copies; those up to n only look; the rest comes one behind the other. -/
def planB (ops : Array Oper) (m n : Nat) : Bool :=
  Region.noSelect ops && decide (m ≤ n) && decide (n ≤ ops.size) && tailNeeds ops m n && copiesOk ops m n (ops.size - n) (n - m) m 0 (Array.replicate ops.size false)

theorem copies_lex {m n g : Nat} (hC : ∃ w, C w) (hsel : Region.noSelect ops = true) (hn : tailNeeds ops m n = true)
    (hQ : ∀ c (a : Act) (d : Tmp) v w, Q (.panic c) (a.put (some d) v) w → Q (.panic c) a w) {rest : List Oper} (hrl : rest.length = n - m) (hmn : m ≤ n) (hg : ops.size = n + g)
    (hrest : ∀ j, j < rest.length → rest[j]? = ops[m + j]?) (tl : List Oper) (htl : ∀ j, tl[j]? = ops[n + j]?) (htg : tl.length = g) :
    ∀ (l : List Oper) (k : Nat) (listed : Array Bool) (a : Act) (w : World), C w → (∀ j, j < l.length → l[j]? = ops[k + j]?) → k + l.length = m → ClosedL ops listed →
      copiesOk ops m n g (n - m) l.length k listed = true → wpQuiet P ops C (fun a' => ∀ w', C w' → wpList P ops Q tl a' w') (l ++ rest) a →
      wpAny P .any ops Q (l.length + ((n - m) + g)) listed a w
  | [], k, listed, a, w, hw, _, hk, hcl, hB, h => by
    have hkm : k = m := by simpa using hk
    subst hkm
    simp only [List.length_nil, Nat.zero_add]
    have H := headG_lex (P := P) (C := C) (g := g) hsel hn rest k listed a hrest (by omega) (Nat.le_refl _) hcl (by rw [hrl]; simpa [copiesOk] using hB) (by simpa using h)
    rw [hrl] at H
    refine wpAny_of_headG (fun listed' a' w' hw' hL => ?_) _ _ _ _ hw H
    have := wpAny_of_seq (P := P) (md := .any) (ops := ops) (Q' := Q) tl n listed' a' w' htl (by rw [htg]; exact hL.1) (hL.2 w' hw')
    rwa [htg] at this
  | o :: l, k, listed, a, w, hw, hl, hk, hcl, hB, h => by
    have h0 : ops[k]? = some o := by simpa using (hl 0 (by simp)).symm
    simp only [List.length_cons, copiesOk, Bool.and_eq_true] at hB
    obtain ⟨⟨⟨hr, hf⟩, hcp⟩, hB'⟩ := hB
    have hr' : k ∈ Region.ready .any ops listed := by simpa using hr
    rw [h0] at hcp
    simp only [Option.map_some, Option.getD_some] at hcp
    obtain ⟨dst, op, type, pos, after, guard⟩ := o
    obtain ⟨d, x, e1, e2, e3⟩ := isCopy_spec hcp
    dsimp only at e1 e2 e3
    subst e1 e2 e3
    have hyld : Yields P ops ⟨some d, .move x, type, pos, after, none⟩ (a.eval x) a := .inl ⟨rfl, fun w' => rfl⟩
    have hlen : (⟨some d, .move x, type, pos, after, none⟩ :: l : List Oper).length + ((n - m) + g) = (l.length + ((n - m) + g)) + 1 := by simp; omega
    rw [hlen]
    refine wpAny_first (md := .any) h0 (Region.noSelect_spec hsel) (fun c a' w' hq => hQ c a' d _ w' hq) _ listed a w (Region.free_spec h0 hf) hr' hyld ?_
    refine copies_lex hC hsel hn hQ hrl hmn hg hrest tl htl htg l (k + 1) _ _ w hw (fun j hj => by have := hl (j + 1) (by simp; omega); simpa [Nat.add_assoc, Nat.add_comm 1 j] using this) (by simp only [List.length_cons] at hk; omega) (hcl.set hr') hB' ?_
    have h' : Oper.quiet P ⟨some d, .move x, type, pos, after, none⟩ a C (wpQuiet P ops C (fun a' => ∀ w', C w' → wpList P ops Q tl a' w') (l ++ rest)) := h
    obtain ⟨v, hv, hK⟩ := h'
    have hv1 := hv w hw
    have hv2 : w = w ∧ a.eval x = v := hv1
    rw [hv2.2]
    exact hK

theorem wp_region_plan {id : Nat} {a : Act} {w : World} {l : List Oper} (m n : Nat) (C : World → Prop) (hm : P.follows .mixedOrders = true) (hB : planB l.toArray m n = true) (hC : C w.drew)
    (hQ : ∀ c (a : Act) (d : Tmp) v w, Q (.panic c) (a.put (some d) v) w → Q (.panic c) a w)
    (h : wpQuiet P l.toArray C (fun a' => ∀ w', C w' → wpList P l.toArray Q (l.drop n) a' w') (l.take n) a) : (Code.region id l.toArray true).wp P Q a w := by
  simp only [planB, Bool.and_eq_true, decide_eq_true_eq] at hB
  obtain ⟨⟨⟨⟨hsel, hmn⟩, hns⟩, hnd⟩, hcp⟩ := hB
  have hsz : l.toArray.size = l.length := by simp
  rw [hsz] at hns
  refine wp_region_any hm ?_
  have hcl : ClosedL l.toArray (Array.replicate l.toArray.size false) := fun j oj _ hl => by rw [getD_replicate_false] at hl; cases hl
  have hsplit : (l.take n) = l.take m ++ (l.drop m).take (n - m) := by
    have : n = m + (n - m) := by omega
    conv => lhs; rw [this]
    rw [List.take_add]
  rw [hsplit] at h
  have := copies_lex (P := P) (ops := l.toArray) (C := C) (Q := Q) (m := m) (n := n) (g := l.toArray.size - n) ⟨_, hC⟩ hsel hnd hQ (rest := (l.drop m).take (n - m)) (by simp; omega) hmn (by rw [hsz]; omega)
    (fun j hj => by
      have hj' : j < n - m := by simp at hj; omega
      simp [List.getElem?_drop, hj']) (l.drop n) (fun j => by simp [List.getElem?_drop]) (by simp) (l.take m) 0 _ a _ hC
    (fun j hj => by
      have hj' : j < m := by simp at hj; omega
      simp [hj']) (by simp; omega) hcl (by
      have e : (l.take m).length = m := by simp; omega
      rw [e]; exact hcp) h
  have e : (l.take m).length + (n - m + (l.toArray.size - n)) = l.toArray.size := by simp; omega
  rw [e] at this
  exact this

/-- .. where what looks may draw, and makes no memory. -/
theorem wp_region_planq {id : Nat} {a : Act} {w : World} {l : List Oper} (m n : Nat) (hm : P.follows .mixedOrders = true) (hB : planB l.toArray m n = true)
    (hQ : ∀ c (a : Act) (d : Tmp) v w, Q (.panic c) (a.put (some d) v) w → Q (.panic c) a w)
    (h : wpQuiet P l.toArray (fun w' => ∃ n, w' = w.drewN n) (fun a' => ∀ w', (∃ n, w' = w.drewN n) → wpList P l.toArray Q (l.drop n) a' w') (l.take n) a) : (Code.region id l.toArray true).wp P Q a w :=
  wp_region_plan m n _ hm hB ⟨1, rfl⟩ hQ h
end

/-- A callee that draws, met behind earlier draws. -/
theorem quiet_add {P : Program} {f : FuncId} {args : Array Value} {w : World} {a n : Nat} {v : Value}
    (h : Calls P f args (w.drewN (a + n)) fun e w' => e = .returned v ∧ ∃ m, w' = (w.drewN (a + n)).drewN m) :
    Calls P f args (w.drewN (a + n)) fun e w'' => e = .returned v ∧ ∃ m, w'' = w.drewN (a + m) :=
  h.mono fun _ _ ⟨he, m, hm⟩ => ⟨he, n + m, by rw [hm, World.drewN_drewN, Nat.add_assoc]⟩
theorem quiet_add_same {P : Program} {f : FuncId} {args : Array Value} {w : World} {a n : Nat} {v : Value}
    (h : Calls P f args (w.drewN (a + n)) fun e w' => e = .returned v ∧ w.drewN (a + n) = w') :
    Calls P f args (w.drewN (a + n)) fun e w'' => e = .returned v ∧ ∃ m, w'' = w.drewN (a + m) :=
  h.mono fun _ _ ⟨he, hm⟩ => ⟨he, n, hm.symm⟩
theorem quiet_same {P : Program} {f : FuncId} {args : Array Value} {w : World} {n : Nat} {v : Value}
    (h : Calls P f args (w.drewN n) fun e w' => e = .returned v ∧ w.drewN n = w') : Calls P f args (w.drewN n) fun e w'' => e = .returned v ∧ ∃ m, w'' = w.drewN m :=
  h.mono fun _ _ ⟨he, hm⟩ => ⟨he, n, hm.symm⟩
end Go.Proofs.YtofgajlpdnokdaaDoor
