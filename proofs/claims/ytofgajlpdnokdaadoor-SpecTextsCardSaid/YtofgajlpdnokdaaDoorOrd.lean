/- A region that draws its order, walked once, in an order of one's own: copies first, then operations that only look (in every world of a class), then some that call (each leaves a world of the class), then the rest in one forced order. For every order that the tape may pick. -/
import Derived.Test.YtofgajlpdnokdaaDoorHeld
import Derived.Test.YtofgajlpdnokdaaDoorRec
namespace Go.Proofs.YtofgajlpdnokdaaDoor
set_option linter.unusedVariables false
open Go.RowKit

section
variable {P : Program} {ops : Array Oper} {Q : Exit → Act → World → Prop} {C : World → Prop}

/-- The operations of these numbers, in this order. -/
def pick (ops : Array Oper) : List Nat → List Oper
  | [] => []
  | i :: is => match ops[i]? with
    | some o => o :: pick ops is
    | none => pick ops is

theorem pick_cons {i : Nat} {is : List Nat} {o : Oper} (h : ops[i]? = some o) : pick ops (i :: is) = o :: pick ops is := by simp [pick, h]

def seqL (ops : Array Oper) : List Nat → Array Bool → Bool
  | [], listed => (Region.ready .any ops listed).isEmpty
  | k :: ks, listed => decide (Region.ready .any ops listed = [k]) && seqL ops ks (listed.setIfInBounds k true)

theorem seqL_cons {k : Nat} {ks : List Nat} {listed : Array Bool} (h : seqL ops (k :: ks) listed = true) : Region.ready .any ops listed = [k] ∧ (∃ o, ops[k]? = some o) ∧ seqL ops ks (listed.setIfInBounds k true) = true := by
  simp only [seqL, Bool.and_eq_true, decide_eq_true_eq] at h
  obtain ⟨_, o, ho, _⟩ := mem_ready.1 (show k ∈ Region.ready .any ops listed by rw [h.1]; simp)
  exact ⟨h.1, ⟨o, ho⟩, h.2⟩

theorem ordC_late {late : Nat → Bool} : ∀ (ks : List Nat) (listed : Array Bool) (a : Act) (w : World), (∀ j ∈ ks, late j = true) → seqL ops ks listed = true →
    wpList P ops Q (pick ops ks) a w → wpAnyC P ops Q C late ks.length listed a w
  | [], listed, a, w, _, hB, h => ⟨by simpa [seqL] using hB, h⟩
  | k :: ks, listed, a, w, hl, hB, h => by
    obtain ⟨h1, ⟨o, h0⟩, hB'⟩ := seqL_cons hB
    refine ⟨fun h2 => (by rw [h1] at h2; cases h2), fun i hi => ?_⟩
    rw [h1] at hi
    have hik : i = k := by simpa using hi
    subst hik
    rw [pick_cons h0] at h
    have hw : wpOp P ops Q i (wpList P ops Q (pick ops ks)) a w := by unfold wpOp; simp only [h0]; exact h
    exact wpOp_mono (fun a' w' h' => ⟨fun h => (by rw [hl i (by simp)] at h; cases h), ordC_late ks _ a' w' (fun j hj => hl j (by simp [hj])) hB' h'⟩) hw

theorem ordC_makes {late : Nat → Bool} {ts : List Nat} (hlate : ∀ j ∈ ts, late j = true) :
    ∀ (ms : List Nat) (listed : Array Bool) (a : Act) (w : World), seqL ops (ms ++ ts) listed = true →
    wpMakes P ops Q C (pick ops ts) (pick ops ms) a w → wpAnyC P ops Q C late (ms.length + ts.length) listed a w
  | [], listed, a, w, hB, h => by
    rw [List.length_nil, Nat.zero_add]
    exact ordC_late ts listed a w hlate hB h
  | k :: ms, listed, a, w, hB, h => by
    obtain ⟨h1, ⟨o, h0⟩, hB'⟩ := seqL_cons hB
    have e : (k :: ms).length + ts.length = (ms.length + ts.length) + 1 := by simp; omega
    rw [e]
    rw [pick_cons h0] at h
    refine ⟨fun h2 => (by rw [h1] at h2; cases h2), fun i hi => ?_⟩
    rw [h1] at hi
    have hik : i = k := by simpa using hi
    subst hik
    refine wpOp_mono (fun a' w' h' => ⟨fun _ => h'.1, ?_⟩) (wpOp_of_then h0 h)
    exact ordC_makes hlate ms _ a' w' hB' h'.2

def looksL (ops : Array Oper) (rest : List Nat) : List Nat → Array Bool → Bool
  | [], listed => seqL ops rest listed
  | k :: ks, listed => (Region.ready .any ops listed).contains k && Region.free .any ops listed k && ((ops[k]?).map (·.dst.isSome)).getD false && looksL ops rest ks (listed.setIfInBounds k true)

def copiesL (ops : Array Oper) (looks rest : List Nat) : List Nat → Array Bool → Bool
  | [], listed => looksL ops rest looks listed
  | k :: ks, listed => (Region.ready .any ops listed).contains k && Region.free .any ops listed k && ((ops[k]?).map isCopy).getD false && copiesL ops looks rest ks (listed.setIfInBounds k true)

def ordB (ops : Array Oper) (cs ls ms ts : List Nat) : Bool :=
  Region.noSelect ops && decide (cs.length + (ls.length + (ms.length + ts.length)) = ops.size) && (ts.all fun t => ls.all fun h => waitsOn ops ops.size t h) && copiesL ops ls (ms ++ ts) cs (Array.replicate ops.size false)

theorem ord_looks {ls ms ts : List Nat} (hsel : Region.noSelect ops = true) (hn : ∀ t ∈ ts, ∀ h ∈ ls, waitsOn ops ops.size t h = true)
    (hQ : ∀ c (a : Act) (d : Tmp) v w, Q (.panic c) (a.put (some d) v) w → Q (.panic c) a w) :
    ∀ (ks : List Nat) (listed : Array Bool) (a : Act) (w : World), (∀ k ∈ ks, k ∈ ls) → ClosedL ops listed → C w →
      looksL ops (ms ++ ts) ks listed = true → wpYield P ops C (fun a' => ∀ w', C w' → wpMakes P ops Q C (pick ops ts) (pick ops ms) a' w') (pick ops ks) a →
      wpAnyC P ops Q C (fun j => decide (j ∈ ts)) (ks.length + (ms.length + ts.length)) listed a w
  | [], listed, a, w, _, hcl, hC, hB, h => by
    simp only [List.length_nil, Nat.zero_add]
    exact ordC_makes (fun j hj => by simpa using hj) ms listed a w (by simpa [looksL] using hB) (h w hC)
  | k :: ks, listed, a, w, hsub, hcl, hC, hB, h => by
    simp only [looksL, Bool.and_eq_true] at hB
    obtain ⟨⟨⟨hr, hf⟩, hd⟩, hB'⟩ := hB
    have hr' : k ∈ Region.ready .any ops listed := by simpa using hr
    obtain ⟨_, o, h0, _⟩ := mem_ready.1 hr'
    rw [h0] at hd
    simp only [Option.map_some, Option.getD_some] at hd
    obtain ⟨d, hd⟩ := Option.isSome_iff_exists.1 hd
    rw [pick_cons h0] at h
    have hy : ∃ v, YieldsIf P ops C o v a ∧ wpYield P ops C (fun a' => ∀ w', C w' → wpMakes P ops Q C (pick ops ts) (pick ops ms) a' w') (pick ops ks) (a.put o.dst v) := by
      simp only [wpYield] at h
      by_cases hw : Region.wanted o (yielded ops a.tmps) = true
      · simp only [hw, if_true] at h
        obtain ⟨v, h1, h2⟩ := h
        exact ⟨v, .inl ⟨hw, h1⟩, h2⟩
      · simp only [hw] at h
        exact ⟨undef, .inr ⟨by simpa using hw, rfl⟩, h⟩
    obtain ⟨v, hy, hK⟩ := hy
    have e : (k :: ks).length + (ms.length + ts.length) = (ks.length + (ms.length + ts.length)) + 1 := by simp; omega
    rw [e]
    refine wpAnyC_first (F := ops.size) h0 (Region.noSelect_spec hsel) (fun c a' w' hq => by rw [hd] at hq; exact hQ c a' d _ w' hq) (fun j oj hj hT => hn j (by simpa using hT) k (hsub k (by simp))) _ listed a w hcl (Region.free_spec h0 hf) hr' hy hC
      (ord_looks hsel hn hQ ks _ _ w (fun j hj => hsub j (by simp [hj])) (hcl.set hr') hC hB' hK)

theorem ord_copies {ls ms ts : List Nat} (hsel : Region.noSelect ops = true) (hn : ∀ t ∈ ts, ∀ h ∈ ls, waitsOn ops ops.size t h = true)
    (hQ : ∀ c (a : Act) (d : Tmp) v w, Q (.panic c) (a.put (some d) v) w → Q (.panic c) a w) :
    ∀ (ks : List Nat) (listed : Array Bool) (a : Act) (w : World), ClosedL ops listed → C w →
      copiesL ops ls (ms ++ ts) ks listed = true → wpYield P ops C (fun a' => wpYield P ops C (fun a' => ∀ w', C w' → wpMakes P ops Q C (pick ops ts) (pick ops ms) a' w') (pick ops ls) a') (pick ops ks) a →
      wpAny P .any ops Q (ks.length + (ls.length + (ms.length + ts.length))) listed a w
  | [], listed, a, w, hcl, hC, hB, h => by
    simp only [List.length_nil, Nat.zero_add]
    refine wpAny_of_C (C := C) (late := fun j => decide (j ∈ ts)) _ _ _ _ ?_
    exact ord_looks hsel hn hQ ls listed a w (fun _ h => h) hcl hC (by simpa [copiesL] using hB) h
  | k :: ks, listed, a, w, hcl, hC, hB, h => by
    simp only [copiesL, Bool.and_eq_true] at hB
    obtain ⟨⟨⟨hr, hf⟩, hcp⟩, hB'⟩ := hB
    have hr' : k ∈ Region.ready .any ops listed := by simpa using hr
    obtain ⟨_, o, h0, _⟩ := mem_ready.1 hr'
    rw [h0] at hcp
    rw [pick_cons h0] at h
    simp only [Option.map_some, Option.getD_some] at hcp
    obtain ⟨dst, op, type, pos, after, guard⟩ := o
    obtain ⟨d, x, e1, e2, e3⟩ := isCopy_spec hcp
    dsimp only at e1 e2 e3
    subst e1 e2 e3
    have hyld : Yields P ops ⟨some d, .move x, type, pos, after, none⟩ (a.eval x) a := .inl ⟨rfl, fun w' => rfl⟩
    have hlen : (k :: ks).length + (ls.length + (ms.length + ts.length)) = (ks.length + (ls.length + (ms.length + ts.length))) + 1 := by simp; omega
    rw [hlen]
    refine wpAny_first (md := .any) h0 (Region.noSelect_spec hsel) (fun c a' w' hq => hQ c a' d _ w' hq) _ listed a w (Region.free_spec h0 hf) hr' hyld ?_
    refine ord_copies hsel hn hQ ks _ _ w (hcl.set hr') hC hB' ?_
    have h' : yieldC P ⟨some d, .move x, type, pos, after, none⟩ a C (wpYield P ops C (fun a' => wpYield P ops C (fun a' => ∀ w', C w' → wpMakes P ops Q C (pick ops ts) (pick ops ms) a' w') (pick ops ls) a') (pick ops ks)) := h
    obtain ⟨v, hv, hK⟩ := h'
    have hv1 := hv w hC
    have hv2 : a.eval x = v := by injection hv1 with h1 _; injection h1
    rw [hv2]
    exact hK

/-- The class is that of the worlds G x. -/
theorem wp_region_ord {id : Nat} {a : Act} {w : World} {l : List Oper} (cs ls ms ts : List Nat) (G : World → World) (hm : P.follows .mixedOrders = true) (hB : ordB l.toArray cs ls ms ts = true)
    (hQ : ∀ c (a : Act) (d : Tmp) v w, Q (.panic c) (a.put (some d) v) w → Q (.panic c) a w) (hG : ∃ x, w.drew = G x)
    (h : wpYield P l.toArray (fun w' => ∃ x, w' = G x) (fun a' => wpYield P l.toArray (fun w' => ∃ x, w' = G x) (fun a' => ∀ w', (∃ x, w' = G x) → wpMakes P l.toArray Q (fun w' => ∃ x, w' = G x) (pick l.toArray ts) (pick l.toArray ms) a' w') (pick l.toArray ls) a') (pick l.toArray cs) a) :
    (Code.region id l.toArray true).wp P Q a w := by
  simp only [ordB, Bool.and_eq_true, decide_eq_true_eq] at hB
  obtain ⟨⟨⟨hsel, hlen⟩, hnd⟩, hcp⟩ := hB
  refine wp_region_any hm ?_
  have hcl : ClosedL l.toArray (Array.replicate l.toArray.size false) := fun j oj _ hl => by rw [getD_replicate_false] at hl; cases hl
  have hn : ∀ t ∈ ts, ∀ h ∈ ls, waitsOn l.toArray l.toArray.size t h = true := fun t ht h hh => List.all_eq_true.1 (List.all_eq_true.1 hnd t ht) h hh
  have := ord_copies (P := P) (ops := l.toArray) (C := fun w' => ∃ x, w' = G x) (Q := Q) hsel hn hQ cs _ a _ hcl hG hcp h
  rw [hlen] at this
  exact this
end

section
variable {T : Type} {P : Program} {cells : T → List Value} {sz : Nat} {t e : TypeId} {bytes : Nat} {z0 : T} {w : World}

/-- append(v, records...), as a run. -/
theorem run_append_rec (hR : RecT P cells sz t e bytes z0) (ty : TypeId) (v : Value) (l : List T) (hown : Own cells sz e w v l)
    (sa : Option Addr) (c : Nat) (l2 : List T) (hc0 : sa = none → c = 0) (hrow : RowAt cells sz w sa l2)
    (h63 : l.length + l2.length ≤ maxLen) (hbytes : (l.length + l2.length) * bytes ≤ 140737488355328) :
    ∃ v' w', (Builtin.append_ #[t, t] ty #[v, .slice sa l2.length c]).run P w = .ok v' w' ∧ Own cells sz e w' v' (l ++ l2) ∧ Chg (fun k => v.ownBlock = some k) w w' ∧ (v'.ownBlock = v.ownBlock ∨ v'.ownBlock = some w.heap.size) := by
  obtain ⟨i, z, hi, hz, hsz, hby, hzc⟩ := hR.hi
  have hzs : z.cells.size = sz := by rw [hzc]; simp [hR.hc]
  by_cases hl2 : l2 = []
  · subst hl2
    cases sa with
    | none =>
      obtain rfl := hc0 rfl
      exact ⟨v, w, run_append_owned_none (P := P) (w := w) 0 t ty e i sz hR.ht hi v l.length (flatC cells l) hown, by simpa using hown, Chg.refl _ _, .inl rfl⟩
    | some ad =>
      obtain ⟨v', w', hr, h1, h2, _, h3⟩ := run_append_own_at (P := P) w 0 t ty e i z sz bytes hR.ht hi hz hsz hby hzs hR.pos v l.length (flatC cells l) hown ad 0 c [] (by simp) (by simp) (by simp) (by simpa using h63) (by simpa using hbytes) (Nat.zero_le _)
      exact ⟨v', w', hr, by simpa [Own] using h1, (Chg.refl _ _).grown h2 fun k hk => .inl hk, h3⟩
  · obtain ⟨g, off, rfl, _⟩ := hrow 0 (List.length_pos_iff.2 hl2)
    obtain ⟨v', w', hr, h1, h2, _, h3⟩ := run_append_own_at (P := P) w 0 t ty e i z sz bytes hR.ht hi hz hsz hby hzs hR.pos v l.length (flatC cells l) hown ⟨g, off, none⟩ l2.length c (flatC cells l2)
      (flatC_length hR.hc l2) (row_news hR.hc hrow hR.pos) (flatC_one hR l2) h63 hbytes (Nat.zero_le _)
    refine ⟨v', w', hr, ?_, (Chg.refl _ _).grown h2 fun k hk => .inl hk, h3⟩
    unfold Own
    rw [flatC_append, List.length_append]
    exact h1

/-- .. at a step of a region that draws. -/
theorem step_append_rec {ops : Array Oper} {o : Oper} {a : Act} {K : Act → World → Prop} {Q : Exit → Act → World → Prop} {E : Prop} (hR : RecT P cells sz t e bytes z0) (hgd : o.guard = none) (s x : Operand)
    (ho : o.op = .call { callee := .builtin .append, args := #[s, x], argTypes := #[t, t] })
    (v : Value) (l : List T) (hs : a.eval s = v) (hown : Own cells sz e w v l)
    (sa : Option Addr) (c : Nat) (l2 : List T) (hx : a.eval x = .slice sa l2.length c) (hc0 : sa = none → c = 0) (hrow : RowAt cells sz w sa l2)
    (h63 : l.length + l2.length ≤ maxLen) (hbytes : (l.length + l2.length) * bytes ≤ 140737488355328)
    (h : ∀ v' w', Own cells sz e w' v' (l ++ l2) → Chg (fun k => v.ownBlock = some k) w w' → (v'.ownBlock = v.ownBlock ∨ v'.ownBlock = some w.heap.size) → K (a.put o.dst v') w') :
    if Region.wanted o (yielded ops a.tmps) = true then Oper.wp P o a w K Q else E := by
  have hw : Region.wanted o (yielded ops a.tmps) = true := by simp [Region.wanted, hgd]
  rw [if_pos hw]
  obtain ⟨v', w', hr, h2, h3, h4⟩ := run_append_rec hR o.type v l hown sa c l2 hc0 hrow h63 hbytes
  unfold Oper.wp execOp
  simp only [ho, resolve, invoke, builtin, Sem.run_bind, Sem.run_pure, Result.andThen_ok, List.map_toArray, List.map_cons, List.map_nil, hs, hx, hr]
  exact h v' w' h2 h3 h4
end

/-! ### Worlds in which only blocks of S, and new ones, have changed, written out -/

/-- The blocks of w but those of S, the rest as in x. -/
noncomputable def graft (S : Nat → Prop) (w x : World) : World := by
  classical
  exact { heap := ((Array.range (max w.heap.size x.heap.size)).map fun k => if k < w.heap.size ∧ ¬ S k then w.heap.getD k (.cells #[] 0) else x.heap.getD k (w.heap.getD k (.cells #[] 0))), tape := w.tape, drawn := x.drawn, os := w.os, output := w.output }

theorem graft_of_chg {S : Nat → Prop} {w w' : World} (h : Chg S w w') : ∃ x, w' = graft S w x := by
  classical
  refine ⟨w', ?_⟩
  have hsz := h.size
  cases w' with
  | mk heap tape drawn os output =>
    simp only at hsz
    have e : heap = ((Array.range (max w.heap.size heap.size)).map fun k => if k < w.heap.size ∧ ¬ S k then w.heap.getD k (.cells #[] 0) else heap.getD k (w.heap.getD k (.cells #[] 0))) := by
      rw [Nat.max_eq_right hsz]
      apply Array.ext_getElem?
      intro k
      by_cases hk : k < heap.size
      · simp only [Array.getElem?_map, Array.getElem?_range, hk, if_true, Option.map_some]
        split
        · rename_i h2
          have := h.block k h2.1 h2.2
          simp only at this
          rw [this, Array.getElem?_eq_getElem h2.1]
          simp [Array.getD, h2.1]
        · rw [Array.getElem?_eq_getElem hk]; simp
      · rw [Array.getElem?_eq_none (by omega), Array.getElem?_eq_none (by simp; omega)]
    unfold graft
    simp only [World.mk.injEq]
    exact ⟨e, h.tape, trivial, h.os, h.output⟩

theorem chg_graft (S : Nat → Prop) (w x : World) : Chg S w (graft S w x) := by
  classical
  refine ⟨rfl, rfl, rfl, by unfold graft; simp; omega, fun k hk hS => ?_⟩
  unfold graft
  simp only [Array.getElem?_map, Array.getElem?_range]
  rw [if_pos (by omega)]
  simp only [Option.map_some, hk, hS, not_false_eq_true, and_self, if_true]
  rw [Array.getElem?_eq_getElem hk]
  simp [Array.getD, hk]
end Go.Proofs.YtofgajlpdnokdaaDoor
