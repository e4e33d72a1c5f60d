/- Words on memory: a block known whole; what a step may have changed (a set of blocks); rows of records. Plain: no program's text. -/
import Derived.Test.YtofgajlpdnokdaaDoorPlan
import Derived.Laws.OwnMore
namespace Go.Proofs.YtofgajlpdnokdaaDoor
set_option linter.unusedVariables false
open Go.RowKit

/-- Block b holds just these cells, none of them frozen. -/
def Blk (w : World) (b : Nat) (cs : Array Value) (t : TypeId) : Prop := w.heap[b]? = some (.cells cs t (0, 0))

theorem Blk.lt {w : World} {b : Nat} {cs : Array Value} {t : TypeId} (h : Blk w b cs t) : b < w.heap.size := (Array.getElem?_eq_some_iff.1 h).1

theorem Blk.cell {w : World} {b : Nat} {cs : Array Value} {t : TypeId} (h : Blk w b cs t) (i : Nat) : w.cell? ⟨b, i, none⟩ = cs[i]? := by
  unfold Blk at h
  simp [World.cell?, h]

theorem Blk.frozen {w : World} {b : Nat} {cs : Array Value} {t : TypeId} (h : Blk w b cs t) (i : Nat) : w.frozen? ⟨b, i, none⟩ = false := by
  unfold Blk at h
  simp [World.frozen?, h]

theorem Blk.set {w : World} {b : Nat} {cs : Array Value} {t : TypeId} (h : Blk w b cs t) (i : Nat) (v : Value) : Blk (w.setCell ⟨b, i, none⟩ v) b (cs.setIfInBounds i v) t := by
  unfold Blk at *
  simp [World.setCell, Array.getElem?_modify, h]

theorem Blk.set' {w : World} {b : Nat} {cs cs' : Array Value} {t : TypeId} (h : Blk w b cs t) (i : Nat) (v : Value) (e : cs.setIfInBounds i v = cs') : Blk (w.setCell ⟨b, i, none⟩ v) b cs' t := e ▸ h.set i v

theorem Blk.other {w : World} {b : Nat} {cs : Array Value} {t : TypeId} (h : Blk w b cs t) {a : Addr} (v : Value) (hne : a.block ≠ b) : Blk (w.setCell a v) b cs t := by
  unfold Blk at *
  rw [Below.heap_setCell _ _ _ _ (Ne.symm hne)]
  exact h

theorem Blk.alloc {w : World} {b : Nat} {cs : Array Value} {t : TypeId} (h : Blk w b cs t) (o : Obj) : Blk (w.alloc o) b cs t := by
  have := h.lt
  unfold Blk at *
  rw [Below.heap_alloc _ _ _ this]
  exact h

theorem Blk.new (w : World) (cs : Array Value) (t : TypeId) : Blk (w.alloc (.cells cs t)) w.heap.size cs t := by
  unfold Blk
  show (w.heap.push _)[w.heap.size]? = _
  simp

theorem Blk.new' {w : World} {n : Nat} (cs : Array Value) (t : TypeId) (hn : n = w.heap.size) : Blk (w.alloc (.cells cs t)) n cs t := hn ▸ Blk.new w cs t

theorem Blk.drewN {w : World} {b : Nat} {cs : Array Value} {t : TypeId} (h : Blk w b cs t) (n : Nat) : Blk (w.drewN n) b cs t := h
theorem Blk.drew {w : World} {b : Nat} {cs : Array Value} {t : TypeId} (h : Blk w b cs t) : Blk w.drew b cs t := h

/-- From w to w' no block that was there has changed but those in S. -/
structure Chg (S : Nat → Prop) (w w' : World) : Prop where
  os : w'.os = w.os
  tape : w'.tape = w.tape
  output : w'.output = w.output
  size : w.heap.size ≤ w'.heap.size
  block : ∀ k, k < w.heap.size → ¬ S k → w'.heap[k]? = w.heap[k]?

section
variable {S S' : Nat → Prop} {w w1 w2 : World}

theorem Chg.refl (S : Nat → Prop) (w : World) : Chg S w w := ⟨rfl, rfl, rfl, Nat.le_refl _, fun _ _ _ => rfl⟩

theorem Chg.trans (h : Chg S w w1) (h' : Chg S' w1 w2) (hs : ∀ k, S' k → S k ∨ w.heap.size ≤ k) : Chg S w w2 :=
  ⟨h'.os.trans h.os, h'.tape.trans h.tape, h'.output.trans h.output, Nat.le_trans h.size h'.size, fun k hk hS =>
    (h'.block k (Nat.lt_of_lt_of_le hk h.size) (fun hs' => (hs k hs').elim hS (fun h => by omega))).trans (h.block k hk hS)⟩

theorem Chg.mono (h : Chg S w w1) (hs : ∀ k, S k → S' k ∨ w.heap.size ≤ k) : Chg S' w w1 :=
  ⟨h.os, h.tape, h.output, h.size, fun k hk hn => h.block k hk (fun hS => (hs k hS).elim hn (fun h => by omega))⟩

theorem Chg.trans' (h : Chg S w w1) (h' : Chg S w1 w2) : Chg S w w2 := h.trans h' fun k hk => .inl hk

theorem Chg.drewN (h : Chg S w w1) (n : Nat) : Chg S w (w1.drewN n) := ⟨h.os, h.tape, h.output, h.size, h.block⟩
theorem Chg.drew (h : Chg S w w1) : Chg S w w1.drew := ⟨h.os, h.tape, h.output, h.size, h.block⟩

theorem Chg.alloc (h : Chg S w w1) (o : Obj) : Chg S w (w1.alloc o) :=
  ⟨h.os, h.tape, h.output, Nat.le_trans h.size (by simp), fun k hk hS => (Below.heap_alloc _ _ _ (Nat.lt_of_lt_of_le hk h.size)).trans (h.block k hk hS)⟩

theorem Chg.setCell (h : Chg S w w1) {a : Addr} (v : Value) (ha : S a.block ∨ w.heap.size ≤ a.block) : Chg S w (w1.setCell a v) :=
  ⟨h.os, h.tape, h.output, by simpa [World.setCell] using h.size, fun k hk hS => (Below.heap_setCell _ _ _ _ (fun e => by
    subst e
    exact ha.elim hS (fun h => by omega))).trans (h.block k hk hS)⟩

theorem Chg.ofBelow (h : Below w.heap.size w w1) : Chg S w w1 := ⟨h.os, h.tape, h.output, h.size, fun k hk _ => h.block k hk⟩
theorem Chg.toBelow (h : Chg S w w1) {B : Nat} (hB : B ≤ w.heap.size) (hs : ∀ k, S k → B ≤ k) : Below B w w1 :=
  ⟨h.os, h.tape, h.output, h.size, fun k hk => h.block k (by omega) (fun hS => by have := hs k hS; omega)⟩

theorem Chg.grown {row : Option Nat} (h : Chg S w w1) (hg : w1.grownBy w2 row) (hr : ∀ k, row = some k → S k ∨ w.heap.size ≤ k) : Chg S w w2 :=
  ⟨hg.os.trans h.os, hg.tape.trans h.tape, hg.output.trans h.output, Nat.le_trans h.size hg.size, fun k hk hS =>
    (hg.block k (Nat.lt_of_lt_of_le hk h.size) (fun e => (hr k e.symm).elim hS (fun h => by omega))).trans (h.block k hk hS)⟩

theorem Chg.blk (h : Chg S w w1) {b : Nat} {cs : Array Value} {t : TypeId} (hb : Blk w b cs t) (hS : ¬ S b) : Blk w1 b cs t :=
  (h.block b hb.lt hS).trans hb
theorem Chg.heap (h : Chg S w w1) {b : Nat} {o : Obj} (hb : w.heap[b]? = some o) (hS : ¬ S b) : w1.heap[b]? = some o :=
  (h.block b (Array.getElem?_eq_some_iff.1 hb).1 hS).trans hb
theorem Chg.cell (h : Chg S w w1) {a : Addr} (ha : a.block < w.heap.size) (hS : ¬ S a.block) : w1.cell? a = w.cell? a :=
  World.cell?_of_block (w := w) (h.block a.block ha hS)
end

/-- No old block has changed at all. -/
abbrev NoChg : Nat → Prop := fun _ => False

theorem Chg.below {w w1 : World} (h : Chg NoChg w w1) : Below w.heap.size w w1 := h.toBelow (Nat.le_refl _) fun _ h => h.elim

/-! ### Rows of records -/

/-- The cells of records, one behind the other. -/
def flatC {T : Type} (cells : T → List Value) (l : List T) : List Value := l.flatMap cells

section
variable {T : Type} {cells : T → List Value} {sz : Nat}

theorem flatC_length (hc : ∀ x, (cells x).length = sz) : ∀ l : List T, (flatC cells l).length = l.length * sz
  | [] => by simp [flatC]
  | x :: l => by
    have := flatC_length hc l
    simp only [flatC, List.flatMap_cons, List.length_append, List.length_cons, hc] at *
    rw [this, Nat.add_mul]
    omega

theorem flatC_cons (x : T) (l : List T) : flatC cells (x :: l) = cells x ++ flatC cells l := rfl
theorem flatC_append (a b : List T) : flatC cells (a ++ b) = flatC cells a ++ flatC cells b := by simp [flatC]

theorem flatC_get (hc : ∀ x, (cells x).length = sz) : ∀ (l : List T) (i j : Nat) (hi : i < l.length), j < sz → (flatC cells l)[i * sz + j]? = (cells l[i])[j]?
  | x :: l, 0, j, _, hj => by
    rw [flatC_cons, List.getElem?_append_left (by rw [hc]; omega)]
    simp
  | x :: l, i + 1, j, hi, hj => by
    rw [flatC_cons, List.getElem?_append_right (by rw [hc, Nat.add_mul]; omega), hc, show (i + 1) * sz + j - sz = i * sz + j by rw [Nat.add_mul]; omega]
    simpa using flatC_get hc l i j (by simpa using hi) hj

theorem flatC_take (hc : ∀ x, (cells x).length = sz) (l : List T) (n : Nat) : (flatC cells l).take (n * sz) = flatC cells (l.take n) := by
  induction l generalizing n with
  | nil => simp [flatC]
  | cons x l ih =>
    cases n with
    | zero => simp [flatC]
    | succ n =>
      rw [flatC_cons, List.take_succ_cons, flatC_cons, List.take_append, hc, show (n + 1) * sz - sz = n * sz by rw [Nat.add_mul]; omega, ih,
        List.take_of_length_le (by rw [hc, Nat.add_mul]; omega)]

/-- One record stored over another. -/
theorem flatC_set (hc : ∀ x, (cells x).length = sz) : ∀ (l : List T) (i : Nat) (x : T), i < l.length → flatC cells (l.set i x) = (flatC cells l).take (i * sz) ++ cells x ++ (flatC cells l).drop ((i + 1) * sz)
  | y :: l, 0, x, _ => by
    simp [flatC_cons, hc]
  | y :: l, i + 1, x, hi => by
    have ih := flatC_set hc l i x (by simpa using hi)
    have e1 : (i + 1) * sz = sz + i * sz := by rw [Nat.add_mul]; omega
    have e2 : (i + 1 + 1) * sz = sz + (i + 1) * sz := by rw [Nat.add_mul (i + 1)]; omega
    have h1 : (cells y ++ flatC cells l).take (sz + i * sz) = cells y ++ (flatC cells l).take (i * sz) := by
      rw [List.take_append, hc, Nat.add_sub_cancel_left, List.take_of_length_le (by rw [hc]; omega)]
    have h2 : (cells y ++ flatC cells l).drop (sz + (i + 1) * sz) = (flatC cells l).drop ((i + 1) * sz) := by
      rw [List.drop_append, hc, Nat.add_sub_cancel_left, List.drop_of_length_le (by rw [hc]; omega), List.nil_append]
    rw [List.set_cons_succ, flatC_cons, flatC_cons, ih, e2, h2, e1, h1]
    simp [List.append_assoc]
end

/-- Block r is an array of records. -/
def RowBlk {T : Type} (cells : T → List Value) (w : World) (r : Nat) (l : List T) (t : TypeId) : Prop := Blk w r (flatC cells l).toArray t

theorem RowBlk.cellAt {T : Type} {cells : T → List Value} {sz : Nat} (hc : ∀ x, (cells x).length = sz) {w : World} {r : Nat} {l : List T} {t : TypeId} (h : RowBlk cells w r l t) (i : Nat) (hi : i < l.length) (j : Nat) (u : Value) (hu : (cells l[i])[j]? = some u) :
    w.cell? ⟨r, i * sz + j, none⟩ = some u := by
  have hj : j < sz := by
    have := (List.getElem?_eq_some_iff.1 hu).1
    rw [hc] at this
    exact this
  rw [Blk.cell h]
  simp only [List.getElem?_toArray]
  rw [flatC_get hc l i j hi hj]
  exact hu

theorem RowBlk.row {T : Type} {cells : T → List Value} {sz : Nat} (hc : ∀ x, (cells x).length = sz) {w : World} {r : Nat} {l : List T} {t : TypeId} (h : RowBlk cells w r l t) : RowAt cells sz w (some ⟨r, 0, none⟩) l := by
  intro i hi
  refine ⟨r, 0, rfl, fun j u hu => ?_⟩
  rw [Nat.zero_add]
  exact h.cellAt hc i hi j u hu

/-- Values stored one behind the other, from cell k of block r on. -/
def setW (w : World) (r : Nat) : Nat → List Value → World
  | _, [] => w
  | k, v :: vs => setW (w.setCell ⟨r, k, none⟩ v) r (k + 1) vs

def setL : List Value → Nat → List Value → List Value
  | l, _, [] => l
  | l, k, v :: vs => setL (l.set k v) (k + 1) vs

theorem setL_eq : ∀ (vs l : List Value) (k : Nat), k + vs.length ≤ l.length → setL l k vs = l.take k ++ vs ++ l.drop (k + vs.length)
  | [], l, k, _ => by simp [setL]
  | v :: vs, l, k, h => by
    simp only [List.length_cons] at h
    have hk : k < l.length := by omega
    rw [setL, setL_eq vs (l.set k v) (k + 1) (by rw [List.length_set]; omega)]
    have h1 : (l.set k v).take (k + 1) = l.take k ++ [v] := by
      rw [List.take_succ_eq_append_getElem (by simpa using hk)]
      simp [List.take_set_of_le]
    have h2 : (l.set k v).drop (k + 1 + vs.length) = l.drop (k + (vs.length + 1)) := by
      rw [List.drop_set_of_lt (by omega)]
      congr 1
      omega
    rw [h1, h2]
    simp

theorem Blk.setW {r : Nat} {t : TypeId} : ∀ (vs : List Value) {w : World} {cs : List Value} (k : Nat), Blk w r cs.toArray t → Blk (setW w r k vs) r (setL cs k vs).toArray t
  | [], _, _, _, h => h
  | v :: vs, w, cs, k, h => Blk.setW vs (k + 1) (h.set' k v (by simp))

theorem RowBlk.store {T : Type} {cells : T → List Value} {sz : Nat} (hc : ∀ x, (cells x).length = sz) {w : World} {r : Nat} {l : List T} {t : TypeId} (h : RowBlk cells w r l t) (i : Nat) (hi : i < l.length) (x : T) :
    RowBlk cells (setW w r (i * sz) (cells x)) r (l.set i x) t := by
  have h1 := Blk.setW (cells x) (i * sz) h
  have h2 : (i + 1) * sz ≤ l.length * sz := Nat.mul_le_mul_right _ hi
  rw [Nat.add_mul] at h2
  rw [setL_eq _ _ _ (by rw [hc, flatC_length hc]; omega), hc, show i * sz + sz = (i + 1) * sz by rw [Nat.add_mul]; omega, ← flatC_set hc l i x hi] at h1
  exact h1

theorem RowAt.drop {T : Type} {cells : T → List Value} {sz : Nat} {w : World} {g o : Nat} {l : List T} (h : RowAt cells sz w (some ⟨g, o, none⟩) l) (k : Nat) : RowAt cells sz w (some ⟨g, o + k * sz, none⟩) (l.drop k) := by
  intro i hi
  have hi' : k + i < l.length := by simp at hi; omega
  obtain ⟨g', o', he, hj⟩ := h (k + i) hi'
  simp only [Option.some.injEq, Addr.mk.injEq] at he
  obtain ⟨rfl, rfl, _⟩ := he
  refine ⟨g, o + k * sz, rfl, fun j u hu => ?_⟩
  rw [List.getElem_drop] at hu
  have := hj j u hu
  rw [Nat.add_mul] at this
  rw [show o + k * sz + i * sz + j = o + (k * sz + i * sz) + j by omega]
  exact this

theorem RowAt.take {T : Type} {cells : T → List Value} {sz : Nat} {w : World} {a : Option Addr} {l : List T} (h : RowAt cells sz w a l) (k : Nat) : RowAt cells sz w a (l.take k) := by
  intro i hi
  have hi' : i < l.length := by simp at hi; omega
  obtain ⟨g, o, rfl, hj⟩ := h i hi'
  refine ⟨g, o, rfl, fun j u hu => hj j u ?_⟩
  rw [List.getElem_take] at hu
  exact hu

theorem RowAt.keep {T : Type} {cells : T → List Value} {sz : Nat} {w w1 : World} {a : Option Addr} {l : List T} {S : Nat → Prop} (h : RowAt cells sz w a l) (hc : Chg S w w1) (hS : ∀ ad, a = some ad → ¬ S ad.block) : RowAt cells sz w1 a l := by
  intro i hi
  obtain ⟨g, o, rfl, hj⟩ := h i hi
  refine ⟨g, o, rfl, fun j u hu => ?_⟩
  rw [hc.cell (cell_lt (hj j u hu)) (hS ⟨g, o, none⟩ rfl)]
  exact hj j u hu

/-! ### Worlds that have grown, written out -/

/-- w with the blocks of x behind its own. -/
def World.over (w x : World) : World := { heap := w.heap ++ x.heap, tape := w.tape, drawn := x.drawn, os := w.os, output := w.output }

theorem below_over (w x : World) : Below w.heap.size w (World.over w x) := by
  refine ⟨rfl, rfl, rfl, by simp [World.over], fun k hk => ?_⟩
  simp only [World.over]
  rw [Array.getElem?_append_left hk]

theorem over_of_below {w w' : World} (h : Below w.heap.size w w') : ∃ x, w' = World.over w x := by
  refine ⟨{ w' with heap := w'.heap.extract w.heap.size w'.heap.size }, ?_⟩
  have : w'.heap = w.heap ++ w'.heap.extract w.heap.size w'.heap.size := by
    apply Array.ext_getElem?
    intro i
    by_cases hi : i < w.heap.size
    · rw [Array.getElem?_append_left hi, h.block i hi]
    · rw [Array.getElem?_append_right (by omega)]
      rw [Array.getElem?_extract]
      have := h.size
      by_cases h2 : i < w'.heap.size
      · rw [if_pos (by omega)]
        congr 1
        omega
      · rw [if_neg (by omega)]
        simp [h2]
  cases w'
  simp only [World.over, World.mk.injEq]
  exact ⟨this, h.tape, trivial, h.os, h.output⟩

theorem cell_over {w x : World} {b i : Nat} (h : b < w.heap.size) : (World.over w x).cell? ⟨b, i, none⟩ = w.cell? ⟨b, i, none⟩ := (below_over w x).cell (p := ⟨b, i, none⟩) h
theorem frozen_over {w x : World} {b i : Nat} (h : b < w.heap.size) : (World.over w x).frozen? ⟨b, i, none⟩ = w.frozen? ⟨b, i, none⟩ := (below_over w x).frozen (p := ⟨b, i, none⟩) h
end Go.Proofs.YtofgajlpdnokdaaDoor
