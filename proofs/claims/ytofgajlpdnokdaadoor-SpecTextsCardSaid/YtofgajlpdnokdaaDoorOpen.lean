/- Arguments opened: structs of numbers and bools, nested or not, and slices of such, give cells of the kinds that their types say. Plain: no condition besides the types' shapes. -/
import Derived.Test.YtofgajlpdnokdaaDoorGlue
import Derived.Deep.Slices
import Derived.Deep.QuietTactic
namespace Go.Proofs.YtofgajlpdnokdaaDoor
set_option linter.unusedVariables false
open Go.ChangeShapes Go.WideShapes Go.ChangeAt Go.RowKit

theorem hide {p : Prop} (h : p) : Hid p := h

theorem below_drewN {B : Nat} {a w : World} (h : Below B a w) (n : Nat) : Below B a (w.drewN n) := ⟨h.os, h.tape, h.output, h.size, h.block⟩

def flatFields (F : TypeId → Option (List (Option IntKind))) (P : Program) : List Field → Nat → Option (List (Option IntKind))
  | [], _ => some []
  | f :: fs, off => if f.offset = off then (F f.type).bind fun ks => if P.cellsOf f.type = ks.length then (flatFields F P fs (off + ks.length)).map (ks ++ ·) else none else none

/-- The kinds of the cells of a type: 'some k': an integer of kind k; 'none': a bool. -/
def flatKinds (P : Program) : Nat → TypeId → Option (List (Option IntKind))
  | 0, _ => none
  | n + 1, t => match P.underlying t with
    | some (.int k) => some [some k]
    | some .bool => some [none]
    | some (.struct fs) => (flatFields (flatKinds P n) P fs.toList 0).bind fun ks => if P.cellsOf t = ks.length then some ks else none
    | _ => none

def Fits : List (Option IntKind) → List Value → Prop
  | [], [] => True
  | some k :: ks, .int k' n :: vs => k' = k ∧ (Lit.int k n).wf = true ∧ Fits ks vs
  | none :: ks, .bool _ :: vs => Fits ks vs
  | _, _ => False

theorem Fits.append : ∀ {a : List (Option IntKind)} {x : List Value} {b : List (Option IntKind)} {y : List Value}, Fits a x → Fits b y → Fits (a ++ b) (x ++ y)
  | [], [], _, _, _, h => h
  | some k :: a, .int k' n :: x, _, _, h, h' => ⟨h.1, h.2.1, Fits.append h.2.2 h'⟩
  | none :: a, .bool _ :: x, _, _, h, h' => Fits.append (a := a) (x := x) h h'

theorem Fits.length : ∀ {a : List (Option IntKind)} {x : List Value}, Fits a x → x.length = a.length
  | [], [], _ => rfl
  | some k :: a, .int k' n :: x, h => by simp [Fits.length h.2.2]
  | none :: a, .bool _ :: x, h => by
    have h' : Fits a x := h
    simp [Fits.length h']

theorem Fits.int1 {k : IntKind} {ks : List (Option IntKind)} {x : List Value} (h : Fits (some k :: ks) x) : ∃ n y, x = .int k n :: y ∧ (Lit.int k n).wf = true ∧ Fits ks y := by
  match x, h with
  | .int k' n :: y, h => obtain ⟨rfl, h1, h2⟩ := h; exact ⟨n, y, rfl, h1, h2⟩
theorem Fits.bool1 {ks : List (Option IntKind)} {x : List Value} (h : Fits (none :: ks) x) : ∃ b y, x = .bool b :: y ∧ Fits ks y := by
  match x, h with
  | .bool b :: y, h => exact ⟨b, y, rfl, h⟩
theorem Fits.nil0 {x : List Value} (h : Fits [] x) : x = [] := by
  match x, h with
  | [], _ => rfl

section
variable {H : Type} {enc : TypeId × Value → H} {P : Program} {w : World} {base : Nat} {spare : Nat → Bool} {held : Bool}

theorem fits_fields {F : TypeId → Option (List (Option IntKind))} {n : Nat} {cs : List Value}
    (hF : ∀ t ks cs x, F t = some ks → DataW.trod enc P w base spare held n t cs = some x → Fits ks cs) :
    ∀ (fs : List Field) (off : Nat) (ks : List (Option IntKind)), flatFields F P fs off = some ks →
      (∀ f ∈ fs, ∃ x, DataW.trod enc P w base spare held n f.type ((cs.drop f.offset).take (P.cellsOf f.type)) = some x) →
      cs.length = off + ks.length → Fits ks (cs.drop off)
  | [], off, ks, h, _, hl => by
    simp only [flatFields, Option.some.injEq] at h
    subst h
    rw [List.drop_of_length_le (by simp at hl; omega)]
    trivial
  | f :: fs, off, ks, h, hx, hl => by
    simp only [flatFields] at h
    split at h
    case isFalse => cases h
    case isTrue ho =>
    obtain ⟨kf, hkf, h⟩ := Option.bind_eq_some_iff.1 h
    split at h
    case isFalse => cases h
    case isTrue hc =>
    obtain ⟨kr, hkr, rfl⟩ := Option.map_eq_some_iff.1 h
    obtain ⟨x, h0⟩ := hx f (by simp)
    have h1 := hF _ _ _ _ hkf h0
    rw [ho, hc] at h1
    have h2 := fits_fields hF fs (off + kf.length) kr hkr (fun g hg => hx g (by simp [hg])) (by simp at hl; omega)
    have := h1.append h2
    rw [← List.drop_drop, List.take_append_drop] at this
    exact this

theorem fits_of_trod : ∀ (n : Nat) {fuel : Nat} {t : TypeId} {ks : List (Option IntKind)} {cs : List Value} {x : DataW H × List MemPlace}, flatKinds P n t = some ks →
    DataW.trod enc P w base spare held fuel t cs = some x → Fits ks cs
  | 0, _, _, _, _, _, h, _ => by simp [flatKinds] at h
  | n + 1, fuel, t, ks, cs, x, h, hx => by
    simp only [flatKinds] at h
    split at h
    · rename_i k hk
      obtain ⟨v, rfl, _, hw⟩ := DataW.trod_int hk hx
      simp only [Option.some.injEq] at h
      subst h
      exact ⟨rfl, hw, trivial⟩
    · rename_i hk
      obtain ⟨b, rfl, _⟩ := DataW.trod_bool hk hx
      simp only [Option.some.injEq] at h
      subst h
      trivial
    · rename_i fs hk
      obtain ⟨kr, hkr, h⟩ := Option.bind_eq_some_iff.1 h
      split at h
      case isFalse => cases h
      case isTrue hc =>
      simp only [Option.some.injEq] at h
      subst h
      obtain ⟨xs, m, rfl, _, hlen, hxl, hf⟩ := DataW.trod_struct hk hx
      have := fits_fields (cs := cs) (F := flatKinds P n) (n := m) (enc := enc) (P := P) (w := w) (base := base) (spare := spare) (held := held)
        (fun t ks cs x h1 h2 => fits_of_trod n h1 h2) fs.toList 0 kr hkr (fun f hf' => by
          obtain ⟨i, hi, rfl⟩ := List.mem_iff_getElem.1 hf'
          have hi' : i < fs.size := by simpa using hi
          have e := hf i (fs[i]) (by simp [hi'])
          have hxi : i < xs.length := by rw [hxl]; exact hi'
          rw [List.getElem?_eq_getElem hxi] at e
          exact ⟨xs[i], by simpa using e⟩) (by omega)
      simpa using this
    · cases h

/-- A struct of numbers and bools, by value. -/
theorem open_flat {r : Reach} {b0 : Nat} {t : TypeId} {fs : Array Field} {n : Nat} {ks : List (Option IntKind)} {v : Value} {d : DataW H} {p : List MemPlace}
    (hs : P.underlying t = some (.struct fs)) (hk : flatKinds P n t = some ks) (hv : Value.okWide P w r b0 t v) (h : DataW.Trod enc P w base spare held t v d p) :
    ∃ cs : List Value, v = .agg cs.toArray ∧ Fits ks cs := by
  obtain ⟨cs, rfl, hsz⟩ := okWide_struct hs hv
  obtain ⟨fuel, hf⟩ := h
  exact ⟨cs.toList, by simp, by simpa [Value.cells] using fits_of_trod n hk hf⟩

/-- 'v' is a slice of rows of cells, each of sz cells. -/
def SlAt (w : World) (sz : Nat) (v : Value) (xs : List (List Value)) : Prop :=
  ∃ a cap, v = .slice a xs.length cap ∧ xs.length ≤ cap ∧ (a = none → cap = 0) ∧
    ∀ i, i < xs.length → ∃ g o, a = some ⟨g, o, none⟩ ∧ ∀ j u, (xs.getD i [])[j]? = some u → w.cell? ⟨g, o + i * sz + j, none⟩ = some u

theorem open_flats {t e : TypeId} {n : Nat} {ks : List (Option IntKind)} {r : Reach} {b0 : Nat} {v : Value} {d : DataW H} {p : List MemPlace}
    (ht : P.underlying t = some (.slice e)) (hk : flatKinds P n e = some ks) (hc : P.cellsOf e = ks.length) (h0 : 0 < ks.length)
    (hv : Value.okWide P w r b0 t v) (h : DataW.Trod enc P w base spare held t v d p) :
    ∃ xs : List (List Value), SlAt w ks.length v xs ∧ (∀ x ∈ xs, Fits ks x) ∧ xs.length ≤ maxLen := by
  obtain ⟨a0, len, cap, rfl⟩ := okWide_slice ht hv
  obtain ⟨fuel, hf⟩ := h
  rcases Go.Deep.open_slice ht hf with ⟨hcs, _⟩ | ⟨a, len', cap', m, k, D, Pl, hcs, _, hl, hm, hmm, _, hi⟩
  · simp [Value.cells] at hcs
    obtain ⟨rfl, rfl, rfl⟩ := hcs
    exact ⟨[], ⟨none, 0, rfl, Nat.le_refl _, fun _ => rfl, fun i hi => absurd hi (by simp)⟩, by simp, by simp⟩
  · simp [Value.cells] at hcs
    obtain ⟨rfl, rfl, rfl⟩ := hcs
    obtain ⟨f, hfs⟩ := Go.Deep.choose_lt (α := List Value) (n := len) (p := fun i cs' => w.cells? base (a.add (i * P.cellsOf e)) (P.cellsOf e) = some cs' ∧ Fits ks cs') (fun i hil => by
      obtain ⟨cs', h1, h2⟩ := hi i (by rw [hmm]; split <;> omega)
      exact ⟨cs', h1, fits_of_trod n hk h2⟩)
    refine ⟨(List.range len).map f, ⟨some a, cap, by simp, by simpa using hl, by simp, fun i hil => ?_⟩, ?_, by simp; omega⟩
    · have hil' : i < len := by simpa using hil
      obtain ⟨h1, h2⟩ := hfs i hil'
      obtain ⟨_, hlen, hat⟩ := World.cells?_some h1
      obtain ⟨b, off, spot⟩ := a
      have hspot : spot = none := by
        obtain ⟨q1, q2⟩ := hfs 0 (by omega)
        obtain ⟨_, qlen, qat⟩ := World.cells?_some q1
        have := qat 0 (by omega)
        rw [List.getElem?_eq_getElem (by omega)] at this
        have h3 := World.cell?_spot this
        simpa [Addr.add] using h3
      subst hspot
      refine ⟨b, off, rfl, fun j u hu => ?_⟩
      have hj : j < ks.length := by
        have := (List.getElem?_eq_some_iff.1 hu).1
        have hfl := h2.length
        simp [List.getD, hil'] at this
        omega
      have := hat j (by omega)
      rw [Go.Deep.add_add] at this
      simp [List.getD, hil'] at hu
      rw [hu] at this
      rw [← this, hc]
      simp only [Addr.add]
      split
      · rename_i hz
        congr 2
        omega
      · simp [Nat.add_assoc]
    · intro x hx
      obtain ⟨i, hi', rfl⟩ := List.mem_map.1 hx
      exact (hfs i (by simpa using hi')).2
end

theorem SlAt.below {w w' : World} {B sz : Nat} {v : Value} {xs : List (List Value)} (h : SlAt w sz v xs) (hb : Below B w w') (hB : w.heap.size ≤ B) : SlAt w' sz v xs := by
  obtain ⟨a, cap, rfl, hc, hn, hx⟩ := h
  refine ⟨a, cap, rfl, hc, hn, fun i hi => ?_⟩
  obtain ⟨g, o, rfl, hj⟩ := hx i hi
  refine ⟨g, o, rfl, fun j u hu => ?_⟩
  have h1 := hj j u hu
  have hg : g < w.heap.size := by
    unfold World.cell? at h1
    split at h1
    · rename_i h2
      exact (Array.getElem?_eq_some_iff.1 h2).1
    · cases h1
  rw [hb.cell (by show g < B; omega)]
  exact h1

theorem typed_list {T : Type} (cells : T → List Value) (wf : T → Prop) : ∀ (xs : List (List Value)), (∀ x ∈ xs, ∃ p, x = cells p ∧ wf p) → ∃ l : List T, xs = l.map cells ∧ ∀ p ∈ l, wf p
  | [], _ => ⟨[], rfl, by simp⟩
  | x :: xs, h => by
    obtain ⟨p, rfl, hp⟩ := h x (by simp)
    obtain ⟨l, rfl, hl⟩ := typed_list cells wf xs (fun y hy => h y (by simp [hy]))
    exact ⟨p :: l, rfl, by simpa using ⟨hp, hl⟩⟩

/-- A slice of records. -/
def RowAt {T : Type} (cells : T → List Value) (sz : Nat) (w : World) (a : Option Addr) (l : List T) : Prop :=
  ∀ (i : Nat) (h : i < l.length), ∃ g o, a = some ⟨g, o, none⟩ ∧ ∀ j u, (cells l[i])[j]? = some u → w.cell? ⟨g, o + i * sz + j, none⟩ = some u

theorem SlAt.row {T : Type} {cells : T → List Value} {w : World} {sz : Nat} {v : Value} {l : List T} (h : SlAt w sz v (l.map cells)) :
    ∃ a cap, v = .slice a l.length cap ∧ l.length ≤ cap ∧ (a = none → cap = 0) ∧ RowAt cells sz w a l := by
  obtain ⟨a, cap, rfl, hc, hn, hx⟩ := h
  refine ⟨a, cap, by simp, by simpa using hc, hn, fun i hi => ?_⟩
  have := hx i (by simpa using hi)
  simpa [List.getD, hi] using this

theorem cell_lt {w : World} {p : Addr} {u : Value} (h1 : w.cell? p = some u) : p.block < w.heap.size := by
  unfold World.cell? at h1
  split at h1
  · rename_i h2
    exact (Array.getElem?_eq_some_iff.1 h2).1
  · cases h1

theorem RowAt.below {T : Type} {cells : T → List Value} {sz : Nat} {w w' : World} {a : Option Addr} {l : List T} (h : RowAt cells sz w a l) (hb : Below w.heap.size w w') : RowAt cells sz w' a l := by
  intro i hi
  obtain ⟨g, o, rfl, hj⟩ := h i hi
  refine ⟨g, o, rfl, fun j u hu => ?_⟩
  rw [hb.cell (cell_lt (hj j u hu))]
  exact hj j u hu
end Go.Proofs.YtofgajlpdnokdaaDoor
