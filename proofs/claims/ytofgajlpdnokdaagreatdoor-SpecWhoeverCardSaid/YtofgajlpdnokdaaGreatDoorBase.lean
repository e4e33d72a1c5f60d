/- Base, as one text: Glue GlueL Open Plan Heap Rec Held Ord Alls AllsN Mix. -/
import Derived.Test.YtofgajlpdnokdaaGreatDoorRows
import Derived.WalkKit
import Derived.ProofKit
import Derived.OpenShut
import Derived.SizedLaws
import Derived.Carry
import Derived.HandedShaped
import Derived.Handed
import Derived.LaidMore
import Derived.Lay
import Derived.Stop.Joined
import Derived.Deep.Slices
import Derived.Deep.QuietTactic
import Derived.StillTail
import Derived.BigQuiet
import Derived.Laws.OwnMore
import Derived.Maps.AppendAt
import Derived.Laws.AppendOwnNone
import Derived.Laws.CopyRow
import Derived.Laws.IdiomCopy
import Derived.OrdersHeld
/- The step from a walk ("the call returns true and changes no old block") to a law's row: for every law whose parameters can be read as data. Conditions: no listed variables, one bool result. -/
namespace Go.Proofs.YtofgajlpdnokdaaGreatDoor
open Go.ChangeShapes Go.WideShapes Go.ChangeAt Go.RowKit

theorem trodAll_below {H : Type} {enc : TypeId × Value → H} {P : Program} (hl : laidOutB P = true) {W W' : World} (hb : Below W.heap.size W W') :
    ∀ (ts : List TypeId) (vs : List Value) (ds : List (DataW H)) (ps : List MemPlace), (ts.all fun t => P.readableRec t && decide (t < P.types.size)) = true →
      DataW.TrodAll enc P W 0 (fun _ => true) true ts vs ds ps → (∀ x ∈ ps, x.block < W.heap.size) →
      DataW.TrodAll enc P W' 0 (fun b => decide (b < W.heap.size)) true ts vs ds ps
  | [], _, _, _, _, h, _ => by
    obtain ⟨rfl, rfl, rfl⟩ := trodAll_nil h
    exact trodAll_mk0
  | t :: ts, vs, ds, ps, hr, h, hlt => by
    obtain ⟨v, vs', d, ds', p, q, rfl, rfl, rfl, h0, r0⟩ := trodAll_cons h
    simp only [List.all_cons, Bool.and_eq_true, decide_eq_true_eq] at hr
    exact trodAll_cons_mk (Below.trod hl hr.1.1 hr.1.2 h0 hb fun x hx => hlt x (List.mem_append_left _ hx))
      (trodAll_below hl hb ts vs' ds' q (by simpa using hr.2) r0 fun x hx => hlt x (List.mem_append_right _ hx))

theorem trodAll_len {H : Type} {enc : TypeId × Value → H} {P : Program} {w : World} {base : Nat} {spare : Nat → Bool} {held : Bool} :
    ∀ (ts : List TypeId) (vs : List Value) (ds : List (DataW H)) (ps : List MemPlace), DataW.TrodAll enc P w base spare held ts vs ds ps → ds.length = ts.length
  | [], _, _, _, h => by
    obtain ⟨_, rfl, _⟩ := trodAll_nil h
    rfl
  | _ :: ts, _, _, _, h => by
    obtain ⟨v, vs', d, ds', p, q, rfl, rfl, rfl, _, r0⟩ := trodAll_cons h
    have := trodAll_len ts vs' ds' q r0
    simp [this]

/-- What a law's walk is asked: the call returns true, and no block that was there has changed. -/
def LawWalk {H : Type} (enc : TypeId × Value → H) (P : Program) (f : FuncId) (fn : Func) : Prop :=
  ∀ (W : World) (base : Nat) (args : Array Value) (ds : List (DataW H)) (p : List MemPlace),
    (∀ (j : Nat) t v, fn.params[j]? = some t → args[j]? = some v → Value.okWide P W .any base t v) →
    DataW.TrodAll enc P W 0 (fun _ => true) true fn.params.toList args.toList ds p →
    (DataW.weightsEach P fn.params.toList ds).all (· ≤ reachBytes) = true →
    (∀ x ∈ p, x.block < W.heap.size) →
    Calls P f args W fun e W' => e = .returned (.bool true) ∧ Below W.heap.size W W'

theorem lifted_of_walk {H : Type} {enc : TypeId × Value → H} {C : Checked} {os : Os} {f : FuncId} {fn : Func} {s : ChangeSpec} {tb : TypeId}
    (own : ownKnob C.prog.godebug = none) (started : os.Started) (noInit : C.prog.inits.idxOf? f = none) (hfn : C.prog.funcs[f]? = some fn)
    (witness : ∃ (w : World) (tape : Tape) (i : Input), w.os = os ∧ (w.forCall tape i).Shaped C.prog ∧ i.vars = [] ∧ Input.okWide C.prog (w.forCall tape i) .any w.heap.size f i ∧
      s.pre6 enc C.prog fn [] false (w.forCall tape i).memory i.args ∧ (({} : Assume)).holds C.prog (lone (Frame.enter C.prog f i.args .normal) [] (w.forCall tape i)))
    (hl : laidOutB C.prog = true) (hr : (fn.params.toList.all fun t => C.prog.readableRec t && decide (t < C.prog.types.size)) = true)
    (hres : fn.resultTypes = #[tb]) (htb : C.prog.underlying tb = some .bool) (hvars : s.vars = [])
    (hspec : ∀ ds : List (DataW H), ds.length = fn.params.size → s.fn H ds = { results := [.lit (.bool true)], args := ds })
    (walk : LawWalk enc C.prog f fn) :
    ReturnsInHanded {} C os f .any (s.pre6 enc C.prog fn [] false) (s.post enc C.prog fn false true false false) := by
  refine returnsInHanded_of_change_sized own started noInit hfn witness ?_
  intro W base args ds gs before hval hW _ hsz _
  have hW' := hW
  obtain ⟨p, q, hA, hV, rfl, _, _⟩ := hW
  have hgs : gs = [] ∧ q = [] := by
    rw [hvars] at hV
    exact trodVars_none hV
  obtain ⟨rfl, rfl⟩ := hgs
  have hvt : s.plain.varTypes C.prog = [] := by
    have : s.plain.vars = [] := hvars
    simp [DataSpec.varTypes, this]
  rw [hvt] at hsz
  simp only [List.append_nil] at hsz hW'
  have hlt : ∀ x ∈ p, x.block < W.heap.size := fun x hx => hW'.lt x hx
  have hlen : ds.length = fn.params.size := by
    have := trodAll_len _ _ _ _ hA
    simpa using this
  refine (walk W base args ds p hval hA hsz hlt).mono fun e W' ⟨he, hb⟩ => ?_
  have e1 := hspec ds hlen
  refine ⟨_, he, ds, [], p, [], p, [], hW', ?_, ?_, ?_, hb.frame _, fun h => by cases h⟩
  · rw [List.append_nil, e1, hres]
    exact trodAll_cons_mk (shut_bool htb true) trodAll_mk0
  · rw [List.append_nil, e1]
    exact trodAll_below hl hb _ _ _ _ hr hA hlt
  · rw [List.append_nil, e1, hvars]
    rfl
end Go.Proofs.YtofgajlpdnokdaaGreatDoor

/- The step from a walk to a law's row where the row lists variables: the walk is handed what they hold, and the world's shape. Conditions: one bool result. -/
namespace Go.Proofs.YtofgajlpdnokdaaGreatDoor
open Go.ChangeShapes Go.WideShapes Go.ChangeAt Go.RowKit

/-- What a law's walk is asked where variables are listed. -/
def LawWalkL {H : Type} (enc : TypeId × Value → H) (P : Program) (laid : List (String × DataW Unit)) (f : FuncId) (fn : Func) : Prop :=
  ∀ (W : World) (base : Nat) (args : Array Value) (ds : List (DataW H)) (p : List MemPlace),
    (∀ (j : Nat) t v, fn.params[j]? = some t → args[j]? = some v → Value.okWide P W .any base t v) →
    DataW.TrodAll enc P W 0 (fun _ => true) true fn.params.toList args.toList ds p →
    (DataW.weightsEach P fn.params.toList ds).all (· ≤ reachBytes) = true →
    (∀ x ∈ p, x.block < W.heap.size) → laidMetH P laid W → W.ShapedOpen P →
    Calls P f args W fun e W' => e = .returned (.bool true) ∧ Below W.heap.size W W'

theorem lifted_of_walk_laid {H : Type} {enc : TypeId × Value → H} {C : Checked} {os : Os} {f : FuncId} {fn : Func} {s : ChangeSpec} {tb : TypeId} {laid : List (String × DataW Unit)}
    (own : ownKnob C.prog.godebug = none) (started : os.Started) (noInit : C.prog.inits.idxOf? f = none) (hfn : C.prog.funcs[f]? = some fn)
    (witness : ∃ (w : World) (tape : Tape) (i : Input), w.os = os ∧ (w.forCall tape i).Shaped C.prog ∧ i.vars = [] ∧ Input.okWide C.prog (w.forCall tape i) .any w.heap.size f i ∧
      ((s.pre enc C.prog fn [] false (w.forCall tape i).memory i.args ∧ laidMetH C.prog laid (w.forCall tape i).memory) ∧ sizedMet enc C.prog fn (OpenSpec.ofChange s) false (w.forCall tape i).memory i.args) ∧ (({} : Assume)).holds C.prog (lone (Frame.enter C.prog f i.args .normal) [] (w.forCall tape i)))
    (hl : laidOutB C.prog = true) (hr : (fn.params.toList.all fun t => C.prog.readableRec t && decide (t < C.prog.types.size)) = true)
    (hres : fn.resultTypes = #[tb]) (htb : C.prog.underlying tb = some .bool) (hvars : s.vars = [])
    (hspec : ∀ ds : List (DataW H), ds.length = fn.params.size → s.fn H ds = { results := [.lit (.bool true)], args := ds })
    (walk : LawWalkL enc C.prog laid f fn) :
    ReturnsInHanded {} C os f .any (fun w args => (s.pre enc C.prog fn [] false w args ∧ laidMetH C.prog laid w) ∧ sizedMet enc C.prog fn (OpenSpec.ofChange s) false w args) (s.post enc C.prog fn false true false false) := by
  refine returnsInHanded_of_calls own started noInit witness ?_
  intro w tape i _ hsh _ hok hpre hholds
  obtain ⟨_, _, _, fn', hfn', _, _, _, _, hval⟩ := hok
  have e : fn' = fn := Option.some.inj (hfn'.symm.trans hfn)
  subst e
  obtain ⟨⟨⟨ds, gs, before, hw, hc⟩, hx⟩, hz⟩ := hpre
  have hW := DataW.Whole.of_heap (w' := w.forCall tape i) (by rfl) hw
  have hL : laidMetH C.prog laid (w.forCall tape i) := hx.of_heap (by rfl)
  have hsz := hz.weights hw
  have hW' := hW
  obtain ⟨p, q, hA, hV, rfl, _, _⟩ := hW
  have hgs : gs = [] ∧ q = [] := by
    rw [hvars] at hV
    exact trodVars_none hV
  obtain ⟨rfl, rfl⟩ := hgs
  have hvt : DataSpec.varTypes C.prog (OpenSpec.ofChange s).bare.plain = [] := by
    have : (OpenSpec.ofChange s).bare.plain.vars = [] := hvars
    simp [DataSpec.varTypes, this]
  rw [hvt] at hsz
  simp only [List.append_nil] at hsz hW'
  have hlt : ∀ x ∈ p, x.block < (w.forCall tape i).heap.size := fun x hx => hW'.lt x hx
  have hlen : ds.length = fn'.params.size := by
    have := trodAll_len _ _ _ _ hA
    simpa using this
  refine (walk (w.forCall tape i) w.heap.size i.args ds p hval hA hsz hlt hL hsh).mono fun e W' ⟨he, hb⟩ => ?_
  subst he
  have e1 := hspec ds hlen
  refine ChangeSpec.post_blind ⟨ds, [], p, [], p, [], hW', ?_, ?_, ?_, hb.frame _, fun h => by cases h⟩
  · rw [List.append_nil, e1, hres]
    exact trodAll_cons_mk (shut_bool htb true) trodAll_mk0
  · rw [List.append_nil, e1]
    exact trodAll_below hl hb _ _ _ _ hr hA hlt
  · rw [List.append_nil, e1, hvars]
    rfl
end Go.Proofs.YtofgajlpdnokdaaGreatDoor

/- Arguments opened: structs of numbers and bools, nested or not, and slices of such, give cells of the kinds that their types say. Plain: no condition besides the types' shapes. -/
namespace Go.Proofs.YtofgajlpdnokdaaGreatDoor
set_option linter.unusedVariables false
open Go.ChangeShapes Go.WideShapes Go.ChangeAt Go.RowKit

theorem hide {p : Prop} (h : p) : Hid p := h

theorem below_drewN {B : Nat} {a w : World} (h : Below B a w) (n : Nat) : Below B a (w.drewN n) := ⟨h.os, h.tape, h.output, h.size, h.block⟩

def flatFields (F : TypeId → Option (List (Option IntKind))) (P : Program) : List Field → Nat → Option (List (Option IntKind))
  | [], _ => some []
  | f :: fs, off => if f.offset = off then (F f.type).bind fun ks => if P.cellsOf f.type = ks.length then (flatFields F P fs (off + ks.length)).map (ks ++ ·) else none else none

/-- The kinds of the cells of a type: 'some k': an integer of kind k; 'none': a bool. -/
def flatKinds (P : Program) : Nat → TypeId → Option (List (Option IntKind))
  | 0, _ => none
  | n + 1, t => match P.underlying t with
    | some (.int k) => some [some k]
    | some .bool => some [none]
    | some (.struct fs) => (flatFields (flatKinds P n) P fs.toList 0).bind fun ks => if P.cellsOf t = ks.length then some ks else none
    | _ => none

def Fits : List (Option IntKind) → List Value → Prop
  | [], [] => True
  | some k :: ks, .int k' n :: vs => k' = k ∧ (Lit.int k n).wf = true ∧ Fits ks vs
  | none :: ks, .bool _ :: vs => Fits ks vs
  | _, _ => False

theorem Fits.append : ∀ {a : List (Option IntKind)} {x : List Value} {b : List (Option IntKind)} {y : List Value}, Fits a x → Fits b y → Fits (a ++ b) (x ++ y)
  | [], [], _, _, _, h => h
  | some k :: a, .int k' n :: x, _, _, h, h' => ⟨h.1, h.2.1, Fits.append h.2.2 h'⟩
  | none :: a, .bool _ :: x, _, _, h, h' => Fits.append (a := a) (x := x) h h'

theorem Fits.length : ∀ {a : List (Option IntKind)} {x : List Value}, Fits a x → x.length = a.length
  | [], [], _ => rfl
  | some k :: a, .int k' n :: x, h => by simp [Fits.length h.2.2]
  | none :: a, .bool _ :: x, h => by
    have h' : Fits a x := h
    simp [Fits.length h']

theorem Fits.int1 {k : IntKind} {ks : List (Option IntKind)} {x : List Value} (h : Fits (some k :: ks) x) : ∃ n y, x = .int k n :: y ∧ (Lit.int k n).wf = true ∧ Fits ks y := by
  match x, h with
  | .int k' n :: y, h => obtain ⟨rfl, h1, h2⟩ := h; exact ⟨n, y, rfl, h1, h2⟩
theorem Fits.bool1 {ks : List (Option IntKind)} {x : List Value} (h : Fits (none :: ks) x) : ∃ b y, x = .bool b :: y ∧ Fits ks y := by
  match x, h with
  | .bool b :: y, h => exact ⟨b, y, rfl, h⟩
theorem Fits.nil0 {x : List Value} (h : Fits [] x) : x = [] := by
  match x, h with
  | [], _ => rfl

section
variable {H : Type} {enc : TypeId × Value → H} {P : Program} {w : World} {base : Nat} {spare : Nat → Bool} {held : Bool}

theorem fits_fields {F : TypeId → Option (List (Option IntKind))} {n : Nat} {cs : List Value}
    (hF : ∀ t ks cs x, F t = some ks → DataW.trod enc P w base spare held n t cs = some x → Fits ks cs) :
    ∀ (fs : List Field) (off : Nat) (ks : List (Option IntKind)), flatFields F P fs off = some ks →
      (∀ f ∈ fs, ∃ x, DataW.trod enc P w base spare held n f.type ((cs.drop f.offset).take (P.cellsOf f.type)) = some x) →
      cs.length = off + ks.length → Fits ks (cs.drop off)
  | [], off, ks, h, _, hl => by
    simp only [flatFields, Option.some.injEq] at h
    subst h
    rw [List.drop_of_length_le (by simp at hl; omega)]
    trivial
  | f :: fs, off, ks, h, hx, hl => by
    simp only [flatFields] at h
    split at h
    case isFalse => cases h
    case isTrue ho =>
    obtain ⟨kf, hkf, h⟩ := Option.bind_eq_some_iff.1 h
    split at h
    case isFalse => cases h
    case isTrue hc =>
    obtain ⟨kr, hkr, rfl⟩ := Option.map_eq_some_iff.1 h
    obtain ⟨x, h0⟩ := hx f (by simp)
    have h1 := hF _ _ _ _ hkf h0
    rw [ho, hc] at h1
    have h2 := fits_fields hF fs (off + kf.length) kr hkr (fun g hg => hx g (by simp [hg])) (by simp at hl; omega)
    have := h1.append h2
    rw [← List.drop_drop, List.take_append_drop] at this
    exact this

theorem fits_of_trod : ∀ (n : Nat) {fuel : Nat} {t : TypeId} {ks : List (Option IntKind)} {cs : List Value} {x : DataW H × List MemPlace}, flatKinds P n t = some ks →
    DataW.trod enc P w base spare held fuel t cs = some x → Fits ks cs
  | 0, _, _, _, _, _, h, _ => by simp [flatKinds] at h
  | n + 1, fuel, t, ks, cs, x, h, hx => by
    simp only [flatKinds] at h
    split at h
    · rename_i k hk
      obtain ⟨v, rfl, _, hw⟩ := DataW.trod_int hk hx
      simp only [Option.some.injEq] at h
      subst h
      exact ⟨rfl, hw, trivial⟩
    · rename_i hk
      obtain ⟨b, rfl, _⟩ := DataW.trod_bool hk hx
      simp only [Option.some.injEq] at h
      subst h
      trivial
    · rename_i fs hk
      obtain ⟨kr, hkr, h⟩ := Option.bind_eq_some_iff.1 h
      split at h
      case isFalse => cases h
      case isTrue hc =>
      simp only [Option.some.injEq] at h
      subst h
      obtain ⟨xs, m, rfl, _, hlen, hxl, hf⟩ := DataW.trod_struct hk hx
      have := fits_fields (cs := cs) (F := flatKinds P n) (n := m) (enc := enc) (P := P) (w := w) (base := base) (spare := spare) (held := held)
        (fun t ks cs x h1 h2 => fits_of_trod n h1 h2) fs.toList 0 kr hkr (fun f hf' => by
          obtain ⟨i, hi, rfl⟩ := List.mem_iff_getElem.1 hf'
          have hi' : i < fs.size := by simpa using hi
          have e := hf i (fs[i]) (by simp [hi'])
          have hxi : i < xs.length := by rw [hxl]; exact hi'
          rw [List.getElem?_eq_getElem hxi] at e
          exact ⟨xs[i], by simpa using e⟩) (by omega)
      simpa using this
    · cases h

/-- A struct of numbers and bools, by value. -/
theorem open_flat {r : Reach} {b0 : Nat} {t : TypeId} {fs : Array Field} {n : Nat} {ks : List (Option IntKind)} {v : Value} {d : DataW H} {p : List MemPlace}
    (hs : P.underlying t = some (.struct fs)) (hk : flatKinds P n t = some ks) (hv : Value.okWide P w r b0 t v) (h : DataW.Trod enc P w base spare held t v d p) :
    ∃ cs : List Value, v = .agg cs.toArray ∧ Fits ks cs := by
  obtain ⟨cs, rfl, hsz⟩ := okWide_struct hs hv
  obtain ⟨fuel, hf⟩ := h
  exact ⟨cs.toList, by simp, by simpa [Value.cells] using fits_of_trod n hk hf⟩

/-- 'v' is a slice of rows of cells, each of sz cells. -/
def SlAt (w : World) (sz : Nat) (v : Value) (xs : List (List Value)) : Prop :=
  ∃ a cap, v = .slice a xs.length cap ∧ xs.length ≤ cap ∧ (a = none → cap = 0) ∧
    ∀ i, i < xs.length → ∃ g o, a = some ⟨g, o, none⟩ ∧ ∀ j u, (xs.getD i [])[j]? = some u → w.cell? ⟨g, o + i * sz + j, none⟩ = some u

theorem open_flats {t e : TypeId} {n : Nat} {ks : List (Option IntKind)} {r : Reach} {b0 : Nat} {v : Value} {d : DataW H} {p : List MemPlace}
    (ht : P.underlying t = some (.slice e)) (hk : flatKinds P n e = some ks) (hc : P.cellsOf e = ks.length) (h0 : 0 < ks.length)
    (hv : Value.okWide P w r b0 t v) (h : DataW.Trod enc P w base spare held t v d p) :
    ∃ xs : List (List Value), SlAt w ks.length v xs ∧ (∀ x ∈ xs, Fits ks x) ∧ xs.length ≤ maxLen := by
  obtain ⟨a0, len, cap, rfl⟩ := okWide_slice ht hv
  obtain ⟨fuel, hf⟩ := h
  rcases Go.Deep.open_slice ht hf with ⟨hcs, _⟩ | ⟨a, len', cap', m, k, D, Pl, hcs, _, hl, hm, hmm, _, hi⟩
  · simp [Value.cells] at hcs
    obtain ⟨rfl, rfl, rfl⟩ := hcs
    exact ⟨[], ⟨none, 0, rfl, Nat.le_refl _, fun _ => rfl, fun i hi => absurd hi (by simp)⟩, by simp, by simp⟩
  · simp [Value.cells] at hcs
    obtain ⟨rfl, rfl, rfl⟩ := hcs
    obtain ⟨f, hfs⟩ := Go.Deep.choose_lt (α := List Value) (n := len) (p := fun i cs' => w.cells? base (a.add (i * P.cellsOf e)) (P.cellsOf e) = some cs' ∧ Fits ks cs') (fun i hil => by
      obtain ⟨cs', h1, h2⟩ := hi i (by rw [hmm]; split <;> omega)
      exact ⟨cs', h1, fits_of_trod n hk h2⟩)
    refine ⟨(List.range len).map f, ⟨some a, cap, by simp, by simpa using hl, by simp, fun i hil => ?_⟩, ?_, by simp; omega⟩
    · have hil' : i < len := by simpa using hil
      obtain ⟨h1, h2⟩ := hfs i hil'
      obtain ⟨_, hlen, hat⟩ := World.cells?_some h1
      obtain ⟨b, off, spot⟩ := a
      have hspot : spot = none := by
        obtain ⟨q1, q2⟩ := hfs 0 (by omega)
        obtain ⟨_, qlen, qat⟩ := World.cells?_some q1
        have := qat 0 (by omega)
        rw [List.getElem?_eq_getElem (by omega)] at this
        have h3 := World.cell?_spot this
        simpa [Addr.add] using h3
      subst hspot
      refine ⟨b, off, rfl, fun j u hu => ?_⟩
      have hj : j < ks.length := by
        have := (List.getElem?_eq_some_iff.1 hu).1
        have hfl := h2.length
        simp [List.getD, hil'] at this
        omega
      have := hat j (by omega)
      rw [Go.Deep.add_add] at this
      simp [List.getD, hil'] at hu
      rw [hu] at this
      rw [← this, hc]
      simp only [Addr.add]
      split
      · rename_i hz
        congr 2
        omega
      · simp [Nat.add_assoc]
    · intro x hx
      obtain ⟨i, hi', rfl⟩ := List.mem_map.1 hx
      exact (hfs i (by simpa using hi')).2
end

theorem SlAt.below {w w' : World} {B sz : Nat} {v : Value} {xs : List (List Value)} (h : SlAt w sz v xs) (hb : Below B w w') (hB : w.heap.size ≤ B) : SlAt w' sz v xs := by
  obtain ⟨a, cap, rfl, hc, hn, hx⟩ := h
  refine ⟨a, cap, rfl, hc, hn, fun i hi => ?_⟩
  obtain ⟨g, o, rfl, hj⟩ := hx i hi
  refine ⟨g, o, rfl, fun j u hu => ?_⟩
  have h1 := hj j u hu
  have hg : g < w.heap.size := by
    unfold World.cell? at h1
    split at h1
    · rename_i h2
      exact (Array.getElem?_eq_some_iff.1 h2).1
    · cases h1
  rw [hb.cell (by show g < B; omega)]
  exact h1

theorem typed_list {T : Type} (cells : T → List Value) (wf : T → Prop) : ∀ (xs : List (List Value)), (∀ x ∈ xs, ∃ p, x = cells p ∧ wf p) → ∃ l : List T, xs = l.map cells ∧ ∀ p ∈ l, wf p
  | [], _ => ⟨[], rfl, by simp⟩
  | x :: xs, h => by
    obtain ⟨p, rfl, hp⟩ := h x (by simp)
    obtain ⟨l, rfl, hl⟩ := typed_list cells wf xs (fun y hy => h y (by simp [hy]))
    exact ⟨p :: l, rfl, by simpa using ⟨hp, hl⟩⟩

/-- A slice of records. -/
def RowAt {T : Type} (cells : T → List Value) (sz : Nat) (w : World) (a : Option Addr) (l : List T) : Prop :=
  ∀ (i : Nat) (h : i < l.length), ∃ g o, a = some ⟨g, o, none⟩ ∧ ∀ j u, (cells l[i])[j]? = some u → w.cell? ⟨g, o + i * sz + j, none⟩ = some u

theorem SlAt.row {T : Type} {cells : T → List Value} {w : World} {sz : Nat} {v : Value} {l : List T} (h : SlAt w sz v (l.map cells)) :
    ∃ a cap, v = .slice a l.length cap ∧ l.length ≤ cap ∧ (a = none → cap = 0) ∧ RowAt cells sz w a l := by
  obtain ⟨a, cap, rfl, hc, hn, hx⟩ := h
  refine ⟨a, cap, by simp, by simpa using hc, hn, fun i hi => ?_⟩
  have := hx i (by simpa using hi)
  simpa [List.getD, hi] using this

theorem cell_lt {w : World} {p : Addr} {u : Value} (h1 : w.cell? p = some u) : p.block < w.heap.size := by
  unfold World.cell? at h1
  split at h1
  · rename_i h2
    exact (Array.getElem?_eq_some_iff.1 h2).1
  · cases h1

theorem RowAt.below {T : Type} {cells : T → List Value} {sz : Nat} {w w' : World} {a : Option Addr} {l : List T} (h : RowAt cells sz w a l) (hb : Below w.heap.size w w') : RowAt cells sz w' a l := by
  intro i hi
  obtain ⟨g, o, rfl, hj⟩ := h i hi
  refine ⟨g, o, rfl, fun j u hu => ?_⟩
  rw [hb.cell (cell_lt (hj j u hu))]
  exact hj j u hu
end Go.Proofs.YtofgajlpdnokdaaGreatDoor

/- A region that draws its order, walked once in the order of its text: some copies of locals first, then operations that only look (in a class of worlds), then a tail in one forced order. For every order that the tape may pick. -/
namespace Go.Proofs.YtofgajlpdnokdaaGreatDoor
set_option linter.unusedVariables false
open Go.RowKit

section
variable {P : Program} {ops : Array Oper} {C : World → Prop} {Q : Exit → Act → World → Prop}

/-- Does operation t wait for operation h, through others too? -/
def waitsOn (ops : Array Oper) : Nat → Nat → Nat → Bool
  | 0, _, _ => false
  | f + 1, t, h => match ops[t]? with
    | some o => o.after.any fun e => Region.binds .any e && (e.on == h || waitsOn ops f e.on h)
    | none => false

def ClosedL (ops : Array Oper) (listed : Array Bool) : Prop :=
  ∀ j oj, ops[j]? = some oj → listed.getD j false = true → ∀ e ∈ oj.after, Region.binds .any e = true → listed.getD e.on false = true

theorem listed_of_waits {listed : Array Bool} (hc : ClosedL ops listed) : ∀ (f t h : Nat),
    (∀ o, ops[t]? = some o → ∀ e ∈ o.after, Region.binds .any e = true → listed.getD e.on false = true) → waitsOn ops f t h = true → listed.getD h false = true
  | 0, _, _, _, hw => by simp [waitsOn] at hw
  | f + 1, t, h, ht, hw => by
    simp only [waitsOn] at hw
    split at hw
    · rename_i o ho
      obtain ⟨e, he, hb⟩ := Array.any_eq_true'.1 hw
      simp only [Bool.and_eq_true, Bool.or_eq_true, beq_iff_eq] at hb
      have h1 := ht o ho e he hb.1
      rcases hb.2 with rfl | h2
      · exact h1
      · exact listed_of_waits hc f e.on h (fun o' ho' e' he' hb' => hc e.on o' ho' h1 e' he' hb') h2
    · cases hw

theorem ClosedL.set {listed : Array Bool} {i : Nat} (hc : ClosedL ops listed) (hi : i ∈ Region.ready .any ops listed) : ClosedL ops (listed.setIfInBounds i true) := by
  obtain ⟨_, oi, hoi, hall⟩ := mem_ready.1 hi
  intro j oj hj hl e he hb
  by_cases hij : i = j
  · subst hij
    have : oj = oi := Option.some.inj (hj.symm.trans hoi)
    subst this
    exact getD_set_true (hall e he hb)
  · rw [getD_set_ne false hij] at hl
    exact getD_set_true (hc j oj hj hl e he hb)

/-- f operations come up, in any order, all quiet in the class; then L. -/
def HeadG (P : Program) (ops : Array Oper) (C : World → Prop) (L : Array Bool → Act → Prop) : Nat → Array Bool → Act → Prop
  | 0, listed, a => L listed a
  | f + 1, listed, a => Region.ready .any ops listed ≠ [] ∧ ∀ i ∈ Region.ready .any ops listed, qOp P ops C i (HeadG P ops C L f (listed.setIfInBounds i true)) a

theorem wpAny_of_headG {L : Array Bool → Act → Prop} {g : Nat} (hL : ∀ listed a w, C w → L listed a → wpAny P .any ops Q g listed a w) :
    ∀ (f : Nat) (listed : Array Bool) (a : Act) (w : World), C w → HeadG P ops C L f listed a → wpAny P .any ops Q (f + g) listed a w
  | 0, listed, a, w, hw, h => by rw [Nat.zero_add]; exact hL _ _ _ hw h
  | f + 1, listed, a, w, hw, h => by
    rw [show f + 1 + g = (f + g) + 1 by omega]
    exact ⟨fun h0 => absurd h0 h.1, fun i hi => wpOp_of_qOp hw (fun a' w' hw' h' => wpAny_of_headG hL f _ a' w' hw' h') (h.2 i hi)⟩

theorem headG_first {i F : Nat} {oi : Oper} {v : Value} {L : Array Bool → Act → Prop} {T : Nat → Prop} (hi : ops[i]? = some oi) (hsel : ∀ (j : Nat) (o : Oper) cs b, ops[j]? = some o → o.op ≠ .select cs b)
    (hdone : ∀ listed a, L listed a → ∀ j ∈ Region.ready .any ops listed, T j) (hneed : ∀ j oj, ops[j]? = some oj → T j → waitsOn ops F j i = true) :
    ∀ (f : Nat) (listed : Array Bool) (a : Act), ClosedL ops listed →
      (∀ j oj, ops[j]? = some oj → j ≠ i → listed.getD j true = false → (∀ e ∈ oj.after, Region.binds .any e = true → e.on ≠ i) → oi.apart ops oj = true) →
      i ∈ Region.ready .any ops listed → YieldsIn P ops C oi v a →
      HeadG P ops C L f (listed.setIfInBounds i true) (a.put oi.dst v) → HeadG P ops C L (f + 1) listed a := by
  intro f
  induction f with
  | zero =>
    intro listed a hcl _ hr hy H
    have hun := (mem_ready.1 hr).1
    refine ⟨fun h => (by rw [h] at hr; cases hr), fun j hj => ?_⟩
    by_cases hji : j = i
    · subst hji; exact hy.qOp hi H
    · obtain ⟨_, oj, hoj, hall⟩ := mem_ready.1 hj
      have hT := hdone _ _ H j (ready_mono hj hji)
      have h1 := listed_of_waits hcl F j i (fun o ho e he hb => by
        have : o = oj := Option.some.inj (ho.symm.trans hoj)
        subst this
        exact hall e he hb) (hneed j oj hoj hT)
      rw [getD_both hun] at h1
      cases h1
  | succ f ih =>
    intro listed a hcl hfree hr hy H
    have hun := (mem_ready.1 hr).1
    refine ⟨fun h => (by rw [h] at hr; cases hr), fun j hj => ?_⟩
    by_cases hji : j = i
    · subst hji; exact hy.qOp hi H
    · have h1 := H.2 j (ready_mono hj hji)
      obtain ⟨hjun, oj, hoj, hall⟩ := mem_ready.1 hj
      have hnot : ∀ e ∈ oj.after, Region.binds .any e = true → e.on ≠ i := fun e he hb heq => by
        have h1 := hall e he hb
        rw [heq, getD_both hun] at h1
        cases h1
      have h2 := qOp_put hoj (hfree j oj hoj hji hjun hnot) (fun cs b => hsel i oi cs b hi) (fun cs b => hsel j oj cs b hoj) hy h1
      have hfree' : ∀ k ok, ops[k]? = some ok → k ≠ i → (listed.setIfInBounds j true).getD k true = false →
          (∀ e ∈ ok.after, Region.binds .any e = true → e.on ≠ i) → oi.apart ops ok = true := fun k ok hk hki hun hno => by
        refine hfree k ok hk hki ?_ hno
        by_cases hjk : j = k
        · subst hjk; exact hjun
        · rw [getD_set_ne true hjk] at hun; exact hun
      refine qOp_mono (fun a' h3 => ih (listed.setIfInBounds j true) a' (hcl.set hj) hfree' (ready_mono hr (Ne.symm hji)) h3.1 ?_) h2
      rw [Array.setIfInBounds_comm _ _ hji]
      exact h3.2

/-- The head, from operation k on, then the tail (from n on). -/
def headOk (ops : Array Oper) (n g : Nat) : Nat → Nat → Array Bool → Bool
  | 0, _, listed => Region.seqB .any ops g n listed
  | f + 1, k, listed => (Region.ready .any ops listed).contains k && Region.free .any ops listed k && headOk ops n g f (k + 1) (listed.setIfInBounds k true)

def tailNeeds (ops : Array Oper) (m n : Nat) : Bool :=
  (List.range ops.size).all fun t => decide (t < n) || (List.range n).all fun h => decide (h < m) || waitsOn ops ops.size t h

theorem headG_lex {m n g : Nat} {Lq : Act → Prop} (hsel : Region.noSelect ops = true) (hn : tailNeeds ops m n = true) :
    ∀ (l : List Oper) (k : Nat) (listed : Array Bool) (a : Act), (∀ j, j < l.length → l[j]? = ops[k + j]?) → k + l.length = n → m ≤ k → ClosedL ops listed →
      headOk ops n g l.length k listed = true → wpQuiet P ops C Lq l a →
      HeadG P ops C (fun listed' a' => Region.seqB .any ops g n listed' = true ∧ Lq a') l.length listed a
  | [], k, listed, a, _, hk, _, _, hB, h => ⟨by simpa [headOk] using hB, h⟩
  | o :: l, k, listed, a, hl, hk, hmk, hcl, hB, h => by
    have h0 : ops[k]? = some o := by simpa using (hl 0 (by simp)).symm
    simp only [List.length_cons, headOk, Bool.and_eq_true] at hB
    obtain ⟨⟨hr, hf⟩, hB'⟩ := hB
    have hkn : k < n := by simp only [List.length_cons] at hk; omega
    have hr' : k ∈ Region.ready .any ops listed := by simpa using hr
    have hst : qOp P ops C k (wpQuiet P ops C Lq l) a := by unfold qOp; simp only [h0]; exact h
    obtain ⟨v, hy, hK⟩ := yieldsIn_of_qOp h0 hst
    refine headG_first (F := ops.size) (T := fun j => n ≤ j) h0 (Region.noSelect_spec hsel) (fun listed' a' hL => seqB_ready hL.1) (fun j oj hj hT => ?_) l.length listed a hcl (Region.free_spec h0 hf) hr' hy
      (headG_lex hsel hn l (k + 1) _ _ (fun j hj => by have := hl (j + 1) (by simp; omega); simpa [Nat.add_assoc, Nat.add_comm 1 j] using this) (by simp only [List.length_cons] at hk; omega) (by omega) (hcl.set hr') hB' hK)
    have hjs : j < ops.size := (Array.getElem?_eq_some_iff.1 hj).1
    have h1 := List.all_eq_true.1 hn j (List.mem_range.2 hjs)
    simp only [Bool.or_eq_true, decide_eq_true_eq] at h1
    rcases h1 with h1 | h1
    · omega
    · have h2 := List.all_eq_true.1 h1 k (List.mem_range.2 hkn)
      simp only [Bool.or_eq_true, decide_eq_true_eq] at h2
      rcases h2 with h2 | h2
      · omega
      · exact h2

/-- A copy of a local or a constant into a temporary, unguarded. -/
def isCopy (o : Oper) : Bool := match o with
  | { dst := some _, op := .move _, guard := none, .. } => true
  | _ => false

theorem isCopy_spec {o : Oper} (h : isCopy o = true) : ∃ d x, o.dst = some d ∧ o.op = .move x ∧ o.guard = none := by
  unfold isCopy at h
  split at h
  · exact ⟨_, _, rfl, rfl, rfl⟩
  · cases h

def copiesOk (ops : Array Oper) (m n g h : Nat) : Nat → Nat → Array Bool → Bool
  | 0, k, listed => headOk ops n g h k listed
  | f + 1, k, listed => (Region.ready .any ops listed).contains k && Region.free .any ops listed k && ((ops[k]?).map isCopy).getD false && copiesOk ops m n g h f (k + 1) (listed.setIfInBounds k true)

/-- The first m operations are copies; those up to n only look; the rest comes one behind the other. -/
def planB (ops : Array Oper) (m n : Nat) : Bool :=
  Region.noSelect ops && decide (m ≤ n) && decide (n ≤ ops.size) && tailNeeds ops m n && copiesOk ops m n (ops.size - n) (n - m) m 0 (Array.replicate ops.size false)

theorem copies_lex {m n g : Nat} (hC : ∃ w, C w) (hsel : Region.noSelect ops = true) (hn : tailNeeds ops m n = true)
    (hQ : ∀ c (a : Act) (d : Tmp) v w, Q (.panic c) (a.put (some d) v) w → Q (.panic c) a w) {rest : List Oper} (hrl : rest.length = n - m) (hmn : m ≤ n) (hg : ops.size = n + g)
    (hrest : ∀ j, j < rest.length → rest[j]? = ops[m + j]?) (tl : List Oper) (htl : ∀ j, tl[j]? = ops[n + j]?) (htg : tl.length = g) :
    ∀ (l : List Oper) (k : Nat) (listed : Array Bool) (a : Act) (w : World), C w → (∀ j, j < l.length → l[j]? = ops[k + j]?) → k + l.length = m → ClosedL ops listed →
      copiesOk ops m n g (n - m) l.length k listed = true → wpQuiet P ops C (fun a' => ∀ w', C w' → wpList P ops Q tl a' w') (l ++ rest) a →
      wpAny P .any ops Q (l.length + ((n - m) + g)) listed a w
  | [], k, listed, a, w, hw, _, hk, hcl, hB, h => by
    have hkm : k = m := by simpa using hk
    subst hkm
    simp only [List.length_nil, Nat.zero_add]
    have H := headG_lex (P := P) (C := C) (g := g) hsel hn rest k listed a hrest (by omega) (Nat.le_refl _) hcl (by rw [hrl]; simpa [copiesOk] using hB) (by simpa using h)
    rw [hrl] at H
    refine wpAny_of_headG (fun listed' a' w' hw' hL => ?_) _ _ _ _ hw H
    have := wpAny_of_seq (P := P) (md := .any) (ops := ops) (Q' := Q) tl n listed' a' w' htl (by rw [htg]; exact hL.1) (hL.2 w' hw')
    rwa [htg] at this
  | o :: l, k, listed, a, w, hw, hl, hk, hcl, hB, h => by
    have h0 : ops[k]? = some o := by simpa using (hl 0 (by simp)).symm
    simp only [List.length_cons, copiesOk, Bool.and_eq_true] at hB
    obtain ⟨⟨⟨hr, hf⟩, hcp⟩, hB'⟩ := hB
    have hr' : k ∈ Region.ready .any ops listed := by simpa using hr
    rw [h0] at hcp
    simp only [Option.map_some, Option.getD_some] at hcp
    obtain ⟨dst, op, type, pos, after, guard⟩ := o
    obtain ⟨d, x, e1, e2, e3⟩ := isCopy_spec hcp
    dsimp only at e1 e2 e3
    subst e1 e2 e3
    have hyld : Yields P ops ⟨some d, .move x, type, pos, after, none⟩ (a.eval x) a := .inl ⟨rfl, fun w' => rfl⟩
    have hlen : (⟨some d, .move x, type, pos, after, none⟩ :: l : List Oper).length + ((n - m) + g) = (l.length + ((n - m) + g)) + 1 := by simp; omega
    rw [hlen]
    refine wpAny_first (md := .any) h0 (Region.noSelect_spec hsel) (fun c a' w' hq => hQ c a' d _ w' hq) _ listed a w (Region.free_spec h0 hf) hr' hyld ?_
    refine copies_lex hC hsel hn hQ hrl hmn hg hrest tl htl htg l (k + 1) _ _ w hw (fun j hj => by have := hl (j + 1) (by simp; omega); simpa [Nat.add_assoc, Nat.add_comm 1 j] using this) (by simp only [List.length_cons] at hk; omega) (hcl.set hr') hB' ?_
    have h' : Oper.quiet P ⟨some d, .move x, type, pos, after, none⟩ a C (wpQuiet P ops C (fun a' => ∀ w', C w' → wpList P ops Q tl a' w') (l ++ rest)) := h
    obtain ⟨v, hv, hK⟩ := h'
    have hv1 := hv w hw
    have hv2 : w = w ∧ a.eval x = v := hv1
    rw [hv2.2]
    exact hK

theorem wp_region_plan {id : Nat} {a : Act} {w : World} {l : List Oper} (m n : Nat) (C : World → Prop) (hm : P.follows .mixedOrders = true) (hB : planB l.toArray m n = true) (hC : C w.drew)
    (hQ : ∀ c (a : Act) (d : Tmp) v w, Q (.panic c) (a.put (some d) v) w → Q (.panic c) a w)
    (h : wpQuiet P l.toArray C (fun a' => ∀ w', C w' → wpList P l.toArray Q (l.drop n) a' w') (l.take n) a) : (Code.region id l.toArray true).wp P Q a w := by
  simp only [planB, Bool.and_eq_true, decide_eq_true_eq] at hB
  obtain ⟨⟨⟨⟨hsel, hmn⟩, hns⟩, hnd⟩, hcp⟩ := hB
  have hsz : l.toArray.size = l.length := by simp
  rw [hsz] at hns
  refine wp_region_any hm ?_
  have hcl : ClosedL l.toArray (Array.replicate l.toArray.size false) := fun j oj _ hl => by rw [getD_replicate_false] at hl; cases hl
  have hsplit : (l.take n) = l.take m ++ (l.drop m).take (n - m) := by
    have : n = m + (n - m) := by omega
    conv => lhs; rw [this]
    rw [List.take_add]
  rw [hsplit] at h
  have := copies_lex (P := P) (ops := l.toArray) (C := C) (Q := Q) (m := m) (n := n) (g := l.toArray.size - n) ⟨_, hC⟩ hsel hnd hQ (rest := (l.drop m).take (n - m)) (by simp; omega) hmn (by rw [hsz]; omega)
    (fun j hj => by
      have hj' : j < n - m := by simp at hj; omega
      simp [List.getElem?_drop, hj']) (l.drop n) (fun j => by simp [List.getElem?_drop]) (by simp) (l.take m) 0 _ a _ hC
    (fun j hj => by
      have hj' : j < m := by simp at hj; omega
      simp [hj']) (by simp; omega) hcl (by
      have e : (l.take m).length = m := by simp; omega
      rw [e]; exact hcp) h
  have e : (l.take m).length + (n - m + (l.toArray.size - n)) = l.toArray.size := by simp; omega
  rw [e] at this
  exact this

/-- .. where what looks may draw, and makes no memory. -/
theorem wp_region_planq {id : Nat} {a : Act} {w : World} {l : List Oper} (m n : Nat) (hm : P.follows .mixedOrders = true) (hB : planB l.toArray m n = true)
    (hQ : ∀ c (a : Act) (d : Tmp) v w, Q (.panic c) (a.put (some d) v) w → Q (.panic c) a w)
    (h : wpQuiet P l.toArray (fun w' => ∃ n, w' = w.drewN n) (fun a' => ∀ w', (∃ n, w' = w.drewN n) → wpList P l.toArray Q (l.drop n) a' w') (l.take n) a) : (Code.region id l.toArray true).wp P Q a w :=
  wp_region_plan m n _ hm hB ⟨1, rfl⟩ hQ h
end

/-- A callee that draws, met behind earlier draws. -/
theorem quiet_add {P : Program} {f : FuncId} {args : Array Value} {w : World} {a n : Nat} {v : Value}
    (h : Calls P f args (w.drewN (a + n)) fun e w' => e = .returned v ∧ ∃ m, w' = (w.drewN (a + n)).drewN m) :
    Calls P f args (w.drewN (a + n)) fun e w'' => e = .returned v ∧ ∃ m, w'' = w.drewN (a + m) :=
  h.mono fun _ _ ⟨he, m, hm⟩ => ⟨he, n + m, by rw [hm, World.drewN_drewN, Nat.add_assoc]⟩
theorem quiet_add_same {P : Program} {f : FuncId} {args : Array Value} {w : World} {a n : Nat} {v : Value}
    (h : Calls P f args (w.drewN (a + n)) fun e w' => e = .returned v ∧ w.drewN (a + n) = w') :
    Calls P f args (w.drewN (a + n)) fun e w'' => e = .returned v ∧ ∃ m, w'' = w.drewN (a + m) :=
  h.mono fun _ _ ⟨he, hm⟩ => ⟨he, n, hm.symm⟩
theorem quiet_same {P : Program} {f : FuncId} {args : Array Value} {w : World} {n : Nat} {v : Value}
    (h : Calls P f args (w.drewN n) fun e w' => e = .returned v ∧ w.drewN n = w') : Calls P f args (w.drewN n) fun e w'' => e = .returned v ∧ ∃ m, w'' = w.drewN m :=
  h.mono fun _ _ ⟨he, hm⟩ => ⟨he, n, hm.symm⟩
end Go.Proofs.YtofgajlpdnokdaaGreatDoor

/- Words on memory: a block known whole; what a step may have changed (a set of blocks); rows of records. Plain: no program's text. -/
namespace Go.Proofs.YtofgajlpdnokdaaGreatDoor
set_option linter.unusedVariables false
open Go.RowKit

/-- Block b holds just these cells, none of them frozen. -/
def Blk (w : World) (b : Nat) (cs : Array Value) (t : TypeId) : Prop := w.heap[b]? = some (.cells cs t (0, 0))

theorem Blk.lt {w : World} {b : Nat} {cs : Array Value} {t : TypeId} (h : Blk w b cs t) : b < w.heap.size := (Array.getElem?_eq_some_iff.1 h).1

theorem Blk.cell {w : World} {b : Nat} {cs : Array Value} {t : TypeId} (h : Blk w b cs t) (i : Nat) : w.cell? ⟨b, i, none⟩ = cs[i]? := by
  unfold Blk at h
  simp [World.cell?, h]

theorem Blk.frozen {w : World} {b : Nat} {cs : Array Value} {t : TypeId} (h : Blk w b cs t) (i : Nat) : w.frozen? ⟨b, i, none⟩ = false := by
  unfold Blk at h
  simp [World.frozen?, h]

theorem Blk.set {w : World} {b : Nat} {cs : Array Value} {t : TypeId} (h : Blk w b cs t) (i : Nat) (v : Value) : Blk (w.setCell ⟨b, i, none⟩ v) b (cs.setIfInBounds i v) t := by
  unfold Blk at *
  simp [World.setCell, Array.getElem?_modify, h]

theorem Blk.set' {w : World} {b : Nat} {cs cs' : Array Value} {t : TypeId} (h : Blk w b cs t) (i : Nat) (v : Value) (e : cs.setIfInBounds i v = cs') : Blk (w.setCell ⟨b, i, none⟩ v) b cs' t := e ▸ h.set i v

theorem Blk.other {w : World} {b : Nat} {cs : Array Value} {t : TypeId} (h : Blk w b cs t) {a : Addr} (v : Value) (hne : a.block ≠ b) : Blk (w.setCell a v) b cs t := by
  unfold Blk at *
  rw [Below.heap_setCell _ _ _ _ (Ne.symm hne)]
  exact h

theorem Blk.alloc {w : World} {b : Nat} {cs : Array Value} {t : TypeId} (h : Blk w b cs t) (o : Obj) : Blk (w.alloc o) b cs t := by
  have := h.lt
  unfold Blk at *
  rw [Below.heap_alloc _ _ _ this]
  exact h

theorem Blk.new (w : World) (cs : Array Value) (t : TypeId) : Blk (w.alloc (.cells cs t)) w.heap.size cs t := by
  unfold Blk
  show (w.heap.push _)[w.heap.size]? = _
  simp

theorem Blk.new' {w : World} {n : Nat} (cs : Array Value) (t : TypeId) (hn : n = w.heap.size) : Blk (w.alloc (.cells cs t)) n cs t := hn ▸ Blk.new w cs t

theorem Blk.drewN {w : World} {b : Nat} {cs : Array Value} {t : TypeId} (h : Blk w b cs t) (n : Nat) : Blk (w.drewN n) b cs t := h
theorem Blk.drew {w : World} {b : Nat} {cs : Array Value} {t : TypeId} (h : Blk w b cs t) : Blk w.drew b cs t := h

/-- From w to w' no block that was there has changed but those in S. -/
structure Chg (S : Nat → Prop) (w w' : World) : Prop where
  os : w'.os = w.os
  tape : w'.tape = w.tape
  output : w'.output = w.output
  size : w.heap.size ≤ w'.heap.size
  block : ∀ k, k < w.heap.size → ¬ S k → w'.heap[k]? = w.heap[k]?

section
variable {S S' : Nat → Prop} {w w1 w2 : World}

theorem Chg.refl (S : Nat → Prop) (w : World) : Chg S w w := ⟨rfl, rfl, rfl, Nat.le_refl _, fun _ _ _ => rfl⟩

theorem Chg.trans (h : Chg S w w1) (h' : Chg S' w1 w2) (hs : ∀ k, S' k → S k ∨ w.heap.size ≤ k) : Chg S w w2 :=
  ⟨h'.os.trans h.os, h'.tape.trans h.tape, h'.output.trans h.output, Nat.le_trans h.size h'.size, fun k hk hS =>
    (h'.block k (Nat.lt_of_lt_of_le hk h.size) (fun hs' => (hs k hs').elim hS (fun h => by omega))).trans (h.block k hk hS)⟩

theorem Chg.mono (h : Chg S w w1) (hs : ∀ k, S k → S' k ∨ w.heap.size ≤ k) : Chg S' w w1 :=
  ⟨h.os, h.tape, h.output, h.size, fun k hk hn => h.block k hk (fun hS => (hs k hS).elim hn (fun h => by omega))⟩

theorem Chg.trans' (h : Chg S w w1) (h' : Chg S w1 w2) : Chg S w w2 := h.trans h' fun k hk => .inl hk

theorem Chg.drewN (h : Chg S w w1) (n : Nat) : Chg S w (w1.drewN n) := ⟨h.os, h.tape, h.output, h.size, h.block⟩
theorem Chg.drew (h : Chg S w w1) : Chg S w w1.drew := ⟨h.os, h.tape, h.output, h.size, h.block⟩

theorem Chg.alloc (h : Chg S w w1) (o : Obj) : Chg S w (w1.alloc o) :=
  ⟨h.os, h.tape, h.output, Nat.le_trans h.size (by simp), fun k hk hS => (Below.heap_alloc _ _ _ (Nat.lt_of_lt_of_le hk h.size)).trans (h.block k hk hS)⟩

theorem Chg.setCell (h : Chg S w w1) {a : Addr} (v : Value) (ha : S a.block ∨ w.heap.size ≤ a.block) : Chg S w (w1.setCell a v) :=
  ⟨h.os, h.tape, h.output, by simpa [World.setCell] using h.size, fun k hk hS => (Below.heap_setCell _ _ _ _ (fun e => by
    subst e
    exact ha.elim hS (fun h => by omega))).trans (h.block k hk hS)⟩

theorem Chg.ofBelow (h : Below w.heap.size w w1) : Chg S w w1 := ⟨h.os, h.tape, h.output, h.size, fun k hk _ => h.block k hk⟩
theorem Chg.toBelow (h : Chg S w w1) {B : Nat} (hB : B ≤ w.heap.size) (hs : ∀ k, S k → B ≤ k) : Below B w w1 :=
  ⟨h.os, h.tape, h.output, h.size, fun k hk => h.block k (by omega) (fun hS => by have := hs k hS; omega)⟩

theorem Chg.grown {row : Option Nat} (h : Chg S w w1) (hg : w1.grownBy w2 row) (hr : ∀ k, row = some k → S k ∨ w.heap.size ≤ k) : Chg S w w2 :=
  ⟨hg.os.trans h.os, hg.tape.trans h.tape, hg.output.trans h.output, Nat.le_trans h.size hg.size, fun k hk hS =>
    (hg.block k (Nat.lt_of_lt_of_le hk h.size) (fun e => (hr k e.symm).elim hS (fun h => by omega))).trans (h.block k hk hS)⟩

theorem Chg.blk (h : Chg S w w1) {b : Nat} {cs : Array Value} {t : TypeId} (hb : Blk w b cs t) (hS : ¬ S b) : Blk w1 b cs t :=
  (h.block b hb.lt hS).trans hb
theorem Chg.heap (h : Chg S w w1) {b : Nat} {o : Obj} (hb : w.heap[b]? = some o) (hS : ¬ S b) : w1.heap[b]? = some o :=
  (h.block b (Array.getElem?_eq_some_iff.1 hb).1 hS).trans hb
theorem Chg.cell (h : Chg S w w1) {a : Addr} (ha : a.block < w.heap.size) (hS : ¬ S a.block) : w1.cell? a = w.cell? a :=
  World.cell?_of_block (w := w) (h.block a.block ha hS)
end

/-- No old block has changed at all. -/
abbrev NoChg : Nat → Prop := fun _ => False

theorem Chg.below {w w1 : World} (h : Chg NoChg w w1) : Below w.heap.size w w1 := h.toBelow (Nat.le_refl _) fun _ h => h.elim

/-! ### Rows of records -/

/-- The cells of records, one behind the other. -/
def flatC {T : Type} (cells : T → List Value) (l : List T) : List Value := l.flatMap cells

section
variable {T : Type} {cells : T → List Value} {sz : Nat}

theorem flatC_length (hc : ∀ x, (cells x).length = sz) : ∀ l : List T, (flatC cells l).length = l.length * sz
  | [] => by simp [flatC]
  | x :: l => by
    have := flatC_length hc l
    simp only [flatC, List.flatMap_cons, List.length_append, List.length_cons, hc] at *
    rw [this, Nat.add_mul]
    omega

theorem flatC_cons (x : T) (l : List T) : flatC cells (x :: l) = cells x ++ flatC cells l := rfl
theorem flatC_append (a b : List T) : flatC cells (a ++ b) = flatC cells a ++ flatC cells b := by simp [flatC]

theorem flatC_get (hc : ∀ x, (cells x).length = sz) : ∀ (l : List T) (i j : Nat) (hi : i < l.length), j < sz → (flatC cells l)[i * sz + j]? = (cells l[i])[j]?
  | x :: l, 0, j, _, hj => by
    rw [flatC_cons, List.getElem?_append_left (by rw [hc]; omega)]
    simp
  | x :: l, i + 1, j, hi, hj => by
    rw [flatC_cons, List.getElem?_append_right (by rw [hc, Nat.add_mul]; omega), hc, show (i + 1) * sz + j - sz = i * sz + j by rw [Nat.add_mul]; omega]
    simpa using flatC_get hc l i j (by simpa using hi) hj

theorem flatC_take (hc : ∀ x, (cells x).length = sz) (l : List T) (n : Nat) : (flatC cells l).take (n * sz) = flatC cells (l.take n) := by
  induction l generalizing n with
  | nil => simp [flatC]
  | cons x l ih =>
    cases n with
    | zero => simp [flatC]
    | succ n =>
      rw [flatC_cons, List.take_succ_cons, flatC_cons, List.take_append, hc, show (n + 1) * sz - sz = n * sz by rw [Nat.add_mul]; omega, ih,
        List.take_of_length_le (by rw [hc, Nat.add_mul]; omega)]

/-- One record stored over another. -/
theorem flatC_set (hc : ∀ x, (cells x).length = sz) : ∀ (l : List T) (i : Nat) (x : T), i < l.length → flatC cells (l.set i x) = (flatC cells l).take (i * sz) ++ cells x ++ (flatC cells l).drop ((i + 1) * sz)
  | y :: l, 0, x, _ => by
    simp [flatC_cons, hc]
  | y :: l, i + 1, x, hi => by
    have ih := flatC_set hc l i x (by simpa using hi)
    have e1 : (i + 1) * sz = sz + i * sz := by rw [Nat.add_mul]; omega
    have e2 : (i + 1 + 1) * sz = sz + (i + 1) * sz := by rw [Nat.add_mul (i + 1)]; omega
    have h1 : (cells y ++ flatC cells l).take (sz + i * sz) = cells y ++ (flatC cells l).take (i * sz) := by
      rw [List.take_append, hc, Nat.add_sub_cancel_left, List.take_of_length_le (by rw [hc]; omega)]
    have h2 : (cells y ++ flatC cells l).drop (sz + (i + 1) * sz) = (flatC cells l).drop ((i + 1) * sz) := by
      rw [List.drop_append, hc, Nat.add_sub_cancel_left, List.drop_of_length_le (by rw [hc]; omega), List.nil_append]
    rw [List.set_cons_succ, flatC_cons, flatC_cons, ih, e2, h2, e1, h1]
    simp [List.append_assoc]
end

/-- Block r is an array of records. -/
def RowBlk {T : Type} (cells : T → List Value) (w : World) (r : Nat) (l : List T) (t : TypeId) : Prop := Blk w r (flatC cells l).toArray t

theorem RowBlk.cellAt {T : Type} {cells : T → List Value} {sz : Nat} (hc : ∀ x, (cells x).length = sz) {w : World} {r : Nat} {l : List T} {t : TypeId} (h : RowBlk cells w r l t) (i : Nat) (hi : i < l.length) (j : Nat) (u : Value) (hu : (cells l[i])[j]? = some u) :
    w.cell? ⟨r, i * sz + j, none⟩ = some u := by
  have hj : j < sz := by
    have := (List.getElem?_eq_some_iff.1 hu).1
    rw [hc] at this
    exact this
  rw [Blk.cell h]
  simp only [List.getElem?_toArray]
  rw [flatC_get hc l i j hi hj]
  exact hu

theorem RowBlk.row {T : Type} {cells : T → List Value} {sz : Nat} (hc : ∀ x, (cells x).length = sz) {w : World} {r : Nat} {l : List T} {t : TypeId} (h : RowBlk cells w r l t) : RowAt cells sz w (some ⟨r, 0, none⟩) l := by
  intro i hi
  refine ⟨r, 0, rfl, fun j u hu => ?_⟩
  rw [Nat.zero_add]
  exact h.cellAt hc i hi j u hu

/-- Values stored one behind the other, from cell k of block r on. -/
def setW (w : World) (r : Nat) : Nat → List Value → World
  | _, [] => w
  | k, v :: vs => setW (w.setCell ⟨r, k, none⟩ v) r (k + 1) vs

def setL : List Value → Nat → List Value → List Value
  | l, _, [] => l
  | l, k, v :: vs => setL (l.set k v) (k + 1) vs

theorem setL_eq : ∀ (vs l : List Value) (k : Nat), k + vs.length ≤ l.length → setL l k vs = l.take k ++ vs ++ l.drop (k + vs.length)
  | [], l, k, _ => by simp [setL]
  | v :: vs, l, k, h => by
    simp only [List.length_cons] at h
    have hk : k < l.length := by omega
    rw [setL, setL_eq vs (l.set k v) (k + 1) (by rw [List.length_set]; omega)]
    have h1 : (l.set k v).take (k + 1) = l.take k ++ [v] := by
      rw [List.take_succ_eq_append_getElem (by simpa using hk)]
      simp [List.take_set_of_le]
    have h2 : (l.set k v).drop (k + 1 + vs.length) = l.drop (k + (vs.length + 1)) := by
      rw [List.drop_set_of_lt (by omega)]
      congr 1
      omega
    rw [h1, h2]
    simp

theorem Blk.setW {r : Nat} {t : TypeId} : ∀ (vs : List Value) {w : World} {cs : List Value} (k : Nat), Blk w r cs.toArray t → Blk (setW w r k vs) r (setL cs k vs).toArray t
  | [], _, _, _, h => h
  | v :: vs, w, cs, k, h => Blk.setW vs (k + 1) (h.set' k v (by simp))

theorem RowBlk.store {T : Type} {cells : T → List Value} {sz : Nat} (hc : ∀ x, (cells x).length = sz) {w : World} {r : Nat} {l : List T} {t : TypeId} (h : RowBlk cells w r l t) (i : Nat) (hi : i < l.length) (x : T) :
    RowBlk cells (setW w r (i * sz) (cells x)) r (l.set i x) t := by
  have h1 := Blk.setW (cells x) (i * sz) h
  have h2 : (i + 1) * sz ≤ l.length * sz := Nat.mul_le_mul_right _ hi
  rw [Nat.add_mul] at h2
  rw [setL_eq _ _ _ (by rw [hc, flatC_length hc]; omega), hc, show i * sz + sz = (i + 1) * sz by rw [Nat.add_mul]; omega, ← flatC_set hc l i x hi] at h1
  exact h1

theorem RowAt.drop {T : Type} {cells : T → List Value} {sz : Nat} {w : World} {g o : Nat} {l : List T} (h : RowAt cells sz w (some ⟨g, o, none⟩) l) (k : Nat) : RowAt cells sz w (some ⟨g, o + k * sz, none⟩) (l.drop k) := by
  intro i hi
  have hi' : k + i < l.length := by simp at hi; omega
  obtain ⟨g', o', he, hj⟩ := h (k + i) hi'
  simp only [Option.some.injEq, Addr.mk.injEq] at he
  obtain ⟨rfl, rfl, _⟩ := he
  refine ⟨g, o + k * sz, rfl, fun j u hu => ?_⟩
  rw [List.getElem_drop] at hu
  have := hj j u hu
  rw [Nat.add_mul] at this
  rw [show o + k * sz + i * sz + j = o + (k * sz + i * sz) + j by omega]
  exact this

theorem RowAt.take {T : Type} {cells : T → List Value} {sz : Nat} {w : World} {a : Option Addr} {l : List T} (h : RowAt cells sz w a l) (k : Nat) : RowAt cells sz w a (l.take k) := by
  intro i hi
  have hi' : i < l.length := by simp at hi; omega
  obtain ⟨g, o, rfl, hj⟩ := h i hi'
  refine ⟨g, o, rfl, fun j u hu => hj j u ?_⟩
  rw [List.getElem_take] at hu
  exact hu

theorem RowAt.keep {T : Type} {cells : T → List Value} {sz : Nat} {w w1 : World} {a : Option Addr} {l : List T} {S : Nat → Prop} (h : RowAt cells sz w a l) (hc : Chg S w w1) (hS : ∀ ad, a = some ad → ¬ S ad.block) : RowAt cells sz w1 a l := by
  intro i hi
  obtain ⟨g, o, rfl, hj⟩ := h i hi
  refine ⟨g, o, rfl, fun j u hu => ?_⟩
  rw [hc.cell (cell_lt (hj j u hu)) (hS ⟨g, o, none⟩ rfl)]
  exact hj j u hu

/-! ### Worlds that have grown, written out -/

/-- w with the blocks of x behind its own. -/
def World.over (w x : World) : World := { heap := w.heap ++ x.heap, tape := w.tape, drawn := x.drawn, os := w.os, output := w.output }

theorem below_over (w x : World) : Below w.heap.size w (World.over w x) := by
  refine ⟨rfl, rfl, rfl, by simp [World.over], fun k hk => ?_⟩
  simp only [World.over]
  rw [Array.getElem?_append_left hk]

theorem over_of_below {w w' : World} (h : Below w.heap.size w w') : ∃ x, w' = World.over w x := by
  refine ⟨{ w' with heap := w'.heap.extract w.heap.size w'.heap.size }, ?_⟩
  have : w'.heap = w.heap ++ w'.heap.extract w.heap.size w'.heap.size := by
    apply Array.ext_getElem?
    intro i
    by_cases hi : i < w.heap.size
    · rw [Array.getElem?_append_left hi, h.block i hi]
    · rw [Array.getElem?_append_right (by omega)]
      rw [Array.getElem?_extract]
      have := h.size
      by_cases h2 : i < w'.heap.size
      · rw [if_pos (by omega)]
        congr 1
        omega
      · rw [if_neg (by omega)]
        simp [h2]
  cases w'
  simp only [World.over, World.mk.injEq]
  exact ⟨this, h.tape, trivial, h.os, h.output⟩

theorem cell_over {w x : World} {b i : Nat} (h : b < w.heap.size) : (World.over w x).cell? ⟨b, i, none⟩ = w.cell? ⟨b, i, none⟩ := (below_over w x).cell (p := ⟨b, i, none⟩) h
theorem frozen_over {w x : World} {b i : Nat} (h : b < w.heap.size) : (World.over w x).frozen? ⟨b, i, none⟩ = w.frozen? ⟨b, i, none⟩ := (below_over w x).frozen (p := ⟨b, i, none⟩) h
end Go.Proofs.YtofgajlpdnokdaaGreatDoor

/- Slices of records: append and copy, in words on blocks. Plain laws over any program. -/
namespace Go.Proofs.YtofgajlpdnokdaaGreatDoor
set_option linter.unusedVariables false
open Go.RowKit

/-- Slices t of elements e, which are records of sz cells. -/
structure RecT {T : Type} (P : Program) (cells : T → List Value) (sz : Nat) (t e : TypeId) (bytes : Nat) (z0 : T) : Prop where
  ht : P.underlying t = some (.slice e)
  hi : ∃ i z, P.info? e = some i ∧ i.zero = some z ∧ i.size = sz ∧ i.bytes = bytes ∧ z.cells = (cells z0).toArray
  pos : 0 < sz
  hc : ∀ x, (cells x).length = sz
  one : ∀ x, ∀ u ∈ cells x, u.oneCell' = true

theorem info_rec {P : Program} {e : TypeId} {zc : Array Value} {sz bytes : Nat} (h : (P.info? e).map (fun i => (i.zero.map (fun z => z.cells), i.size, i.bytes)) = some (some zc, sz, bytes)) :
    ∃ i z, P.info? e = some i ∧ i.zero = some z ∧ i.size = sz ∧ i.bytes = bytes ∧ z.cells = zc := by
  cases hi : P.info? e with
  | none => rw [hi] at h; cases h
  | some i =>
    rw [hi] at h
    simp only [Option.map_some, Option.some.injEq, Prod.mk.injEq] at h
    obtain ⟨h1, h2, h3⟩ := h
    cases hz : i.zero with
    | none => rw [hz] at h1; cases h1
    | some z =>
      rw [hz] at h1
      exact ⟨i, z, rfl, hz, h2, h3, by simpa using h1⟩

/-- The slice v holds just these records, and begins at the head of its own block (or is nil). -/
def Own {T : Type} (cells : T → List Value) (sz : Nat) (e : TypeId) (w : World) (v : Value) (l : List T) : Prop :=
  w.ownsRow 0 e sz v l.length (flatC cells l)

section
variable {T : Type} {P : Program} {cells : T → List Value} {sz : Nat} {t e : TypeId} {bytes : Nat} {z0 : T}

theorem flatC_one (hR : RecT P cells sz t e bytes z0) (l : List T) : ∀ u ∈ flatC cells l, u.oneCell' = true := by
  intro u hu
  obtain ⟨x, _, hx⟩ := List.mem_flatMap.1 hu
  exact hR.one x u hx

theorem Own.nil (cells : T → List Value) (sz : Nat) (e : TypeId) (w : World) : Own cells sz e w (.slice none 0 0) ([] : List T) := ⟨by simp [flatC], .inl ⟨rfl, rfl⟩⟩

theorem Own.keep {w w1 : World} {v : Value} {l : List T} {S : Nat → Prop} (h : Own cells sz e w v l) (hc : Chg S w w1) (hS : ∀ k, v.ownBlock = some k → ¬ S k) : Own cells sz e w1 v l := by
  obtain ⟨h0, h⟩ := h
  refine ⟨h0, ?_⟩
  rcases h with h | ⟨g, cap, cur, rfl, hg, hh, r⟩
  · exact .inl h
  · exact .inr ⟨g, cap, cur, rfl, hg, hc.heap hh (hS g rfl), r⟩

theorem Own.lt {w : World} {v : Value} {l : List T} (h : Own cells sz e w v l) : ∀ k, v.ownBlock = some k → k < w.heap.size := by
  obtain ⟨_, h⟩ := h
  rcases h with ⟨rfl, _⟩ | ⟨g, cap, cur, rfl, hg, hh, r⟩
  · intro k hk; cases hk
  · intro k hk
    have : g = k := by simpa [Value.ownBlock] using hk
    subst this
    exact (Array.getElem?_eq_some_iff.1 hh).1

/-- As an argument: where the records lie. -/
theorem Own.row (hc : ∀ x, (cells x).length = sz) {w : World} {v : Value} {l : List T} (h : Own cells sz e w v l) : ∃ a cap, v = .slice a l.length cap ∧ l.length ≤ cap ∧ (a = none → cap = 0) ∧ RowAt cells sz w a l := by
  obtain ⟨_, h⟩ := h
  rcases h with ⟨rfl, hl⟩ | ⟨g, cap, cur, rfl, hg, hh, hn, hcap, hsz, htake⟩
  · have : l = [] := List.eq_nil_of_length_eq_zero hl
    subst this
    exact ⟨none, 0, rfl, Nat.le_refl _, fun _ => rfl, fun i hi => absurd hi (by simp)⟩
  · refine ⟨some ⟨g, 0, none⟩, cap, rfl, hn, by simp, fun i hi => ⟨g, 0, rfl, fun j u hu => ?_⟩⟩
    have hj : j < sz := by
      have := (List.getElem?_eq_some_iff.1 hu).1
      rw [hc] at this
      exact this
    have h1 : (flatC cells l)[i * sz + j]? = some u := by rw [flatC_get hc l i j hi hj]; exact hu
    have hlt : i * sz + j < l.length * sz := by
      have : (i + 1) * sz ≤ l.length * sz := Nat.mul_le_mul_right _ hi
      rw [Nat.add_mul] at this
      omega
    rw [← htake, List.getElem?_take, if_pos hlt] at h1
    simp only [World.cell?, hh, Nat.zero_add]
    simpa using h1

theorem Own.cap {w : World} {v : Value} {l : List T} (h : Own cells sz e w v l) : l.length ≤ maxLen := by
  obtain ⟨_, h⟩ := h
  rcases h with ⟨rfl, hl⟩ | ⟨g, cap, cur, rfl, hg, hh, hn, hcap, hsz, htake⟩
  · rw [hl]; exact Nat.zero_le _
  · omega

theorem row_news (hc : ∀ x, (cells x).length = sz) {w : World} {g o : Nat} {l : List T} (h : RowAt cells sz w (some ⟨g, o, none⟩) l) (hp : 0 < sz) :
    ∀ j u, (flatC cells l)[j]? = some u → w.cell? ((⟨g, o, none⟩ : Addr).add j) = some u := by
  intro j u hu
  have hj : j < l.length * sz := by
    have := (List.getElem?_eq_some_iff.1 hu).1
    rwa [flatC_length hc] at this
  have hi : j / sz < l.length := by rw [Nat.div_lt_iff_lt_mul hp]; exact hj
  have hm := Nat.mod_lt j hp
  have hd := Nat.div_add_mod j sz
  rw [Nat.mul_comm] at hd
  obtain ⟨g', o', he, hcell⟩ := h (j / sz) hi
  simp only [Option.some.injEq, Addr.mk.injEq] at he
  obtain ⟨rfl, rfl, _⟩ := he
  have := hcell (j % sz) u (by
    rw [← flatC_get hc l (j / sz) (j % sz) hi hm, hd]
    exact hu)
  rw [Nat.add_assoc, hd] at this
  rw [← this]
  unfold Addr.add
  split
  · rename_i h0; rw [h0]; rfl
  · rfl

variable {ops : Array Oper} {rest : List Oper} {o : Oper} {a : Act} {w : World} {Q : Exit → Act → World → Prop}

/-- append(v, records...) -/
theorem wpList_append_rec (hR : RecT P cells sz t e bytes z0) (hgd : o.guard = none) (s x : Operand)
    (ho : o.op = .call { callee := .builtin .append, args := #[s, x], argTypes := #[t, t] })
    (v : Value) (l : List T) (hs : a.eval s = v) (hown : Own cells sz e w v l)
    (sa : Option Addr) (c : Nat) (l2 : List T) (hx : a.eval x = .slice sa l2.length c) (hc0 : sa = none → c = 0) (hrow : RowAt cells sz w sa l2)
    (h63 : l.length + l2.length ≤ maxLen) (hbytes : (l.length + l2.length) * bytes ≤ 140737488355328)
    (h : ∀ v' w', Own cells sz e w' v' (l ++ l2) → Chg (fun k => v.ownBlock = some k) w w' → (v'.ownBlock = v.ownBlock ∨ v'.ownBlock = some w.heap.size) → wpList P ops Q rest (a.put o.dst v') w') :
    wpList P ops Q (o :: rest) a w := by
  obtain ⟨i, z, hi, hz, hsz, hby, hzc⟩ := hR.hi
  have hzs : z.cells.size = sz := by rw [hzc]; simp [hR.hc]
  have fin : ∀ v' w', w'.ownsRow 0 e sz v' (l.length + l2.length) (flatC cells l ++ flatC cells l2) → w.grownBy w' v.ownBlock → (v'.ownBlock = v.ownBlock ∨ v'.ownBlock = some w.heap.size) → wpList P ops Q rest (a.put o.dst v') w' := by
    intro v' w' h1 h2 h3
    refine h v' w' ?_ ((Chg.refl _ _).grown h2 fun k hk => .inl hk) h3
    unfold Own
    rw [flatC_append, List.length_append]
    exact h1
  by_cases hl2 : l2 = []
  · subst hl2
    cases sa with
    | none =>
      obtain rfl := hc0 rfl
      refine wpList_append_own_none hgd s x t ho 0 e i sz hR.ht hi v l.length (flatC cells l) hs hown hx ?_
      exact h v w (by simpa using hown) (Chg.refl _ _) (.inl rfl)
    | some ad =>
      refine wpList_append_own_at _ hgd s x t ho 0 e i z sz bytes hR.ht hi hz hsz hby hzs hR.pos v l.length (flatC cells l) hs hown ad 0 c [] hx (by simp) (by simp) (by simp) (by simpa using h63) (by simpa using hbytes) (Nat.zero_le _) ?_
      intro v' w' h1 h2 _ h3
      exact fin v' w' (by simpa [flatC] using h1) h2 h3
  · obtain ⟨g, off, rfl, _⟩ := hrow 0 (List.length_pos_iff.2 hl2)
    refine wpList_append_own_at _ hgd s x t ho 0 e i z sz bytes hR.ht hi hz hsz hby hzs hR.pos v l.length (flatC cells l) hs hown ⟨g, off, none⟩ l2.length c (flatC cells l2) hx
      (flatC_length hR.hc l2) (row_news hR.hc hrow hR.pos) (flatC_one hR l2) h63 hbytes (Nat.zero_le _) ?_
    intro v' w' h1 h2 _ h3
    exact fin v' w' h1 h2 h3

/-- copy(dst, src) of records: dst begins at record 'off' of block g. -/
theorem wpList_copy_rec (hR : RecT P cells sz t e bytes z0) (hgd : o.guard = none) (d s : Operand)
    (ho : o.op = .call { callee := .builtin .copy, args := #[d, s], argTypes := #[t, t] })
    (dp sp : Option Addr) (dLen dCap sLen sCap : Nat) (hd : a.eval d = .slice dp dLen dCap) (hs : a.eval s = .slice sp sLen sCap)
    (g off : Nat) (L : List T) (te : TypeId) (hg : RowBlk cells w g L te) (news : List T) (hn : news.length = Nat.min sLen dLen)
    (hdp : 0 < news.length → dp = some ⟨g, off * sz, none⟩) (hsp : RowAt cells sz w sp news) (hfit : off + news.length ≤ L.length)
    (h : ∀ w', RowBlk cells w' g (L.take off ++ news ++ L.drop (off + news.length)) te → Chg (fun k => k = g) w w' → wpList P ops Q rest (a.put o.dst (.int .i64 news.length)) w') :
    wpList P ops Q (o :: rest) a w := by
  obtain ⟨i, z, hi, hz, hsz, hby, hzs⟩ := hR.hi
  refine wpList_plain hgd fun K hK => ?_
  by_cases h0 : news = []
  · subst h0
    have hmin : Nat.min sLen dLen = 0 := by simpa using hn.symm
    have hl : ∀ (x : Addr), (loadCells x 0).run P w = .ok #[] w := fun x => by simpa using run_loadCells_list (P := P) w x [] (by simp)
    have hrun : (Builtin.copy_ #[t, t] o.type #[.slice dp dLen dCap, .slice sp sLen sCap]).run P w = .ok (goInt 0) w := by
      cases dp <;> cases sp <;> simp [Builtin.copy_, run_underlying hR.ht, Builtin.lenOf, Builtin.firstCells, sizeOf, typeInfo, hi, hmin, storeCells, hl]
    unfold Oper.wp
    simp [execOp, ho, resolve, invoke, builtin, hd, hs, hrun, Result.andThen]
    exact hK _ _ (h w (by simpa using hg) (Chg.refl _ _))
  · have hpos := List.length_pos_iff.2 h0
    obtain ⟨g2, o2, rfl, _⟩ := hsp 0 hpos
    obtain rfl := hdp hpos
    have hload := run_loadCells_list (P := P) w ⟨g2, o2, none⟩ (flatC cells news) (row_news hR.hc hsp hR.pos)
    rw [flatC_length hR.hc] at hload
    have hLl := flatC_length hR.hc L
    have hmul : (off + news.length) * sz ≤ L.length * sz := Nat.mul_le_mul_right _ hfit
    rw [Nat.add_mul] at hmul
    have hst := run_storeCells_at P g (off * sz) te (flatC cells news) 0 (flatC cells L).toArray w hg (by rw [flatC_length hR.hc]; simp [hLl]; omega) (flatC_one hR news)
    have hrun : (Builtin.copy_ #[t, t] o.type #[.slice (some ⟨g, off * sz, none⟩) dLen dCap, .slice (some ⟨g2, o2, none⟩) sLen sCap]).run P w =
        .ok (goInt news.length) (w.setRow g ((flatC cells L).take (off * sz) ++ flatC cells news ++ (flatC cells L).drop (off * sz + (flatC cells news).length)).toArray) := by
      simp only [Nat.add_zero] at hst
      simp [Builtin.copy_, run_underlying hR.ht, Builtin.lenOf, Builtin.firstCells, sizeOf, typeInfo, hi, hsz, ← hn, hload, hst]
    unfold Oper.wp
    simp [execOp, ho, resolve, invoke, builtin, hd, hs, hrun, Result.andThen]
    refine hK _ _ (h _ ?_ ⟨rfl, rfl, rfl, by simp [World.setRow], fun k _ hk => setRow_other w g k _ hk⟩)
    have e1 : (flatC cells L).take (off * sz) ++ flatC cells news ++ (flatC cells L).drop (off * sz + (flatC cells news).length) = flatC cells (L.take off ++ news ++ L.drop (off + news.length)) := by
      rw [flatC_append, flatC_append, flatC_take hR.hc, flatC_length hR.hc, ← Nat.add_mul]
      congr 1
      have e3 : flatC cells L = flatC cells (L.take (off + news.length)) ++ flatC cells (L.drop (off + news.length)) := by rw [← flatC_append, List.take_append_drop]
      rw [e3, List.drop_append, List.drop_of_length_le (by rw [flatC_length hR.hc, List.length_take, Nat.min_eq_left hfit]; exact Nat.le_refl _), flatC_length hR.hc, List.length_take, Nat.min_eq_left hfit]
      simp
    rw [← List.append_assoc, e1]
    exact setRow_heap w g _ _ te _ hg

theorem madeCells_flat (hc : ∀ x, (cells x).length = sz) (z0 : T) (n : Nat) : madeCells (cells z0).toArray (n * sz) = (flatC cells (List.replicate n z0)).toArray := by
  apply Array.ext
  · simp [madeCells, flatC_length hc]
  · intro i h1 h2
    have hi : i < n * sz := by simpa [madeCells] using h1
    have hp : 0 < sz := by
      rcases Nat.eq_zero_or_pos sz with h | h
      · subst h; simp at hi
      · exact h
    have hq : i / sz < n := by rw [Nat.div_lt_iff_lt_mul hp]; exact hi
    have hm := Nat.mod_lt i hp
    have hd := Nat.div_add_mod i sz
    rw [Nat.mul_comm] at hd
    have hg := flatC_get hc (List.replicate n z0) (i / sz) (i % sz) (by simpa using hq) hm
    rw [hd] at hg
    simp only [List.getElem_replicate] at hg
    have hm' : i % sz < (cells z0).length := by rw [hc]; exact hm
    rw [List.getElem?_eq_getElem hm'] at hg
    have e2 := (List.getElem?_eq_some_iff.1 hg).2
    simp only [madeCells, Array.getElem_map, Array.getElem_range, List.size_toArray, hc, List.getElem_toArray]
    rw [e2]
    simp [hm']

/-- make([]T, n) -/
theorem run_make_rec (hR : RecT P cells sz t e bytes z0) (n : Nat) (hb : bytes * n ≤ 281474976710656) (hn : n ≤ 9223372036854775807) (w : World) :
    (Instr.makeSlice t (.int .i64 (n : Int)) (.int .i64 (n : Int))).run P w = .ok (.slice (some ⟨w.heap.size, 0, none⟩) n n) (w.alloc (.cells (flatC cells (List.replicate n z0)).toArray e)) := by
  obtain ⟨i, z, hi, hz, hsz, hby, hzc⟩ := hR.hi
  have hb' : (i.bytes : Int) * (n : Int) ≤ 281474976710656 := by
    have h : ((bytes * n : Nat) : Int) ≤ 281474976710656 := by omega
    rw [hby]
    rwa [Int.natCast_mul] at h
  have hr := run_make (P := P) w t e i z hR.ht hi hz .i64 .i64 n n (by omega) (by omega) hb' (by omega)
  simp only [Int.toNat_natCast] at hr
  rw [hr, hzc, hsz, madeCells_flat hR.hc]
end
end Go.Proofs.YtofgajlpdnokdaaGreatDoor

/- A region that draws its order, walked once: operations that only look (in every world where no old block has changed) taken first; then some that make memory, one behind the other; then the rest in one forced order. For every order that the tape may pick. -/
namespace Go.Proofs.YtofgajlpdnokdaaGreatDoor
set_option linter.unusedVariables false
open Go.RowKit

section
variable {P : Program} {ops : Array Oper} {Q : Exit → Act → World → Prop} {C : World → Prop}

/-- Whatever order is picked from here on; behind every operation that is not a late one, C holds. -/
def wpAnyC (P : Program) (ops : Array Oper) (Q : Exit → Act → World → Prop) (C : World → Prop) (late : Nat → Bool) : Nat → Array Bool → Act → World → Prop
  | 0, listed, a, w => Region.ready .any ops listed = [] ∧ Q .normal a w
  | f + 1, listed, a, w => (Region.ready .any ops listed = [] → Q .normal a w) ∧
    ∀ i ∈ Region.ready .any ops listed, wpOp P ops Q i (fun a' w' => (late i = false → C w') ∧ wpAnyC P ops Q C late f (listed.setIfInBounds i true) a' w') a w

theorem wpAny_of_C {late : Nat → Bool} : ∀ (f : Nat) (listed : Array Bool) (a : Act) (w : World), wpAnyC P ops Q C late f listed a w → wpAny P .any ops Q f listed a w
  | 0, _, _, _, h => h
  | f + 1, _, _, _, h => ⟨h.1, fun i hi => wpOp_mono (fun a' w' h' => wpAny_of_C f _ a' w' h'.2) (h.2 i hi)⟩

theorem wpAnyC_first {late : Nat → Bool} {i F : Nat} {oi : Oper} {v : Value} (hi : ops[i]? = some oi) (hsel : ∀ (j : Nat) (o : Oper) cs b, ops[j]? = some o → o.op ≠ .select cs b)
    (hQ : ∀ c a w, Q (.panic c) (a.put oi.dst v) w → Q (.panic c) a w) (hneed : ∀ j oj, ops[j]? = some oj → late j = true → waitsOn ops F j i = true) :
    ∀ (f : Nat) (listed : Array Bool) (a : Act) (w : World), ClosedL ops listed →
      (∀ j oj, ops[j]? = some oj → j ≠ i → listed.getD j true = false → (∀ e ∈ oj.after, Region.binds .any e = true → e.on ≠ i) → oi.apart ops oj = true) →
      i ∈ Region.ready .any ops listed → YieldsIf P ops C oi v a → C w →
      wpAnyC P ops Q C late f (listed.setIfInBounds i true) (a.put oi.dst v) w → wpAnyC P ops Q C late (f + 1) listed a w := by
  intro f
  induction f with
  | zero =>
    intro listed a w hcl _ hr hy hC H
    refine ⟨fun h => (by rw [h] at hr; cases hr), fun j hj => ?_⟩
    by_cases hji : j = i
    · subst hji; exact hy.wpOp hi hC ⟨fun _ => hC, H⟩
    · have := ready_mono hj hji
      rw [H.1] at this
      cases this
  | succ f ih =>
    intro listed a w hcl hfree hr hy hC H
    have hun := (mem_ready.1 hr).1
    refine ⟨fun h => (by rw [h] at hr; cases hr), fun j hj => ?_⟩
    by_cases hji : j = i
    · subst hji; exact hy.wpOp hi hC ⟨fun _ => hC, H⟩
    · have h1 := H.2 j (ready_mono hj hji)
      obtain ⟨hjun, oj, hoj, hall⟩ := mem_ready.1 hj
      have hnl : late j = false := by
        cases hl : late j with
        | false => rfl
        | true =>
          have h1 := listed_of_waits hcl F j i (fun o ho e he hb => by
            have : o = oj := Option.some.inj (ho.symm.trans hoj)
            subst this
            exact hall e he hb) (hneed j oj hoj hl)
          rw [getD_both hun] at h1
          cases h1
      have hnot : ∀ e ∈ oj.after, Region.binds .any e = true → e.on ≠ i := fun e he hb heq => by
        have h1 := hall e he hb
        rw [heq, getD_both hun] at h1
        cases h1
      have h2 := wpOp_putIf (S := C) hoj (hfree j oj hoj hji hjun hnot) (fun cs b => hsel i oi cs b hi) (fun cs b => hsel j oj cs b hoj) hQ hy h1
      have hfree' : ∀ k ok, ops[k]? = some ok → k ≠ i → (listed.setIfInBounds j true).getD k true = false →
          (∀ e ∈ ok.after, Region.binds .any e = true → e.on ≠ i) → oi.apart ops ok = true := fun k ok hk hki hun hno => by
        refine hfree k ok hk hki ?_ hno
        by_cases hjk : j = k
        · subst hjk; exact hjun
        · rw [getD_set_ne true hjk] at hun; exact hun
      refine wpOp_mono (fun a' w' h3 => ⟨h3.2.1, ih (listed.setIfInBounds j true) a' w' (hcl.set hj) hfree' (ready_mono hr (Ne.symm hji)) h3.1 (h3.2.1 hnl) ?_⟩) h2
      rw [Array.setIfInBounds_comm _ _ hji]
      exact h3.2.2

/-- One value, in every world of the class, the world left as it is. -/
def yieldC (P : Program) (o : Oper) (a : Act) (C : World → Prop) (next : Act → Prop) : Prop :=
  ∃ v, (∀ w, C w → (execOp a.eval o).run P w = .ok (.value v) w) ∧ next (a.put o.dst v)

def wpYield (P : Program) (ops : Array Oper) (C : World → Prop) (R : Act → Prop) : List Oper → Act → Prop
  | [], a => R a
  | o :: rest, a => if Region.wanted o (yielded ops a.tmps) then yieldC P o a C (wpYield P ops C R rest) else wpYield P ops C R rest (a.put o.dst undef)

theorem wpYield_nil {R : Act → Prop} {a : Act} (h : R a) : wpYield P ops C R [] a := h
theorem wpYield_step {R : Act → Prop} {a : Act} {o : Oper} {rest : List Oper}
    (h : ∀ K : Act → Prop, (∀ a, wpYield P ops C R rest a → K a) → if Region.wanted o (yielded ops a.tmps) then yieldC P o a C K else K (a.put o.dst undef)) : wpYield P ops C R (o :: rest) a :=
  h _ (fun _ h => h)

/-- The operations that make memory, one behind the other, C shown behind each; then the rest. -/
def wpMakes (P : Program) (ops : Array Oper) (Q : Exit → Act → World → Prop) (C : World → Prop) (late : List Oper) : List Oper → Act → World → Prop
  | [], a, w => wpList P ops Q late a w
  | o :: rest, a, w => wpList P ops (Exit.then (fun a' w' => C w' ∧ wpMakes P ops Q C late rest a' w') Q) [o] a w

def seqC (ops : Array Oper) : Nat → Nat → Array Bool → Bool
  | 0, _, listed => (Region.ready .any ops listed).isEmpty
  | g + 1, k, listed => decide (Region.ready .any ops listed = [k]) && seqC ops g (k + 1) (listed.setIfInBounds k true)

theorem wpAnyC_late {late : Nat → Bool} : ∀ (l : List Oper) (k : Nat) (listed : Array Bool) (a : Act) (w : World), (∀ j, l[j]? = ops[k + j]?) → (∀ j, k ≤ j → late j = true) → seqC ops l.length k listed = true →
    wpList P ops Q l a w → wpAnyC P ops Q C late l.length listed a w
  | [], k, listed, a, w, _, _, hB, h => ⟨by simpa [seqC] using hB, h⟩
  | o :: l, k, listed, a, w, hl, hlt, hB, h => by
    have h0 : ops[k]? = some o := by simpa using (hl 0).symm
    simp only [List.length_cons, seqC, Bool.and_eq_true, decide_eq_true_eq] at hB
    refine ⟨fun h1 => (by rw [hB.1] at h1; cases h1), fun i hi => ?_⟩
    rw [hB.1] at hi
    have hik : i = k := by simpa using hi
    subst hik
    have hw : wpOp P ops Q i (wpList P ops Q l) a w := by unfold wpOp; simp only [h0]; exact h
    exact wpOp_mono (fun a' w' h' => ⟨fun h => (by rw [hlt i (Nat.le_refl _)] at h; cases h), wpAnyC_late l (i + 1) _ a' w' (fun j => by have := hl (j + 1); simpa [Nat.add_assoc, Nat.add_comm 1 j] using this) (fun j hj => hlt j (by omega)) hB.2 h'⟩) hw

theorem wpOp_of_then {i : Nat} {o : Oper} {K : Act → World → Prop} {a : Act} {w : World} (h0 : ops[i]? = some o) (h : wpList P ops (Exit.then K Q) [o] a w) : wpOp P ops Q i K a w := by
  unfold wpOp
  simp only [h0]
  simp only [wpList] at h
  split
  · rename_i hw
    simp only [hw, if_true] at h
    rcases h with h | ⟨h1, a1, w1, h2⟩
    · refine .inl ?_
      unfold Oper.wp at *
      generalize (execOp a.eval o).run P w = r at *
      cases r with
      | ok n w' =>
        cases n <;> simp only [Oper.upon] at h ⊢ <;> exact h
      | halt x w' => cases x <;> simp only [Oper.upon] at h ⊢ <;> exact h
    · exact .inr ⟨h1, a1, w1, h2⟩
  · rename_i hw
    simp only [hw] at h
    exact h

theorem wpAnyC_makes {late : Nat → Bool} {n2 : Nat} {ll : List Oper} (hll : ∀ j, ll[j]? = ops[n2 + j]?) (hlate : ∀ j, n2 ≤ j → late j = true) :
    ∀ (l : List Oper) (k : Nat) (listed : Array Bool) (a : Act) (w : World), (∀ j, j < l.length → l[j]? = ops[k + j]?) → k + l.length = n2 → seqC ops (l.length + ll.length) k listed = true →
    wpMakes P ops Q C ll l a w → wpAnyC P ops Q C late (l.length + ll.length) listed a w
  | [], k, listed, a, w, _, hk, hB, h => by
    have : k = n2 := by simpa using hk
    subst this
    simp only [List.length_nil, Nat.zero_add] at *
    exact wpAnyC_late ll k listed a w hll hlate hB h
  | o :: l, k, listed, a, w, hl, hk, hB, h => by
    have h0 : ops[k]? = some o := by simpa using (hl 0 (by simp)).symm
    have e : (o :: l).length + ll.length = (l.length + ll.length) + 1 := by simp; omega
    rw [e] at hB ⊢
    simp only [seqC, Bool.and_eq_true, decide_eq_true_eq] at hB
    refine ⟨fun h1 => (by rw [hB.1] at h1; cases h1), fun i hi => ?_⟩
    rw [hB.1] at hi
    have hik : i = k := by simpa using hi
    subst hik
    refine wpOp_mono (fun a' w' h' => ⟨fun _ => h'.1, ?_⟩) (wpOp_of_then h0 h)
    exact wpAnyC_makes hll hlate l (i + 1) _ a' w' (fun j hj => by have := hl (j + 1) (by simp; omega); simpa [Nat.add_assoc, Nat.add_comm 1 j] using this) (by simp only [List.length_cons] at hk; omega) hB.2 h'.2

def looksOk (ops : Array Oper) (g : Nat) : Nat → Nat → Array Bool → Bool
  | 0, k, listed => seqC ops g k listed
  | f + 1, k, listed => (Region.ready .any ops listed).contains k && Region.free .any ops listed k && ((ops[k]?).map (·.dst.isSome)).getD false && looksOk ops g f (k + 1) (listed.setIfInBounds k true)

def lateNeeds (ops : Array Oper) (m n n2 : Nat) : Bool :=
  (List.range ops.size).all fun t => decide (t < n2) || (List.range n).all fun h => decide (h < m) || waitsOn ops ops.size t h

def copiesOkC (ops : Array Oper) (n g h : Nat) : Nat → Nat → Array Bool → Bool
  | 0, k, listed => looksOk ops g h k listed && decide (k + h = n)
  | f + 1, k, listed => (Region.ready .any ops listed).contains k && Region.free .any ops listed k && ((ops[k]?).map isCopy).getD false && copiesOkC ops n g h f (k + 1) (listed.setIfInBounds k true)

/-- m copies of locals; up to n operations that look; those up to n2 make memory; the rest comes one behind the other. -/
def heldB (ops : Array Oper) (m n n2 : Nat) : Bool :=
  Region.noSelect ops && decide (m ≤ n) && decide (n ≤ n2) && decide (n2 ≤ ops.size) && lateNeeds ops m n n2 && copiesOkC ops n (ops.size - n) (n - m) m 0 (Array.replicate ops.size false)

theorem looks_lex {m n n2 : Nat} {el ll : List Oper} (hsel : Region.noSelect ops = true) (hn : lateNeeds ops m n n2 = true)
    (hQ : ∀ c (a : Act) (d : Tmp) v w, Q (.panic c) (a.put (some d) v) w → Q (.panic c) a w) (hel : ∀ j, j < el.length → el[j]? = ops[n + j]?) (hen : n + el.length = n2) (hll : ∀ j, ll[j]? = ops[n2 + j]?) (hg : ops.size - n = el.length + ll.length) :
    ∀ (l : List Oper) (k : Nat) (listed : Array Bool) (a : Act) (w : World), (∀ j, j < l.length → l[j]? = ops[k + j]?) → k + l.length = n → m ≤ k → ClosedL ops listed → C w →
      looksOk ops (ops.size - n) l.length k listed = true → wpYield P ops C (fun a' => ∀ w', C w' → wpMakes P ops Q C ll el a' w') l a →
      wpAnyC P ops Q C (fun j => decide (n2 ≤ j)) (l.length + (el.length + ll.length)) listed a w
  | [], k, listed, a, w, _, hk, _, hcl, hC, hB, h => by
    have : k = n := by simpa using hk
    subst this
    simp only [List.length_nil, Nat.zero_add]
    exact wpAnyC_makes hll (fun j hj => by simpa using hj) el k listed a w hel hen (by rw [← hg]; simpa [looksOk] using hB) (h w hC)
  | o :: l, k, listed, a, w, hl, hk, hmk, hcl, hC, hB, h => by
    have h0 : ops[k]? = some o := by simpa using (hl 0 (by simp)).symm
    simp only [List.length_cons, looksOk, Bool.and_eq_true] at hB
    obtain ⟨⟨⟨hr, hf⟩, hd⟩, hB'⟩ := hB
    rw [h0] at hd
    simp only [Option.map_some, Option.getD_some] at hd
    obtain ⟨d, hd⟩ := Option.isSome_iff_exists.1 hd
    have hkn : k < n := by simp only [List.length_cons] at hk; omega
    have hr' : k ∈ Region.ready .any ops listed := by simpa using hr
    have hy : ∃ v, YieldsIf P ops C o v a ∧ wpYield P ops C (fun a' => ∀ w', C w' → wpMakes P ops Q C ll el a' w') l (a.put o.dst v) := by
      simp only [wpYield] at h
      by_cases hw : Region.wanted o (yielded ops a.tmps) = true
      · simp only [hw, if_true] at h
        obtain ⟨v, h1, h2⟩ := h
        exact ⟨v, .inl ⟨hw, h1⟩, h2⟩
      · simp only [hw] at h
        exact ⟨undef, .inr ⟨by simpa using hw, rfl⟩, h⟩
    obtain ⟨v, hy, hK⟩ := hy
    have e : (o :: l).length + (el.length + ll.length) = (l.length + (el.length + ll.length)) + 1 := by simp; omega
    rw [e]
    refine wpAnyC_first (F := ops.size) h0 (Region.noSelect_spec hsel) (fun c a' w' hq => by rw [hd] at hq; exact hQ c a' d _ w' hq) (fun j oj hj hT => ?_) _ listed a w hcl (Region.free_spec h0 hf) hr' hy hC
      (looks_lex hsel hn hQ hel hen hll hg l (k + 1) _ _ w (fun j hj => by have := hl (j + 1) (by simp; omega); simpa [Nat.add_assoc, Nat.add_comm 1 j] using this) (by simp only [List.length_cons] at hk; omega) (by omega) (hcl.set hr') hC hB' hK)
    have hjs : j < ops.size := (Array.getElem?_eq_some_iff.1 hj).1
    have hT' : n2 ≤ j := by simpa using hT
    have h1 := List.all_eq_true.1 hn j (List.mem_range.2 hjs)
    simp only [Bool.or_eq_true, decide_eq_true_eq] at h1
    rcases h1 with h1 | h1
    · omega
    · have h2 := List.all_eq_true.1 h1 k (List.mem_range.2 hkn)
      simp only [Bool.or_eq_true, decide_eq_true_eq] at h2
      rcases h2 with h2 | h2
      · omega
      · exact h2

theorem copiesC_lex {m n n2 : Nat} {rest el ll : List Oper} (hsel : Region.noSelect ops = true) (hn : lateNeeds ops m n n2 = true)
    (hQ : ∀ c (a : Act) (d : Tmp) v w, Q (.panic c) (a.put (some d) v) w → Q (.panic c) a w) (hrl : rest.length = n - m) (hrest : ∀ j, j < rest.length → rest[j]? = ops[m + j]?) (hel : ∀ j, j < el.length → el[j]? = ops[n + j]?) (hen : n + el.length = n2) (hll : ∀ j, ll[j]? = ops[n2 + j]?) (hg : ops.size - n = el.length + ll.length) :
    ∀ (l : List Oper) (k : Nat) (listed : Array Bool) (a : Act) (w : World), (∀ j, j < l.length → l[j]? = ops[k + j]?) → k + l.length = m → ClosedL ops listed → C w →
      copiesOkC ops n (ops.size - n) (n - m) l.length k listed = true → wpYield P ops C (fun a' => ∀ w', C w' → wpMakes P ops Q C ll el a' w') (l ++ rest) a →
      wpAny P .any ops Q (l.length + (rest.length + (el.length + ll.length))) listed a w
  | [], k, listed, a, w, _, hk, hcl, hC, hB, h => by
    have hkm : k = m := by simpa using hk
    subst hkm
    simp only [List.length_nil, copiesOkC, Bool.and_eq_true, decide_eq_true_eq] at hB
    simp only [List.length_nil, Nat.zero_add]
    refine wpAny_of_C (C := C) (late := fun j => decide (n2 ≤ j)) _ _ _ _ ?_
    exact looks_lex hsel hn hQ hel hen hll hg rest k listed a w hrest (by omega) (Nat.le_refl _) hcl hC (by rw [hrl]; exact hB.1) (by simpa using h)
  | o :: l, k, listed, a, w, hl, hk, hcl, hC, hB, h => by
    have h0 : ops[k]? = some o := by simpa using (hl 0 (by simp)).symm
    simp only [List.length_cons, copiesOkC, Bool.and_eq_true] at hB
    obtain ⟨⟨⟨hr, hf⟩, hcp⟩, hB'⟩ := hB
    have hr' : k ∈ Region.ready .any ops listed := by simpa using hr
    rw [h0] at hcp
    simp only [Option.map_some, Option.getD_some] at hcp
    obtain ⟨dst, op, type, pos, after, guard⟩ := o
    obtain ⟨d, x, e1, e2, e3⟩ := isCopy_spec hcp
    dsimp only at e1 e2 e3
    subst e1 e2 e3
    have hyld : Yields P ops ⟨some d, .move x, type, pos, after, none⟩ (a.eval x) a := .inl ⟨rfl, fun w' => rfl⟩
    have hlen : (⟨some d, .move x, type, pos, after, none⟩ :: l : List Oper).length + (rest.length + (el.length + ll.length)) = (l.length + (rest.length + (el.length + ll.length))) + 1 := by simp; omega
    rw [hlen]
    refine wpAny_first (md := .any) h0 (Region.noSelect_spec hsel) (fun c a' w' hq => hQ c a' d _ w' hq) _ listed a w (Region.free_spec h0 hf) hr' hyld ?_
    refine copiesC_lex hsel hn hQ hrl hrest hel hen hll hg l (k + 1) _ _ w (fun j hj => by have := hl (j + 1) (by simp; omega); simpa [Nat.add_assoc, Nat.add_comm 1 j] using this) (by simp only [List.length_cons] at hk; omega) (hcl.set hr') hC hB' ?_
    have h' : yieldC P ⟨some d, .move x, type, pos, after, none⟩ a C (wpYield P ops C (fun a' => ∀ w', C w' → wpMakes P ops Q C ll el a' w') (l ++ rest)) := h
    obtain ⟨v, hv, hK⟩ := h'
    have hv1 := hv w hC
    have hv2 : a.eval x = v := by injection hv1 with h1 _; injection h1
    rw [hv2]
    exact hK

theorem wp_region_looks {id : Nat} {a : Act} {w : World} {l : List Oper} (m n n2 : Nat) (hm : P.follows .mixedOrders = true) (hB : heldB l.toArray m n n2 = true)
    (hQ : ∀ c (a : Act) (d : Tmp) v w, Q (.panic c) (a.put (some d) v) w → Q (.panic c) a w)
    (h : wpYield P l.toArray (fun w' => ∃ x, w' = World.over w x) (fun a' => ∀ w', (∃ x, w' = World.over w x) → wpMakes P l.toArray Q (fun w' => ∃ x, w' = World.over w x) (l.drop n2) ((l.take n2).drop n) a' w') (l.take n) a) :
    (Code.region id l.toArray true).wp P Q a w := by
  simp only [heldB, Bool.and_eq_true, decide_eq_true_eq] at hB
  obtain ⟨⟨⟨⟨⟨hsel, hmn⟩, hnn⟩, hns⟩, hnd⟩, hcp⟩ := hB
  have hsz : l.toArray.size = l.length := by simp
  rw [hsz] at hns
  refine wp_region_any hm ?_
  have hcl : ClosedL l.toArray (Array.replicate l.toArray.size false) := fun j oj _ hl => by rw [getD_replicate_false] at hl; cases hl
  have hC0 : ∃ x, ({ w with drawn := w.drawn + 1 } : World) = World.over w x := over_of_below ⟨rfl, rfl, rfl, Nat.le_refl _, fun _ _ => rfl⟩
  have hsplit : (l.take n) = l.take m ++ (l.drop m).take (n - m) := by
    have : n = m + (n - m) := by omega
    conv => lhs; rw [this]
    rw [List.take_add]
  rw [hsplit] at h
  have e0 : (l.take m).length = m := by simp; omega
  have e1 : ((l.take n2).drop n).length = n2 - n := by simp; omega
  have e2 : ((l.drop m).take (n - m)).length = n - m := by simp; omega
  have := copiesC_lex (P := P) (ops := l.toArray) (C := fun w' => ∃ x, w' = World.over w x) (Q := Q) (m := m) (n := n) (n2 := n2) (rest := (l.drop m).take (n - m)) (el := (l.take n2).drop n) (ll := l.drop n2) hsel hnd hQ e2
    (fun j hj => by
      have hj' : j < n - m := by rw [e2] at hj; omega
      simp [List.getElem?_drop, hj'])
    (fun j hj => by
      have hj' : n + j < n2 := by rw [e1] at hj; omega
      simp [List.getElem?_drop, hj']) (by rw [e1]; omega) (fun j => by simp [List.getElem?_drop]) (by rw [e1]; simp; omega) (l.take m) 0 _ a _
    (fun j hj => by
      have hj' : j < m := by rw [e0] at hj; exact hj
      simp [hj']) (by rw [e0]; omega) hcl hC0 (by rw [e0]; exact hcp) h
  have e : (l.take m).length + (((l.drop m).take (n - m)).length + (((l.take n2).drop n).length + (l.drop n2).length)) = l.toArray.size := by rw [e0, e1, e2]; simp; omega
  rw [e] at this
  exact this
end
end Go.Proofs.YtofgajlpdnokdaaGreatDoor

/- A region that draws its order, walked once, in an order of one's own: copies first, then operations that only look (in every world of a class), then some that call (each leaves a world of the class), then the rest in one forced order. For every order that the tape may pick. -/
namespace Go.Proofs.YtofgajlpdnokdaaGreatDoor
set_option linter.unusedVariables false
open Go.RowKit

section
variable {P : Program} {ops : Array Oper} {Q : Exit → Act → World → Prop} {C : World → Prop}

/-- The operations of these numbers, in this order. -/
def pick (ops : Array Oper) : List Nat → List Oper
  | [] => []
  | i :: is => match ops[i]? with
    | some o => o :: pick ops is
    | none => pick ops is

theorem pick_cons {i : Nat} {is : List Nat} {o : Oper} (h : ops[i]? = some o) : pick ops (i :: is) = o :: pick ops is := by simp [pick, h]

def seqL (ops : Array Oper) : List Nat → Array Bool → Bool
  | [], listed => (Region.ready .any ops listed).isEmpty
  | k :: ks, listed => decide (Region.ready .any ops listed = [k]) && seqL ops ks (listed.setIfInBounds k true)

theorem seqL_cons {k : Nat} {ks : List Nat} {listed : Array Bool} (h : seqL ops (k :: ks) listed = true) : Region.ready .any ops listed = [k] ∧ (∃ o, ops[k]? = some o) ∧ seqL ops ks (listed.setIfInBounds k true) = true := by
  simp only [seqL, Bool.and_eq_true, decide_eq_true_eq] at h
  obtain ⟨_, o, ho, _⟩ := mem_ready.1 (show k ∈ Region.ready .any ops listed by rw [h.1]; simp)
  exact ⟨h.1, ⟨o, ho⟩, h.2⟩

theorem ordC_late {late : Nat → Bool} : ∀ (ks : List Nat) (listed : Array Bool) (a : Act) (w : World), (∀ j ∈ ks, late j = true) → seqL ops ks listed = true →
    wpList P ops Q (pick ops ks) a w → wpAnyC P ops Q C late ks.length listed a w
  | [], listed, a, w, _, hB, h => ⟨by simpa [seqL] using hB, h⟩
  | k :: ks, listed, a, w, hl, hB, h => by
    obtain ⟨h1, ⟨o, h0⟩, hB'⟩ := seqL_cons hB
    refine ⟨fun h2 => (by rw [h1] at h2; cases h2), fun i hi => ?_⟩
    rw [h1] at hi
    have hik : i = k := by simpa using hi
    subst hik
    rw [pick_cons h0] at h
    have hw : wpOp P ops Q i (wpList P ops Q (pick ops ks)) a w := by unfold wpOp; simp only [h0]; exact h
    exact wpOp_mono (fun a' w' h' => ⟨fun h => (by rw [hl i (by simp)] at h; cases h), ordC_late ks _ a' w' (fun j hj => hl j (by simp [hj])) hB' h'⟩) hw

theorem ordC_makes {late : Nat → Bool} {ts : List Nat} (hlate : ∀ j ∈ ts, late j = true) :
    ∀ (ms : List Nat) (listed : Array Bool) (a : Act) (w : World), seqL ops (ms ++ ts) listed = true →
    wpMakes P ops Q C (pick ops ts) (pick ops ms) a w → wpAnyC P ops Q C late (ms.length + ts.length) listed a w
  | [], listed, a, w, hB, h => by
    rw [List.length_nil, Nat.zero_add]
    exact ordC_late ts listed a w hlate hB h
  | k :: ms, listed, a, w, hB, h => by
    obtain ⟨h1, ⟨o, h0⟩, hB'⟩ := seqL_cons hB
    have e : (k :: ms).length + ts.length = (ms.length + ts.length) + 1 := by simp; omega
    rw [e]
    rw [pick_cons h0] at h
    refine ⟨fun h2 => (by rw [h1] at h2; cases h2), fun i hi => ?_⟩
    rw [h1] at hi
    have hik : i = k := by simpa using hi
    subst hik
    refine wpOp_mono (fun a' w' h' => ⟨fun _ => h'.1, ?_⟩) (wpOp_of_then h0 h)
    exact ordC_makes hlate ms _ a' w' hB' h'.2

def looksL (ops : Array Oper) (rest : List Nat) : List Nat → Array Bool → Bool
  | [], listed => seqL ops rest listed
  | k :: ks, listed => (Region.ready .any ops listed).contains k && Region.free .any ops listed k && ((ops[k]?).map (·.dst.isSome)).getD false && looksL ops rest ks (listed.setIfInBounds k true)

def copiesL (ops : Array Oper) (looks rest : List Nat) : List Nat → Array Bool → Bool
  | [], listed => looksL ops rest looks listed
  | k :: ks, listed => (Region.ready .any ops listed).contains k && Region.free .any ops listed k && ((ops[k]?).map isCopy).getD false && copiesL ops looks rest ks (listed.setIfInBounds k true)

def ordB (ops : Array Oper) (cs ls ms ts : List Nat) : Bool :=
  Region.noSelect ops && decide (cs.length + (ls.length + (ms.length + ts.length)) = ops.size) && (ts.all fun t => ls.all fun h => waitsOn ops ops.size t h) && copiesL ops ls (ms ++ ts) cs (Array.replicate ops.size false)

theorem ord_looks {ls ms ts : List Nat} (hsel : Region.noSelect ops = true) (hn : ∀ t ∈ ts, ∀ h ∈ ls, waitsOn ops ops.size t h = true)
    (hQ : ∀ c (a : Act) (d : Tmp) v w, Q (.panic c) (a.put (some d) v) w → Q (.panic c) a w) :
    ∀ (ks : List Nat) (listed : Array Bool) (a : Act) (w : World), (∀ k ∈ ks, k ∈ ls) → ClosedL ops listed → C w →
      looksL ops (ms ++ ts) ks listed = true → wpYield P ops C (fun a' => ∀ w', C w' → wpMakes P ops Q C (pick ops ts) (pick ops ms) a' w') (pick ops ks) a →
      wpAnyC P ops Q C (fun j => decide (j ∈ ts)) (ks.length + (ms.length + ts.length)) listed a w
  | [], listed, a, w, _, hcl, hC, hB, h => by
    simp only [List.length_nil, Nat.zero_add]
    exact ordC_makes (fun j hj => by simpa using hj) ms listed a w (by simpa [looksL] using hB) (h w hC)
  | k :: ks, listed, a, w, hsub, hcl, hC, hB, h => by
    simp only [looksL, Bool.and_eq_true] at hB
    obtain ⟨⟨⟨hr, hf⟩, hd⟩, hB'⟩ := hB
    have hr' : k ∈ Region.ready .any ops listed := by simpa using hr
    obtain ⟨_, o, h0, _⟩ := mem_ready.1 hr'
    rw [h0] at hd
    simp only [Option.map_some, Option.getD_some] at hd
    obtain ⟨d, hd⟩ := Option.isSome_iff_exists.1 hd
    rw [pick_cons h0] at h
    have hy : ∃ v, YieldsIf P ops C o v a ∧ wpYield P ops C (fun a' => ∀ w', C w' → wpMakes P ops Q C (pick ops ts) (pick ops ms) a' w') (pick ops ks) (a.put o.dst v) := by
      simp only [wpYield] at h
      by_cases hw : Region.wanted o (yielded ops a.tmps) = true
      · simp only [hw, if_true] at h
        obtain ⟨v, h1, h2⟩ := h
        exact ⟨v, .inl ⟨hw, h1⟩, h2⟩
      · simp only [hw] at h
        exact ⟨undef, .inr ⟨by simpa using hw, rfl⟩, h⟩
    obtain ⟨v, hy, hK⟩ := hy
    have e : (k :: ks).length + (ms.length + ts.length) = (ks.length + (ms.length + ts.length)) + 1 := by simp; omega
    rw [e]
    refine wpAnyC_first (F := ops.size) h0 (Region.noSelect_spec hsel) (fun c a' w' hq => by rw [hd] at hq; exact hQ c a' d _ w' hq) (fun j oj hj hT => hn j (by simpa using hT) k (hsub k (by simp))) _ listed a w hcl (Region.free_spec h0 hf) hr' hy hC
      (ord_looks hsel hn hQ ks _ _ w (fun j hj => hsub j (by simp [hj])) (hcl.set hr') hC hB' hK)

theorem ord_copies {ls ms ts : List Nat} (hsel : Region.noSelect ops = true) (hn : ∀ t ∈ ts, ∀ h ∈ ls, waitsOn ops ops.size t h = true)
    (hQ : ∀ c (a : Act) (d : Tmp) v w, Q (.panic c) (a.put (some d) v) w → Q (.panic c) a w) :
    ∀ (ks : List Nat) (listed : Array Bool) (a : Act) (w : World), ClosedL ops listed → C w →
      copiesL ops ls (ms ++ ts) ks listed = true → wpYield P ops C (fun a' => wpYield P ops C (fun a' => ∀ w', C w' → wpMakes P ops Q C (pick ops ts) (pick ops ms) a' w') (pick ops ls) a') (pick ops ks) a →
      wpAny P .any ops Q (ks.length + (ls.length + (ms.length + ts.length))) listed a w
  | [], listed, a, w, hcl, hC, hB, h => by
    simp only [List.length_nil, Nat.zero_add]
    refine wpAny_of_C (C := C) (late := fun j => decide (j ∈ ts)) _ _ _ _ ?_
    exact ord_looks hsel hn hQ ls listed a w (fun _ h => h) hcl hC (by simpa [copiesL] using hB) h
  | k :: ks, listed, a, w, hcl, hC, hB, h => by
    simp only [copiesL, Bool.and_eq_true] at hB
    obtain ⟨⟨⟨hr, hf⟩, hcp⟩, hB'⟩ := hB
    have hr' : k ∈ Region.ready .any ops listed := by simpa using hr
    obtain ⟨_, o, h0, _⟩ := mem_ready.1 hr'
    rw [h0] at hcp
    rw [pick_cons h0] at h
    simp only [Option.map_some, Option.getD_some] at hcp
    obtain ⟨dst, op, type, pos, after, guard⟩ := o
    obtain ⟨d, x, e1, e2, e3⟩ := isCopy_spec hcp
    dsimp only at e1 e2 e3
    subst e1 e2 e3
    have hyld : Yields P ops ⟨some d, .move x, type, pos, after, none⟩ (a.eval x) a := .inl ⟨rfl, fun w' => rfl⟩
    have hlen : (k :: ks).length + (ls.length + (ms.length + ts.length)) = (ks.length + (ls.length + (ms.length + ts.length))) + 1 := by simp; omega
    rw [hlen]
    refine wpAny_first (md := .any) h0 (Region.noSelect_spec hsel) (fun c a' w' hq => hQ c a' d _ w' hq) _ listed a w (Region.free_spec h0 hf) hr' hyld ?_
    refine ord_copies hsel hn hQ ks _ _ w (hcl.set hr') hC hB' ?_
    have h' : yieldC P ⟨some d, .move x, type, pos, after, none⟩ a C (wpYield P ops C (fun a' => wpYield P ops C (fun a' => ∀ w', C w' → wpMakes P ops Q C (pick ops ts) (pick ops ms) a' w') (pick ops ls) a') (pick ops ks)) := h
    obtain ⟨v, hv, hK⟩ := h'
    have hv1 := hv w hC
    have hv2 : a.eval x = v := by injection hv1 with h1 _; injection h1
    rw [hv2]
    exact hK

/-- The class is that of the worlds G x. -/
theorem wp_region_ord {id : Nat} {a : Act} {w : World} {l : List Oper} (cs ls ms ts : List Nat) (G : World → World) (hm : P.follows .mixedOrders = true) (hB : ordB l.toArray cs ls ms ts = true)
    (hQ : ∀ c (a : Act) (d : Tmp) v w, Q (.panic c) (a.put (some d) v) w → Q (.panic c) a w) (hG : ∃ x, w.drew = G x)
    (h : wpYield P l.toArray (fun w' => ∃ x, w' = G x) (fun a' => wpYield P l.toArray (fun w' => ∃ x, w' = G x) (fun a' => ∀ w', (∃ x, w' = G x) → wpMakes P l.toArray Q (fun w' => ∃ x, w' = G x) (pick l.toArray ts) (pick l.toArray ms) a' w') (pick l.toArray ls) a') (pick l.toArray cs) a) :
    (Code.region id l.toArray true).wp P Q a w := by
  simp only [ordB, Bool.and_eq_true, decide_eq_true_eq] at hB
  obtain ⟨⟨⟨hsel, hlen⟩, hnd⟩, hcp⟩ := hB
  refine wp_region_any hm ?_
  have hcl : ClosedL l.toArray (Array.replicate l.toArray.size false) := fun j oj _ hl => by rw [getD_replicate_false] at hl; cases hl
  have hn : ∀ t ∈ ts, ∀ h ∈ ls, waitsOn l.toArray l.toArray.size t h = true := fun t ht h hh => List.all_eq_true.1 (List.all_eq_true.1 hnd t ht) h hh
  have := ord_copies (P := P) (ops := l.toArray) (C := fun w' => ∃ x, w' = G x) (Q := Q) hsel hn hQ cs _ a _ hcl hG hcp h
  rw [hlen] at this
  exact this
end

section
variable {T : Type} {P : Program} {cells : T → List Value} {sz : Nat} {t e : TypeId} {bytes : Nat} {z0 : T} {w : World}

/-- append(v, records...), as a run. -/
theorem run_append_rec (hR : RecT P cells sz t e bytes z0) (ty : TypeId) (v : Value) (l : List T) (hown : Own cells sz e w v l)
    (sa : Option Addr) (c : Nat) (l2 : List T) (hc0 : sa = none → c = 0) (hrow : RowAt cells sz w sa l2)
    (h63 : l.length + l2.length ≤ maxLen) (hbytes : (l.length + l2.length) * bytes ≤ 140737488355328) :
    ∃ v' w', (Builtin.append_ #[t, t] ty #[v, .slice sa l2.length c]).run P w = .ok v' w' ∧ Own cells sz e w' v' (l ++ l2) ∧ Chg (fun k => v.ownBlock = some k) w w' ∧ (v'.ownBlock = v.ownBlock ∨ v'.ownBlock = some w.heap.size) := by
  obtain ⟨i, z, hi, hz, hsz, hby, hzc⟩ := hR.hi
  have hzs : z.cells.size = sz := by rw [hzc]; simp [hR.hc]
  by_cases hl2 : l2 = []
  · subst hl2
    cases sa with
    | none =>
      obtain rfl := hc0 rfl
      exact ⟨v, w, run_append_owned_none (P := P) (w := w) 0 t ty e i sz hR.ht hi v l.length (flatC cells l) hown, by simpa using hown, Chg.refl _ _, .inl rfl⟩
    | some ad =>
      obtain ⟨v', w', hr, h1, h2, _, h3⟩ := run_append_own_at (P := P) w 0 t ty e i z sz bytes hR.ht hi hz hsz hby hzs hR.pos v l.length (flatC cells l) hown ad 0 c [] (by simp) (by simp) (by simp) (by simpa using h63) (by simpa using hbytes) (Nat.zero_le _)
      exact ⟨v', w', hr, by simpa [Own] using h1, (Chg.refl _ _).grown h2 fun k hk => .inl hk, h3⟩
  · obtain ⟨g, off, rfl, _⟩ := hrow 0 (List.length_pos_iff.2 hl2)
    obtain ⟨v', w', hr, h1, h2, _, h3⟩ := run_append_own_at (P := P) w 0 t ty e i z sz bytes hR.ht hi hz hsz hby hzs hR.pos v l.length (flatC cells l) hown ⟨g, off, none⟩ l2.length c (flatC cells l2)
      (flatC_length hR.hc l2) (row_news hR.hc hrow hR.pos) (flatC_one hR l2) h63 hbytes (Nat.zero_le _)
    refine ⟨v', w', hr, ?_, (Chg.refl _ _).grown h2 fun k hk => .inl hk, h3⟩
    unfold Own
    rw [flatC_append, List.length_append]
    exact h1

/-- .. at a step of a region that draws. -/
theorem step_append_rec {ops : Array Oper} {o : Oper} {a : Act} {K : Act → World → Prop} {Q : Exit → Act → World → Prop} {E : Prop} (hR : RecT P cells sz t e bytes z0) (hgd : o.guard = none) (s x : Operand)
    (ho : o.op = .call { callee := .builtin .append, args := #[s, x], argTypes := #[t, t] })
    (v : Value) (l : List T) (hs : a.eval s = v) (hown : Own cells sz e w v l)
    (sa : Option Addr) (c : Nat) (l2 : List T) (hx : a.eval x = .slice sa l2.length c) (hc0 : sa = none → c = 0) (hrow : RowAt cells sz w sa l2)
    (h63 : l.length + l2.length ≤ maxLen) (hbytes : (l.length + l2.length) * bytes ≤ 140737488355328)
    (h : ∀ v' w', Own cells sz e w' v' (l ++ l2) → Chg (fun k => v.ownBlock = some k) w w' → (v'.ownBlock = v.ownBlock ∨ v'.ownBlock = some w.heap.size) → K (a.put o.dst v') w') :
    if Region.wanted o (yielded ops a.tmps) = true then Oper.wp P o a w K Q else E := by
  have hw : Region.wanted o (yielded ops a.tmps) = true := by simp [Region.wanted, hgd]
  rw [if_pos hw]
  obtain ⟨v', w', hr, h2, h3, h4⟩ := run_append_rec hR o.type v l hown sa c l2 hc0 hrow h63 hbytes
  unfold Oper.wp execOp
  simp only [ho, resolve, invoke, builtin, Sem.run_bind, Sem.run_pure, Result.andThen_ok, List.map_toArray, List.map_cons, List.map_nil, hs, hx, hr]
  exact h v' w' h2 h3 h4
end

/-! ### Worlds in which only blocks of S, and new ones, have changed, written out -/

/-- The blocks of w but those of S, the rest as in x. -/
noncomputable def graft (S : Nat → Prop) (w x : World) : World := by
  classical
  exact { heap := ((Array.range (max w.heap.size x.heap.size)).map fun k => if k < w.heap.size ∧ ¬ S k then w.heap.getD k (.cells #[] 0) else x.heap.getD k (w.heap.getD k (.cells #[] 0))), tape := w.tape, drawn := x.drawn, os := w.os, output := w.output }

theorem graft_of_chg {S : Nat → Prop} {w w' : World} (h : Chg S w w') : ∃ x, w' = graft S w x := by
  classical
  refine ⟨w', ?_⟩
  have hsz := h.size
  cases w' with
  | mk heap tape drawn os output =>
    simp only at hsz
    have e : heap = ((Array.range (max w.heap.size heap.size)).map fun k => if k < w.heap.size ∧ ¬ S k then w.heap.getD k (.cells #[] 0) else heap.getD k (w.heap.getD k (.cells #[] 0))) := by
      rw [Nat.max_eq_right hsz]
      apply Array.ext_getElem?
      intro k
      by_cases hk : k < heap.size
      · simp only [Array.getElem?_map, Array.getElem?_range, hk, if_true, Option.map_some]
        split
        · rename_i h2
          have := h.block k h2.1 h2.2
          simp only at this
          rw [this, Array.getElem?_eq_getElem h2.1]
          simp [Array.getD, h2.1]
        · rw [Array.getElem?_eq_getElem hk]; simp
      · rw [Array.getElem?_eq_none (by omega), Array.getElem?_eq_none (by simp; omega)]
    unfold graft
    simp only [World.mk.injEq]
    exact ⟨e, h.tape, trivial, h.os, h.output⟩

theorem chg_graft (S : Nat → Prop) (w x : World) : Chg S w (graft S w x) := by
  classical
  refine ⟨rfl, rfl, rfl, by unfold graft; simp; omega, fun k hk hS => ?_⟩
  unfold graft
  simp only [Array.getElem?_map, Array.getElem?_range]
  rw [if_pos (by omega)]
  simp only [Option.map_some, hk, hS, not_false_eq_true, and_self, if_true]
  rw [Array.getElem?_eq_getElem hk]
  simp [Array.getD, hk]
end Go.Proofs.YtofgajlpdnokdaaGreatDoor

/- A region that draws its order, walked once: operations that only look first, then some that make memory in every order among themselves, then the rest in one forced order. For every order that the tape may pick. -/
namespace Go.Proofs.YtofgajlpdnokdaaGreatDoor
set_option linter.unusedVariables false
open Go.RowKit

section
variable {P : Program} {ops : Array Oper} {Q : Exit → Act → World → Prop} {C : World → Prop}

/-- These n operations in every order, C shown behind each; then the rest. -/
def wpAlls (P : Program) (ops : Array Oper) (Q : Exit → Act → World → Prop) (C : World → Prop) (late : List Oper) (makes : List Oper) : Nat → List Nat → Act → World → Prop
  | 0, _, a, w => wpMakes P ops Q C late makes a w
  | n + 1, is, a, w => ∀ i ∈ is, ∀ o, ops[i]? = some o → wpList P ops (Exit.then (fun a' w' => C w' ∧ wpAlls P ops Q C late makes n (is.erase i) a' w') Q) [o] a w

theorem wpAlls_one {late makes : List Oper} {j : Nat} {oj : Oper} (hj : ops[j]? = some oj) : wpAlls P ops Q C late makes 1 [j] = fun a w => wpList P ops (Exit.then (fun a' w' => C w' ∧ wpMakes P ops Q C late makes a' w') Q) [oj] a w := by
  funext a w
  apply propext
  constructor
  · intro h
    exact h j (by simp) oj hj
  · intro h k hk o ho
    simp only [List.mem_cons, List.not_mem_nil, or_false] at hk
    subst hk
    rw [hj] at ho
    obtain rfl := Option.some.inj ho
    exact h
theorem wpAlls_two {late makes : List Oper} {i j : Nat} {oi oj : Oper} {a : Act} {w : World} (hij : i ≠ j) (hi : ops[i]? = some oi) (hj : ops[j]? = some oj)
    (h1 : wpList P ops (Exit.then (fun a' w' => C w' ∧ wpList P ops (Exit.then (fun a' w' => C w' ∧ wpMakes P ops Q C late makes a' w') Q) [oj] a' w') Q) [oi] a w)
    (h2 : wpList P ops (Exit.then (fun a' w' => C w' ∧ wpList P ops (Exit.then (fun a' w' => C w' ∧ wpMakes P ops Q C late makes a' w') Q) [oi] a' w') Q) [oj] a w) : wpAlls P ops Q C late makes 2 [i, j] a w := by
  have e1 : [i, j].erase i = [j] := by simp
  have e2 : [i, j].erase j = [i] := by
    rw [List.erase_cons_tail (by simpa using hij)]
    simp
  intro k hk o ho
  simp only [List.mem_cons, List.not_mem_nil, or_false] at hk
  rcases hk with rfl | rfl
  · rw [hi] at ho
    obtain rfl := Option.some.inj ho
    rw [e1, wpAlls_one hj]
    exact h1
  · rw [hj] at ho
    obtain rfl := Option.some.inj ho
    rw [e2, wpAlls_one hi]
    exact h2

def allsB (ops : Array Oper) (ms ts : List Nat) : Nat → List Nat → Array Bool → Bool
  | 0, _, listed => seqL ops (ms ++ ts) listed
  | n + 1, is, listed => decide (Region.ready .any ops listed = is) && !is.isEmpty && is.all fun i => (ops[i]?).isSome && allsB ops ms ts n (is.erase i) (listed.setIfInBounds i true)

theorem ordC_alls {late : Nat → Bool} {ms ts : List Nat} (hlate : ∀ j ∈ ts, late j = true) : ∀ (n : Nat) (is : List Nat) (listed : Array Bool) (a : Act) (w : World), allsB ops ms ts n is listed = true →
    wpAlls P ops Q C (pick ops ts) (pick ops ms) n is a w → wpAnyC P ops Q C late (n + (ms.length + ts.length)) listed a w
  | 0, is, listed, a, w, hB, h => by
    rw [Nat.zero_add]
    exact ordC_makes hlate ms listed a w (by simpa [allsB] using hB) h
  | n + 1, is, listed, a, w, hB, h => by
    simp only [allsB, Bool.and_eq_true, decide_eq_true_eq] at hB
    obtain ⟨⟨h1, hne⟩, hall⟩ := hB
    have e : n + 1 + (ms.length + ts.length) = (n + (ms.length + ts.length)) + 1 := by omega
    rw [e]
    refine ⟨fun h2 => (by rw [h1] at h2; subst h2; simp at hne), fun i hi => ?_⟩
    rw [h1] at hi
    have hb := List.all_eq_true.1 hall i hi
    simp only [Bool.and_eq_true] at hb
    obtain ⟨ho, hB'⟩ := hb
    obtain ⟨o, h0⟩ := Option.isSome_iff_exists.1 ho
    refine wpOp_mono (fun a' w' h' => ⟨fun _ => h'.1, ?_⟩) (wpOp_of_then h0 (h i hi o h0))
    exact ordC_alls hlate n (is.erase i) _ a' w' hB' h'.2

def looksF (ops : Array Oper) (fin : Array Bool → Bool) : List Nat → Array Bool → Bool
  | [], listed => fin listed
  | k :: ks, listed => (Region.ready .any ops listed).contains k && Region.free .any ops listed k && ((ops[k]?).map (·.dst.isSome)).getD false && looksF ops fin ks (listed.setIfInBounds k true)

theorem ord_looksF {m : Nat} {fin : Array Bool → Bool} {late : Nat → Bool} {ls : List Nat} {K : Act → World → Prop} (hsel : Region.noSelect ops = true) (hn : ∀ t, late t = true → ∀ h ∈ ls, waitsOn ops ops.size t h = true)
    (hQ : ∀ c (a : Act) (d : Tmp) v w, Q (.panic c) (a.put (some d) v) w → Q (.panic c) a w) (hfin : ∀ listed a w, fin listed = true → K a w → wpAnyC P ops Q C late m listed a w) :
    ∀ (ks : List Nat) (listed : Array Bool) (a : Act) (w : World), (∀ k ∈ ks, k ∈ ls) → ClosedL ops listed → C w →
      looksF ops fin ks listed = true → wpYield P ops C (fun a' => ∀ w', C w' → K a' w') (pick ops ks) a →
      wpAnyC P ops Q C late (ks.length + m) listed a w
  | [], listed, a, w, hsub, hcl, hC, hB, h => by
    simp only [List.length_nil, Nat.zero_add]
    exact hfin listed a w (by simpa [looksF] using hB) (h w hC)
  | k :: ks, listed, a, w, hsub, hcl, hC, hB, h => by
    simp only [looksF, Bool.and_eq_true] at hB
    obtain ⟨⟨⟨hr, hf⟩, hd⟩, hB'⟩ := hB
    have hr' : k ∈ Region.ready .any ops listed := by simpa using hr
    obtain ⟨_, o, h0, _⟩ := mem_ready.1 hr'
    rw [h0] at hd
    simp only [Option.map_some, Option.getD_some] at hd
    obtain ⟨d, hd⟩ := Option.isSome_iff_exists.1 hd
    rw [pick_cons h0] at h
    have hy : ∃ v, YieldsIf P ops C o v a ∧ wpYield P ops C (fun a' => ∀ w', C w' → K a' w') (pick ops ks) (a.put o.dst v) := by
      simp only [wpYield] at h
      by_cases hw : Region.wanted o (yielded ops a.tmps) = true
      · simp only [hw, if_true] at h
        obtain ⟨v, h1, h2⟩ := h
        exact ⟨v, .inl ⟨hw, h1⟩, h2⟩
      · simp only [hw] at h
        exact ⟨undef, .inr ⟨by simpa using hw, rfl⟩, h⟩
    obtain ⟨v, hy, hK⟩ := hy
    have e : (k :: ks).length + m = (ks.length + m) + 1 := by simp; omega
    rw [e]
    refine wpAnyC_first (F := ops.size) h0 (Region.noSelect_spec hsel) (fun c a' w' hq => by rw [hd] at hq; exact hQ c a' d _ w' hq) (fun j oj hj hT => hn j hT k (hsub k (by simp))) _ listed a w hcl (Region.free_spec h0 hf) hr' hy hC
      (ord_looksF hsel hn hQ hfin ks _ _ w (fun j hj => hsub j (by simp [hj])) (hcl.set hr') hC hB' hK)

def allB (ops : Array Oper) (ls qs ms ts : List Nat) : Bool :=
  Region.noSelect ops && decide (ls.length + (qs.length + (ms.length + ts.length)) = ops.size) && (ts.all fun t => ls.all fun h => waitsOn ops ops.size t h) && looksF ops (allsB ops ms ts qs.length qs) ls (Array.replicate ops.size false)

/-- The class is that of the worlds G x. -/
theorem wp_region_alls {id : Nat} {a : Act} {w : World} {l : List Oper} (ls qs ms ts : List Nat) (G : World → World) (hm : P.follows .mixedOrders = true) (hB : allB l.toArray ls qs ms ts = true)
    (hQ : ∀ c (a : Act) (d : Tmp) v w, Q (.panic c) (a.put (some d) v) w → Q (.panic c) a w) (hG : ∃ x, w.drew = G x)
    (h : wpYield P l.toArray (fun w' => ∃ x, w' = G x) (fun a' => ∀ w', (∃ x, w' = G x) → wpAlls P l.toArray Q (fun w' => ∃ x, w' = G x) (pick l.toArray ts) (pick l.toArray ms) qs.length qs a' w') (pick l.toArray ls) a) :
    (Code.region id l.toArray true).wp P Q a w := by
  simp only [allB, Bool.and_eq_true, decide_eq_true_eq] at hB
  obtain ⟨⟨⟨hsel, hlen⟩, hnd⟩, hcp⟩ := hB
  refine wp_region_any hm ?_
  have hcl : ClosedL l.toArray (Array.replicate l.toArray.size false) := fun j oj _ hl => by rw [getD_replicate_false] at hl; cases hl
  have hn : ∀ t, decide (t ∈ ts) = true → ∀ h ∈ ls, waitsOn l.toArray l.toArray.size t h = true := fun t ht h hh => List.all_eq_true.1 (List.all_eq_true.1 hnd t (by simpa using ht)) h hh
  refine wpAny_of_C (C := fun w' => ∃ x, w' = G x) (late := fun j => decide (j ∈ ts)) _ _ _ _ ?_
  have := ord_looksF (P := P) (ops := l.toArray) (C := fun w' => ∃ x, w' = G x) (Q := Q) (late := fun j => decide (j ∈ ts)) (m := qs.length + (ms.length + ts.length)) (ls := ls) (K := wpAlls P l.toArray Q (fun w' => ∃ x, w' = G x) (pick l.toArray ts) (pick l.toArray ms) qs.length qs) hsel hn hQ
    (fun listed a w hf hK => ordC_alls (fun j hj => by simpa using hj) qs.length qs listed a w hf hK) ls _ a _ (fun _ h => h) hcl hG hcp h
  rw [hlen] at this
  exact this
end
end Go.Proofs.YtofgajlpdnokdaaGreatDoor

/- A drawn region's allocations of one kind, in every order: how the blocks are numbered. -/
namespace Go.Proofs.YtofgajlpdnokdaaGreatDoor
set_option linter.unusedVariables false
open Go.RowKit

/-- These slots get pointers to the blocks b, b + 1, .. -/
def putAll (d : Nat → Nat) : List Nat → Nat → Act → Act
  | [], _, a => a
  | k :: ks, b, a => putAll d ks (b + 1) (a.put (some (d k)) (.pointer (some ⟨b, 0, none⟩)))

def allocN (Z : Obj) : Nat → World → World
  | 0, w => w
  | n + 1, w => allocN Z n (w.alloc Z)

section
variable {P : Program} {ops : Array Oper} {Q : Exit → Act → World → Prop} {C : World → Prop}

theorem wpAlls_allocs {late makes : List Oper} (d : Nat → Nat) (Z : Obj) (hC : ∀ w, C w → C (w.alloc Z)) :
    ∀ (n : Nat) (is : List Nat) (a : Act) (w : World), is.length = n → C w →
    (∀ k ∈ is, ∀ o, ops[k]? = some o → ∀ (Q' : Exit → Act → World → Prop) a w, Q' .normal (a.put (some (d k)) (.pointer (some ⟨w.heap.size, 0, none⟩))) (w.alloc Z) → wpList P ops Q' [o] a w) →
    (∀ ks, ks.Perm is → wpMakes P ops Q C late makes (putAll d ks w.heap.size a) (allocN Z n w)) → wpAlls P ops Q C late makes n is a w
  | 0, is, a, w, hl, hw, hop, hf => by
    obtain rfl := List.length_eq_zero_iff.1 hl
    exact hf [] (.refl _)
  | n + 1, is, a, w, hl, hw, hop, hf => by
    intro i hi o ho
    refine hop i hi o ho _ _ _ ⟨hC _ hw, ?_⟩
    refine wpAlls_allocs d Z hC n (is.erase i) _ _ (by rw [List.length_erase_of_mem hi, hl]; rfl) (hC _ hw) (fun k hk => hop k (List.mem_of_mem_erase hk)) fun ks hks => ?_
    have := hf (i :: ks) ((hks.cons i).trans (List.perm_cons_erase hi).symm)
    rw [World.size_alloc]
    exact this
end

theorem foldl_same {A B : Type} (f f' : A → B → A) : ∀ (l : List B) (a : A), (∀ a, ∀ b ∈ l, f a b = f' a b) → l.foldl f a = l.foldl f' a
  | [], _, _ => rfl
  | x :: l, a, h => by
    rw [List.foldl_cons, List.foldl_cons, h a x (by simp)]
    exact foldl_same f f' l _ fun a b hb => h a b (by simp [hb])

theorem putAll_foldl (d : Nat → Nat) : ∀ (ks : List Nat) (b : Nat) (a : Act), ks.Nodup → putAll d ks b a = ks.foldl (fun a k => a.put (some (d k)) (.pointer (some ⟨b + ks.idxOf k, 0, none⟩))) a
  | [], _, _, _ => rfl
  | k :: ks, b, a, h => by
    have hn := List.nodup_cons.1 h
    rw [putAll, putAll_foldl d ks (b + 1) _ hn.2, List.foldl_cons]
    rw [List.idxOf_cons_self, Nat.add_zero]
    refine foldl_same _ _ _ _ fun a' j hj => ?_
    have hne : k ≠ j := fun e => hn.1 (e ▸ hj)
    have e : (k :: ks).idxOf j = ks.idxOf j + 1 := by
      rw [List.idxOf_cons, beq_eq_false_iff_ne.2 hne]
      rfl
    rw [e, show b + 1 + ks.idxOf j = b + (ks.idxOf j + 1) by omega]

theorem put_comm (a : Act) {i j : Nat} (h : i ≠ j) (u v : Value) : (a.put (some i) u).put (some j) v = (a.put (some j) v).put (some i) u := by
  simp only [Act.put]
  rw [Array.setIfInBounds_comm _ _ h]

theorem putAll_perm (d : Nat → Nat) {ks is : List Nat} (hp : ks.Perm is) (hn : is.Nodup) (hd : ∀ x ∈ is, ∀ y ∈ is, d x = d y → x = y) (b : Nat) (a : Act) :
    ∃ g : Nat → Nat, (∀ k ∈ is, g k < is.length) ∧ (∀ x ∈ is, ∀ y ∈ is, g x = g y → x = y) ∧ putAll d ks b a = is.foldl (fun a k => a.put (some (d k)) (.pointer (some ⟨b + g k, 0, none⟩))) a := by
  have hnk : ks.Nodup := hp.nodup_iff.2 hn
  refine ⟨ks.idxOf, fun k hk => ?_, fun x hx y hy he => ?_, ?_⟩
  · rw [← hp.length_eq]
    exact List.idxOf_lt_length_of_mem (hp.mem_iff.2 hk)
  · have hx' := List.idxOf_lt_length_of_mem (hp.mem_iff.2 hx)
    have e1 := List.getElem_idxOf hx'
    have e2 := List.getElem_idxOf (List.idxOf_lt_length_of_mem (hp.mem_iff.2 hy))
    rw [← e1, ← e2]
    simp only [he]
  · rw [putAll_foldl d ks b a hnk]
    refine List.Perm.foldl_eq' hp (fun x hx y hy z => ?_) _
    by_cases hxy : x = y
    · subst hxy; rfl
    · exact put_comm _ (fun e => hxy (hd x (hp.mem_iff.1 hx) y (hp.mem_iff.1 hy) e)) _ _

theorem graft_alloc {S : Nat → Prop} {w0 : World} (Z : Obj) : ∀ W, (∃ x, W = graft S w0 x) → ∃ x, W.alloc Z = graft S w0 x := by
  rintro W ⟨x, rfl⟩
  exact graft_of_chg ((chg_graft S w0 x).alloc Z)

theorem allocN_size (Z : Obj) : ∀ (n : Nat) (w : World), (allocN Z n w).heap.size = w.heap.size + n
  | 0, _ => rfl
  | n + 1, w => by rw [allocN, allocN_size Z n, World.size_alloc]; omega

theorem Chg.allocN {S : Nat → Prop} {w : World} (Z : Obj) : ∀ (n : Nat) {w1 : World}, Chg S w w1 → Chg S w (allocN Z n w1)
  | 0, _, h => h
  | n + 1, _, h => Chg.allocN Z n (h.alloc Z)

theorem Blk.allocN {b : Nat} {cs : Array Value} {t : TypeId} (Z : Obj) : ∀ (n : Nat) {w : World}, Blk w b cs t → Blk (allocN Z n w) b cs t
  | 0, _, h => h
  | n + 1, _, h => Blk.allocN Z n (h.alloc Z)

theorem Blk.ofAllocN (cs : Array Value) (t : TypeId) : ∀ (n : Nat) (w : World) (j : Nat), j < n → Blk (Go.Proofs.YtofgajlpdnokdaaGreatDoor.allocN (.cells cs t) n w) (w.heap.size + j) cs t
  | n + 1, w, 0, _ => Blk.allocN _ n (Blk.new w cs t)
  | n + 1, w, j + 1, h => by
    have := Blk.ofAllocN cs t n (w.alloc (.cells cs t)) j (by omega)
    rw [World.size_alloc] at this
    rw [show w.heap.size + (j + 1) = w.heap.size + 1 + j by omega]
    exact this

theorem Chg.setW {S : Nat → Prop} {w : World} {r : Nat} : ∀ (vs : List Value) (k : Nat) {w1 : World}, Chg S w w1 → (S r ∨ w.heap.size ≤ r) → Chg S w (setW w1 r k vs)
  | [], _, _, h, _ => h
  | v :: vs, k, _, h, hr => Chg.setW vs (k + 1) (h.setCell (a := ⟨r, k, none⟩) v hr) hr

theorem Blk.otherW {b r : Nat} {cs : Array Value} {t : TypeId} (hne : r ≠ b) : ∀ (vs : List Value) (k : Nat) {w : World}, Blk w b cs t → Blk (Go.Proofs.YtofgajlpdnokdaaGreatDoor.setW w r k vs) b cs t
  | [], _, _, h => h
  | v :: vs, k, _, h => Blk.otherW hne vs (k + 1) (h.other (a := ⟨r, k, none⟩) v hne)

section
variable {P : Program} {ops : Array Oper} {Q : Exit → Act → World → Prop} {C : World → Prop}
theorem wpMakes_cons {late makes : List Oper} {o : Oper} {a : Act} {w : World} (h : wpList P ops (Exit.then (fun a' w' => C w' ∧ wpMakes P ops Q C late makes a' w') Q) [o] a w) : wpMakes P ops Q C late (o :: makes) a w := h

/-- The world behind a step is told by R alone. -/
theorem makes_step {S : Nat → Prop} {w0 : World} {late makes : List Oper} {a : Act} {w : World} (R : World → Prop) (hR : R w) (hC : ∀ W, R W → Chg S w0 W) (hK : ∀ W, R W → wpMakes P ops Q (fun w' => ∃ x, w' = graft S w0 x) late makes a W) :
    (∃ x, w = graft S w0 x) ∧ wpMakes P ops Q (fun w' => ∃ x, w' = graft S w0 x) late makes a w := ⟨graft_of_chg (hC w hR), hK w hR⟩
end
end Go.Proofs.YtofgajlpdnokdaaGreatDoor

/- A region that draws its order, walked once along a plan: operations that only look (in every world of a class), taken as soon as they may be, and between them calls that come in a forced order (each leaves a world of the class). For every order that the tape may pick. -/
namespace Go.Proofs.YtofgajlpdnokdaaGreatDoor
set_option linter.unusedVariables false
open Go.RowKit

section
variable {P : Program} {ops : Array Oper} {Q : Exit → Act → World → Prop} {C : World → Prop}

/-- The plan: (true, o): o looks; (false, o): it is walked, behind it the class holds. -/
def wpMix (P : Program) (ops : Array Oper) (Q : Exit → Act → World → Prop) (C : World → Prop) : List (Bool × Oper) → Act → Prop
  | [], a => ∀ w, C w → Q .normal a w
  | (true, o) :: r, a => if Region.wanted o (yielded ops a.tmps) then yieldC P o a C (wpMix P ops Q C r) else wpMix P ops Q C r (a.put o.dst undef)
  | (false, o) :: r, a => ∀ w, C w → wpList P ops (Exit.then (fun a' w' => C w' ∧ wpMix P ops Q C r a') Q) [o] a w

/-- The operations of these numbers. -/
def mixOps (ops : Array Oper) : List (Bool × Nat) → List (Bool × Oper)
  | [] => []
  | (b, k) :: r => match ops[k]? with
    | some o => (b, o) :: mixOps ops r
    | none => mixOps ops r

theorem mixOps_cons {b : Bool} {k : Nat} {r : List (Bool × Nat)} {o : Oper} (h : ops[k]? = some o) : mixOps ops ((b, k) :: r) = (b, o) :: mixOps ops r := by simp [mixOps, h]

def mixB (ops : Array Oper) : List (Bool × Nat) → Array Bool → Bool
  | [], listed => (Region.ready .any ops listed).isEmpty
  | (true, k) :: r, listed => (Region.ready .any ops listed).contains k && Region.free .any ops listed k && ((ops[k]?).map (·.dst.isSome)).getD false && mixB ops r (listed.setIfInBounds k true)
  | (false, k) :: r, listed => decide (Region.ready .any ops listed = [k]) && mixB ops r (listed.setIfInBounds k true)

theorem mix_any (hsel : Region.noSelect ops = true) (hQ : ∀ c (a : Act) (d : Tmp) v w, Q (.panic c) (a.put (some d) v) w → Q (.panic c) a w) :
    ∀ (r : List (Bool × Nat)) (listed : Array Bool) (a : Act) (w : World), ClosedL ops listed → C w → mixB ops r listed = true → wpMix P ops Q C (mixOps ops r) a → wpAnyC P ops Q C (fun _ => false) r.length listed a w
  | [], listed, a, w, hcl, hC, hB, h => ⟨by simpa [mixB] using hB, h w hC⟩
  | (true, k) :: r, listed, a, w, hcl, hC, hB, h => by
    simp only [mixB, Bool.and_eq_true] at hB
    obtain ⟨⟨⟨hr, hf⟩, hd⟩, hB'⟩ := hB
    have hr' : k ∈ Region.ready .any ops listed := by simpa using hr
    obtain ⟨_, o, h0, _⟩ := mem_ready.1 hr'
    rw [h0] at hd
    simp only [Option.map_some, Option.getD_some] at hd
    obtain ⟨d, hd⟩ := Option.isSome_iff_exists.1 hd
    rw [mixOps_cons h0] at h
    simp only [wpMix] at h
    have hy : ∃ v, YieldsIf P ops C o v a ∧ wpMix P ops Q C (mixOps ops r) (a.put o.dst v) := by
      by_cases hw : Region.wanted o (yielded ops a.tmps) = true
      · simp only [hw, if_true] at h
        obtain ⟨v, h1, h2⟩ := h
        exact ⟨v, .inl ⟨hw, h1⟩, h2⟩
      · simp only [hw] at h
        exact ⟨undef, .inr ⟨by simpa using hw, rfl⟩, h⟩
    obtain ⟨v, hy, hK⟩ := hy
    exact wpAnyC_first (F := ops.size) h0 (Region.noSelect_spec hsel) (fun c a' w' hq => by rw [hd] at hq; exact hQ c a' d _ w' hq) (fun j oj hj hT => by cases hT) _ listed a w hcl (Region.free_spec h0 hf) hr' hy hC
      (mix_any hsel hQ r _ _ w (hcl.set hr') hC hB' hK)
  | (false, k) :: r, listed, a, w, hcl, hC, hB, h => by
    simp only [mixB, Bool.and_eq_true, decide_eq_true_eq] at hB
    obtain ⟨h1, hB'⟩ := hB
    have hr' : k ∈ Region.ready .any ops listed := by rw [h1]; simp
    obtain ⟨_, o, h0, _⟩ := mem_ready.1 hr'
    rw [mixOps_cons h0] at h
    simp only [wpMix] at h
    refine ⟨fun h2 => (by rw [h1] at h2; cases h2), fun i hi => ?_⟩
    rw [h1] at hi
    have hik : i = k := by simpa using hi
    subst hik
    refine wpOp_mono (fun a' w' h' => ⟨fun _ => h'.1, ?_⟩) (wpOp_of_then h0 (h w hC))
    exact mix_any hsel hQ r _ a' w' (hcl.set hr') h'.1 hB' h'.2

theorem wp_region_mix {id : Nat} {a : Act} {w : World} {l : List Oper} (plan : List (Bool × Nat)) (C : World → Prop) (hm : P.follows .mixedOrders = true)
    (hB : (Region.noSelect l.toArray && (decide (plan.length = l.toArray.size) && mixB l.toArray plan (Array.replicate l.toArray.size false))) = true)
    (hQ : ∀ c (a : Act) (d : Tmp) v w, Q (.panic c) (a.put (some d) v) w → Q (.panic c) a w) (hC : C w.drew) (h : wpMix P l.toArray Q C (mixOps l.toArray plan) a) :
    (Code.region id l.toArray true).wp P Q a w := by
  simp only [Bool.and_eq_true, decide_eq_true_eq] at hB
  obtain ⟨hsel, hlen, hB⟩ := hB
  refine wp_region_any hm ?_
  have hcl : ClosedL l.toArray (Array.replicate l.toArray.size false) := fun j oj _ hl => by rw [getD_replicate_false] at hl; cases hl
  have := mix_any (P := P) hsel hQ plan _ a _ hcl hC hB h
  rw [hlen] at this
  exact wpAny_of_C _ _ _ _ this

variable {r : List (Bool × Oper)} {a : Act} {o : Oper}
theorem mix_end (h : ∀ w, C w → Q .normal a w) : wpMix P ops Q C [] a := h
/-- An operation that isn't wanted. -/
theorem mix_off (hw : Region.wanted o (yielded ops a.tmps) = false) (h : wpMix P ops Q C r (a.put o.dst undef)) : wpMix P ops Q C ((true, o) :: r) a := by
  simp only [wpMix, hw, Bool.false_eq_true, if_false]
  exact h
/-- One that looks. -/
theorem mix_on {v : Value} (hw : Region.wanted o (yielded ops a.tmps) = true) (hv : ∀ w, C w → (execOp a.eval o).run P w = .ok (.value v) w) (h : wpMix P ops Q C r (a.put o.dst v)) : wpMix P ops Q C ((true, o) :: r) a := by
  simp only [wpMix, hw, if_true]
  exact ⟨v, hv, h⟩
/-- One that is walked. -/
theorem mix_do (h : ∀ w, C w → wpList P ops (Exit.then (fun a' w' => C w' ∧ wpMix P ops Q C r a') Q) [o] a w) : wpMix P ops Q C ((false, o) :: r) a := h
/-- One that would be walked, and isn't wanted. -/
theorem mix_not (hw : Region.wanted o (yielded ops a.tmps) = false) (h : wpMix P ops Q C r (a.put o.dst undef)) : wpMix P ops Q C ((false, o) :: r) a := by
  intro w hC
  simp only [wpList, hw, Bool.false_eq_true, if_false]
  exact ⟨hC, h⟩
end
end Go.Proofs.YtofgajlpdnokdaaGreatDoor

