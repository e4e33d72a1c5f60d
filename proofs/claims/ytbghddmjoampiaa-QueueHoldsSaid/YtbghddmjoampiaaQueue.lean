/- The queue of packets (a ring that doubles): what each of its functions does, over memory. Conditions: the queue's block and its ring's block are whole and unfrozen. -/
import Derived.Test.YtbghddmjoampiaaRec
import Derived.WalkSpells
import Derived.WalkLawsBesides
import Derived.Outline
import Derived.Laws.StructEq
namespace Go.Proofs.Ytbghddmjoampiaa
set_option linter.unusedVariables false
open Go.RowKit

structure Pkt where
  id : Int
  cls : Int
  len : Int
  at_ : Int
def Pkt.cells (p : Pkt) : List Value := [.int .u64 p.id, .int .i64 p.cls, .int .i64 p.len, .int .u64 p.at_]
theorem Pkt.cells_length (p : Pkt) : p.cells.length = 4 := rfl

def Pkt.zero : Pkt := ⟨0, 0, 0, 0⟩

theorem pktT : RecT Try.prog Pkt.cells 4 28 32 32 Pkt.zero where
  ht := Try.underlying28
  hi := info_rec (by kernel_rfl)
  pos := by decide
  hc := Pkt.cells_length
  one := by
    intro x u hu
    simp only [Pkt.cells, List.mem_cons, List.not_mem_nil, or_false] at hu
    rcases hu with rfl | rfl | rfl | rfl <;> rfl

/-- The bytes of packets, together. -/
def sumLen : List Pkt → Int
  | [] => 0
  | p :: l => p.len + sumLen l
theorem sumLen_append (a b : List Pkt) : sumLen (a ++ b) = sumLen a + sumLen b := by
  induction a with
  | nil => simp [sumLen]
  | cons p a ih => simp only [List.cons_append, sumLen, ih]; omega

def goodLen (p : Pkt) : Prop := 1 ≤ p.len ∧ p.len ≤ 65535
theorem sumLen_nonneg : ∀ (l : List Pkt), (∀ p ∈ l, goodLen p) → 0 ≤ sumLen l
  | [], _ => by simp [sumLen]
  | p :: l, h => by
    have := sumLen_nonneg l (fun q hq => h q (by simp [hq]))
    have := (h p (by simp)).1
    simp only [sumLen]
    omega

/-- The ring L, read from 'f' on, holds l. -/
def ringHas (L : List Pkt) (f : Nat) (l : List Pkt) : Prop := ∀ i, i < l.length → L[(f + i) % L.length]? = l[i]?

/-- At block b lies a queue with room for pk packets, bt bytes; its ring is block r; it holds l. -/
structure QueueIs (w : World) (b r : Nat) (pk bt : Nat) (l : List Pkt) : Prop where
  ne : b ≠ r
  pk1 : 1 ≤ pk
  pk2 : pk ≤ 4096
  bt1 : 1 ≤ bt
  bt2 : bt ≤ 16777216
  many : l.length ≤ pk
  held : sumLen l ≤ bt
  good : ∀ p ∈ l, goodLen p
  ring : ∃ (L : List Pkt) (f : Nat), Blk w b #[.int .i64 (pk : Int), .int .i64 (bt : Int), .slice (some ⟨r, 0, none⟩) L.length L.length, .int .i64 (f : Int), .int .i64 (l.length : Int), .int .i64 (sumLen l)] 46 ∧
    RowBlk Pkt.cells w r L 32 ∧ f < L.length ∧ l.length ≤ L.length ∧ L.length ≤ 8192 ∧ ringHas L f l

theorem QueueIs.keep {w w1 : World} {b r pk bt : Nat} {l : List Pkt} {S : Nat → Prop} (h : QueueIs w b r pk bt l) (hc : Chg S w w1) (hb : ¬ S b) (hr : ¬ S r) : QueueIs w1 b r pk bt l := by
  obtain ⟨h0, h1, h2, h3, h4, h5, h6, h7, L, f, q1, q2, q3⟩ := h
  exact ⟨h0, h1, h2, h3, h4, h5, h6, h7, L, f, hc.blk q1 hb, hc.blk q2 hr, q3⟩

theorem QueueIs.lt {w : World} {b r pk bt : Nat} {l : List Pkt} (h : QueueIs w b r pk bt l) : b < w.heap.size ∧ r < w.heap.size := by
  obtain ⟨_, _, _, _, _, _, _, _, L, f, q1, q2, _⟩ := h
  exact ⟨q1.lt, q2.lt⟩

/-! ### none, place -/

theorem qNone_any (b : Nat) (n : Int) (w : World) (h0 : w.cell? ⟨b, 0, none⟩ = some (.int .i64 n)) :
    Calls Try.prog 29 #[.pointer (some ⟨b, 0, none⟩)] w fun e w' => e = .returned (.bool (n == 0)) ∧ w = w' := by
  go_enter Try.func29, Try.ntmps29
  go_wp2
  go_ret
  exact ⟨rfl, rfl⟩

theorem qNone_made (b : Nat) (n : Int) (w : World) (h0 : w.cell? ⟨b, 0, none⟩ = some (.int .i64 n)) (hn : 1 ≤ n) :
    Calls Try.prog 29 #[.pointer (some ⟨b, 0, none⟩)] w fun e w' => e = .returned (.bool false) ∧ w = w' :=
  (qNone_any b n w h0).mono fun e w' ⟨he, hw⟩ => ⟨by rw [he]; congr 2; simp; omega, hw⟩

theorem qNone_nil (w : World) : Calls Try.prog 29 #[.pointer none] w fun e w' => e = .returned (.bool true) ∧ w = w' := by
  go_enter Try.func29, Try.ntmps29
  go_wp2
  go_ret
  exact ⟨rfl, rfl⟩

theorem qPlace_any (b : Nat) (f n : Int) (a : Option Addr) (len cap : Nat) (w : World) (h2 : w.cell? ⟨b, 2, none⟩ = some (.slice a len cap)) (h3 : w.cell? ⟨b, 3, none⟩ = some (.int .i64 f))
    (hf : 0 ≤ f) (hf' : f ≤ 10000) (hn : 0 ≤ n) (hn' : n ≤ 10000) (hl : 0 < len) (hl' : len ≤ 10000) :
    Calls Try.prog 28 #[.pointer (some ⟨b, 0, none⟩), .int .i64 n] w fun e w' => e = .returned (.int .i64 ((f + n) % len)) ∧ ∃ k, w' = w.drewN k := by
  go_enter Try.func28, Try.ntmps28
  go_wp2
  go_quiet (fail)
  go_wp2
  go_ret
  exact ⟨rfl, _, rfl⟩

/-! ### Len, Bytes, Room -/

theorem qLen_any {w : World} {b r pk bt : Nat} {l : List Pkt} (h : QueueIs w b r pk bt l) :
    Calls Try.prog 18 #[.pointer (some ⟨b, 0, none⟩)] w fun e w' => e = .returned (.int .i64 (l.length : Int)) ∧ w = w' := by
  obtain ⟨_, p1, p2, _, _, _, _, _, L, f, q1, _⟩ := h
  have c0 := q1.cell 0
  have c4 := q1.cell 4
  simp at c0 c4
  have N := hide (qNone_made b pk w c0 (by omega))
  clear q1
  go_enter Try.func18, Try.ntmps18
  go_wp2_with fail
  refine N.out.mono ?_
  rintro e w1 ⟨rfl, rfl⟩
  go_wp2
  go_ret
  exact ⟨rfl, rfl⟩

theorem qBytes_any {w : World} {b r pk bt : Nat} {l : List Pkt} (h : QueueIs w b r pk bt l) :
    Calls Try.prog 19 #[.pointer (some ⟨b, 0, none⟩)] w fun e w' => e = .returned (.int .i64 (sumLen l)) ∧ w = w' := by
  obtain ⟨_, p1, p2, _, _, _, _, _, L, f, q1, _⟩ := h
  have c0 := q1.cell 0
  have c4 := q1.cell 5
  simp at c0 c4
  have N := hide (qNone_made b pk w c0 (by omega))
  clear q1
  go_enter Try.func19, Try.ntmps19
  go_wp2_with fail
  refine N.out.mono ?_
  rintro e w1 ⟨rfl, rfl⟩
  go_wp2
  go_ret
  exact ⟨rfl, rfl⟩

theorem qRoom_any {w : World} {b r pk bt : Nat} {l : List Pkt} (h : QueueIs w b r pk bt l) :
    Calls Try.prog 21 #[.pointer (some ⟨b, 0, none⟩)] w fun e w' => e = .returned (.tuple #[.int .i64 ((pk : Int) - (l.length : Int)), .int .i64 ((bt : Int) - sumLen l)]) ∧ ∃ k, w' = w.drewN k := by
  obtain ⟨_, p1, p2, b1, b2, m1, s1, g1, L, f, q1, _⟩ := h
  have c0 := q1.cell 0
  have c1 := q1.cell 1
  have c4 := q1.cell 4
  have c5 := q1.cell 5
  simp at c0 c1 c4 c5
  have hs := sumLen_nonneg l g1
  have N := hide (qNone_made b pk w c0 (by omega))
  clear q1 g1
  go_enter Try.func21, Try.ntmps21
  go_wp2_with fail
  refine N.out.mono ?_
  rintro e w1 ⟨rfl, rfl⟩
  go_wp2
  go_quiet (fail)
  go_wp2
  go_ret2
  exact ⟨rfl, _, rfl⟩
end Go.Proofs.Ytbghddmjoampiaa
