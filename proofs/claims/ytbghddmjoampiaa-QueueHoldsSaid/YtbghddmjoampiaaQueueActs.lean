/- Acts on a queue as arguments; how a queue and two slices of the call's own stand apart. -/
import Derived.Test.YtbghddmjoampiaaQueueSame
namespace Go.Proofs.Ytbghddmjoampiaa
set_option linter.unusedVariables false
open Go.ChangeShapes Go.WideShapes Go.ChangeAt Go.RowKit

structure Act where
  p : Pkt
  pop : Bool
def Act.cells (a : Act) : List Value := [.int .u64 a.p.id, .int .i64 a.p.cls, .int .i64 a.p.len, .int .u64 a.p.at_, .bool a.pop]
theorem Act.cells_length (a : Act) : a.cells.length = 5 := rfl

theorem Act.of_fits {x : List Value} (h : Fits [some .u64, some .i64, some .i64, some .u64, none] x) : ∃ a : Act, x = a.cells ∧ True := by
  obtain ⟨i, y, rfl, _, h⟩ := h.int1
  obtain ⟨c, y, rfl, _, h⟩ := h.int1
  obtain ⟨n, y, rfl, _, h⟩ := h.int1
  obtain ⟨t, y, rfl, _, h⟩ := h.int1
  obtain ⟨b, y, rfl, h⟩ := h.bool1
  have := h.nil0
  subst this
  exact ⟨⟨⟨i, c, n, t⟩, b⟩, rfl, trivial⟩

theorem Pkt.of_fits {x : List Value} (h : Fits [some .u64, some .i64, some .i64, some .u64] x) : ∃ p : Pkt, x = p.cells := by
  obtain ⟨i, y, rfl, _, h⟩ := h.int1
  obtain ⟨c, y, rfl, _, h⟩ := h.int1
  obtain ⟨n, y, rfl, _, h⟩ := h.int1
  obtain ⟨t, y, rfl, _, h⟩ := h.int1
  have := h.nil0
  subst this
  exact ⟨⟨i, c, n, t⟩, rfl⟩

theorem actKinds : flatKinds Try.prog 5 34 = some [some .u64, some .i64, some .i64, some .u64, none] := by kernel_rfl
theorem pktKinds : flatKinds Try.prog 5 32 = some [some .u64, some .i64, some .i64, some .u64] := by kernel_rfl

/-- A value's own block, if it has one, is of the call's own and none of these. -/
def Off (B : Nat) (v : Value) (b r : Nat) : Prop := ∀ j, v.ownBlock = some j → B ≤ j ∧ j ≠ b ∧ j ≠ r

/-- The queue, and two slices, apart from each other, all in memory of the call's own. -/
structure QTwo (W wr : World) (b r pk bt : Nat) (vt vg : Value) (lq tk gn : List Pkt) : Prop where
  q : QueueIs wr b r pk bt lq
  t : Own Pkt.cells 4 32 wr vt tk
  g : Own Pkt.cells 4 32 wr vg gn
  c : Chg NoChg W wr
  hb : W.heap.size ≤ b
  hr : W.heap.size ≤ r
  ot : Off W.heap.size vt b r
  og : Off W.heap.size vg b r
  tg : ∀ j, vt.ownBlock = some j → vg.ownBlock ≠ some j

theorem Chg.same {w w' : World} (hc : Chg NoChg w w') {ad : Addr} {u : Value} (h : w.cell? ad = some u) : w'.cell? ad = some u := (hc.cell (cell_lt h) (fun h => h)).trans h

theorem own_new {v v' : Value} {n m : Nat} (h : v'.ownBlock = v.ownBlock ∨ v'.ownBlock = some n) (hm : m ≤ n) : v'.ownBlock = v.ownBlock ∨ ∃ g, v'.ownBlock = some g ∧ m ≤ g :=
  h.imp id fun h => ⟨n, h, hm⟩

theorem off_nil (B b r : Nat) : Off B (.slice none 0 0) b r := fun j hj => by simp [Value.ownBlock] at hj

theorem QTwo.start {W wr : World} {b r pk bt : Nat} (hq : QueueIs wr b r pk bt []) (hc : Chg NoChg W wr) (hb : W.heap.size ≤ b) (hr : W.heap.size ≤ r) : QTwo W wr b r pk bt (.slice none 0 0) (.slice none 0 0) [] [] [] :=
  ⟨hq, Own.nil _ _ _ _, Own.nil _ _ _ _, hc, hb, hr, off_nil _ _ _, off_nil _ _ _, fun j hj => by simp [Value.ownBlock] at hj⟩

theorem QTwo.no {W wr wr' : World} {b r pk bt : Nat} {vt vg : Value} {lq tk gn : List Pkt} (h : QTwo W wr b r pk bt vt vg lq tk gn) (hc : Chg NoChg wr wr') : QTwo W wr' b r pk bt vt vg lq tk gn :=
  ⟨h.q.keep hc (fun h => h) (fun h => h), h.t.keep hc (fun _ _ h => h), h.g.keep hc (fun _ _ h => h), h.c.trans' hc, h.hb, h.hr, h.ot, h.og, h.tg⟩

theorem QTwo.step {W wr wr' : World} {b r r' pk bt : Nat} {vt vg : Value} {lq lq' tk gn : List Pkt} (h : QTwo W wr b r pk bt vt vg lq tk gn) (hq : QueueIs wr' b r' pk bt lq') (hr : r' = r ∨ wr.heap.size ≤ r')
    (hc : Chg (fun k => k = b ∨ k = r) wr wr') : QTwo W wr' b r' pk bt vt vg lq' tk gn := by
  have hs := h.c.size
  have off : ∀ v l, Own Pkt.cells 4 32 wr v l → Off W.heap.size v b r → Off W.heap.size v b r' := by
    intro v l ho h1 j hj
    have h2 := h1 j hj
    have h3 := ho.lt j hj
    refine ⟨h2.1, h2.2.1, ?_⟩
    rcases hr with rfl | hr
    · exact h2.2.2
    · omega
  refine ⟨hq, h.t.keep hc (fun k hk hh => ?_), h.g.keep hc (fun k hk hh => ?_), h.c.trans hc (fun k hk => .inr ?_), h.hb, ?_, off _ _ h.t h.ot, off _ _ h.g h.og, h.tg⟩
  · have := h.ot k hk
    rcases hh with hh | hh <;> omega
  · have := h.og k hk
    rcases hh with hh | hh <;> omega
  · have := h.hb
    have := h.hr
    rcases hk with hk | hk <;> omega
  · have := h.hr
    rcases hr with rfl | hr <;> omega

theorem QTwo.vg {W wr wr' : World} {b r pk bt : Nat} {vt vg vg' : Value} {lq tk gn gn' : List Pkt} (h : QTwo W wr b r pk bt vt vg lq tk gn) (hg : Own Pkt.cells 4 32 wr' vg' gn')
    (hc : Chg (fun k => vg.ownBlock = some k) wr wr') (hv : vg'.ownBlock = vg.ownBlock ∨ ∃ g, vg'.ownBlock = some g ∧ wr.heap.size ≤ g) : QTwo W wr' b r pk bt vt vg' lq tk gn' := by
  have hs := h.c.size
  refine ⟨h.q.keep hc (fun hh => (h.og _ hh).2.1 rfl) (fun hh => (h.og _ hh).2.2 rfl), h.t.keep hc (fun k hk hh => h.tg k hk hh), hg, h.c.trans hc (fun k hk => .inr (h.og k hk).1), h.hb, h.hr, h.ot, ?_, ?_⟩
  · intro j hj
    rcases hv with hv | ⟨g, hv, hgs⟩
    · exact h.og j (hv ▸ hj)
    · rw [hv] at hj
      have := Option.some.inj hj
      have h1 := h.q.lt
      exact ⟨by omega, by omega, by omega⟩
  · intro j hj hj'
    rcases hv with hv | ⟨g, hv, hgs⟩
    · exact h.tg j hj (hv ▸ hj')
    · rw [hv] at hj'
      have := Option.some.inj hj'
      have h1 := h.t.lt j hj
      omega

theorem QTwo.vt {W wr wr' : World} {b r pk bt : Nat} {vt vg vt' : Value} {lq tk gn tk' : List Pkt} (h : QTwo W wr b r pk bt vt vg lq tk gn) (hg : Own Pkt.cells 4 32 wr' vt' tk')
    (hc : Chg (fun k => vt.ownBlock = some k) wr wr') (hv : vt'.ownBlock = vt.ownBlock ∨ ∃ g, vt'.ownBlock = some g ∧ wr.heap.size ≤ g) : QTwo W wr' b r pk bt vt' vg lq tk' gn := by
  have hs := h.c.size
  refine ⟨h.q.keep hc (fun hh => (h.ot _ hh).2.1 rfl) (fun hh => (h.ot _ hh).2.2 rfl), hg, h.g.keep hc (fun k hk hh => h.tg k hh hk), h.c.trans hc (fun k hk => .inr (h.ot k hk).1), h.hb, h.hr, ?_, h.og, ?_⟩
  · intro j hj
    rcases hv with hv | ⟨g, hv, hgs⟩
    · exact h.ot j (hv ▸ hj)
    · rw [hv] at hj
      have := Option.some.inj hj
      have h1 := h.q.lt
      exact ⟨by omega, by omega, by omega⟩
  · intro j hj hj'
    rcases hv with hv | ⟨g, hv, hgs⟩
    · exact h.tg j (hv ▸ hj) hj'
    · rw [hv] at hj
      have := Option.some.inj hj
      have h1 := h.g.lt j hj'
      omega
end Go.Proofs.Ytbghddmjoampiaa
