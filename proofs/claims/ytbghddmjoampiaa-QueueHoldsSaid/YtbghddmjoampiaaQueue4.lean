/- The queue of packets, more: Push. -/
import Derived.Test.YtbghddmjoampiaaQueue3
namespace Go.Proofs.Ytbghddmjoampiaa
set_option linter.unusedVariables false
open Go.RowKit

/-- What Push answers. -/
def pushN (pk bt : Nat) (l : List Pkt) (p : Pkt) : Int :=
  if p.len < 1 ∨ 65535 < p.len then 100 else if l.length = pk ∨ (bt : Int) - sumLen l < p.len then 110 else 0

theorem qPush_long {w : World} {b r pk bt : Nat} {l : List Pkt} (h : QueueIs w b r pk bt l) (p : Pkt) (hp : p.len < 1 ∨ 65535 < p.len) :
    Calls Try.prog 16 #[.pointer (some ⟨b, 0, none⟩), .agg #[.int .u64 p.id, .int .i64 p.cls, .int .i64 p.len, .int .u64 p.at_]] w fun e w' => e = .returned (.int .i64 100) ∧ Chg NoChg w w' := by
  have hm : mayN p 65535 = 100 := by
    unfold mayN
    rw [if_neg (by omega), if_pos (by omega)]
  have hlt := h.lt
  obtain ⟨_, p1, p2, _, _, _, _, _, L, f, q1, _⟩ := h
  have c0 := q1.cell 0
  simp at c0
  have N := hide (fun o => qNone_made b pk (w.alloc o) (by rw [World.cell?_alloc_past _ _ _ hlt.1]; exact c0) (by omega))
  have M := hide (fun w => pMay_any p 65535 w)
  rw [hm] at M
  clear q1 hm
  go_enter Try.func16, Try.ntmps16
  go_wp2_with fail
  refine (N.out _).mono ?_
  rintro e w1 ⟨rfl, rfl⟩
  go_wp2_with fail
  refine (M.out _).mono ?_
  rintro e w2 ⟨rfl, hc⟩
  have HC := hide hc
  clear hc
  go_wp2
  go_ret
  exact ⟨rfl, ((Chg.refl _ _).alloc _).trans' HC.out⟩

set_option maxHeartbeats 1000000 in
theorem qPush_full {w : World} {b r pk bt : Nat} {l : List Pkt} (h : QueueIs w b r pk bt l) (p : Pkt) (hp : 1 ≤ p.len) (hp' : p.len ≤ 65535) (hfull : l.length = pk ∨ (bt : Int) - sumLen l < p.len) :
    Calls Try.prog 16 #[.pointer (some ⟨b, 0, none⟩), .agg #[.int .u64 p.id, .int .i64 p.cls, .int .i64 p.len, .int .u64 p.at_]] w fun e w' => e = .returned (.int .i64 110) ∧ Chg NoChg w w' := by
  have hm : mayN p 65535 = 0 := by
    unfold mayN
    rw [if_neg (by omega), if_neg (by omega)]
  have hlt := h.lt
  obtain ⟨_, p1, p2, b1, b2, _, s1, g1, L, f, q1, _⟩ := h
  have s0 := sumLen_nonneg l g1
  have c0 := q1.cell 0
  simp at c0
  have N := hide (fun o => qNone_made b pk (w.alloc o) (by rw [World.cell?_alloc_past _ _ _ hlt.1]; exact c0) (by omega))
  have M := hide (fun w => pMay_any p 65535 w)
  rw [hm] at M
  have Z := Blk.new w #[.int .u64 p.id, .int .i64 p.cls, .int .i64 p.len, .int .u64 p.at_] 32
  have Q := q1.alloc (.cells #[.int .u64 p.id, .int .i64 p.cls, .int .i64 p.len, .int .u64 p.at_] 32)
  have HH := hide (And.intro Z Q)
  have hlt1 := hlt.1
  clear q1 hm Z Q g1 hlt
  go_enter Try.func16, Try.ntmps16
  go_wp2_with fail
  refine (N.out _).mono ?_
  rintro e w1 ⟨rfl, rfl⟩
  go_wp2_with fail
  refine (M.out _).mono ?_
  rintro e w2 ⟨rfl, hc⟩
  have Z2 := hc.blk HH.out.1 (fun h => h)
  have Q2 := hc.blk HH.out.2 (fun h => h)
  have z2 := Z2.cell 2
  have k0 := Q2.cell 0
  have k1 := Q2.cell 1
  have k4 := Q2.cell 4
  have k5 := Q2.cell 5
  simp at z2 k0 k1 k4 k5
  have HC := hide hc
  clear hc Z2 Q2
  by_cases hl : l.length = pk
  · have g : ((l.length : Int) == (pk : Int)) = true := by simp [hl]
    have HL := hide hl
    have HF := hide hfull
    clear hl hfull
    go_wp2
    go_quiet (fail)
    go_wp2
    go_ret
    exact ⟨rfl, (((Chg.refl _ _).alloc _).trans' HC.out).drewN _⟩
  · have g : ((l.length : Int) == (pk : Int)) = false := by simp; omega
    have g2 : decide ((bt : Int) - sumLen l < p.len) = true := by
      rcases hfull with h | h
      · exact absurd h hl
      · simpa using h
    have HL := hide hl
    have HF := hide hfull
    clear hl hfull
    go_wp2
    go_quiet (fail)
    go_wp2
    go_ret
    exact ⟨rfl, (((Chg.refl _ _).alloc _).trans' HC.out).drewN _⟩
end Go.Proofs.Ytbghddmjoampiaa
