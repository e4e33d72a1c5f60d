/- An act done to a queue, its answer let go. -/
import Derived.Test.YtbghddmjoampiaaQueueActs
namespace Go.Proofs.Ytbghddmjoampiaa
set_option linter.unusedVariables false
open Go.RowKit

def pushL (pk bt : Nat) (l : List Pkt) (p : Pkt) : List Pkt := if pushN pk bt l p = 0 then l ++ [p] else l
def actL (pk bt : Nat) (l : List Pkt) (a : Act) : List Pkt := if a.pop = true then l.tail else pushL pk bt l a.p

theorem qPop_do {w : World} {b r pk bt : Nat} {l : List Pkt} (h : QueueIs w b r pk bt l) :
    Calls Try.prog 15 #[.pointer (some ⟨b, 0, none⟩)] w fun e w' => ∃ v, e = .returned v ∧ QueueIs w' b r pk bt l.tail ∧ Chg (fun k => k = b ∨ k = r) w w' := by
  cases l with
  | nil => exact (qPop_none h).mono fun e w' ⟨he, hc⟩ => ⟨_, he, h.keep hc (fun h => h) (fun h => h), hc.mono fun _ h => h.elim⟩
  | cons p l => exact (qPop_some h).mono fun e w' ⟨he, hq, hc⟩ => ⟨_, he, hq, hc.mono fun _ h => .inl (.inl h)⟩

theorem qPush_do {w : World} {b r pk bt : Nat} {l : List Pkt} (h : QueueIs w b r pk bt l) (p : Pkt) :
    Calls Try.prog 16 #[.pointer (some ⟨b, 0, none⟩), .agg #[.int .u64 p.id, .int .i64 p.cls, .int .i64 p.len, .int .u64 p.at_]] w fun e w' => ∃ r', e = .returned (.int .i64 (pushN pk bt l p)) ∧ (r' = r ∨ w.heap.size ≤ r') ∧ QueueIs w' b r' pk bt (pushL pk bt l p) ∧ Chg (fun k => k = b ∨ k = r) w w' := by
  by_cases hp : pushN pk bt l p = 0
  · refine (qPush_ok h p hp).mono fun e w' ⟨he, r', hr, hq, hc⟩ => ⟨r', by rw [he, hp], hr, ?_, hc⟩
    unfold pushL
    rw [if_pos hp]
    exact hq
  · refine (qPush_no h p hp).mono fun e w' ⟨he, hc⟩ => ⟨r, he, .inl rfl, ?_, hc.mono fun _ h => h.elim⟩
    unfold pushL
    rw [if_neg hp]
    exact h.keep hc (fun h => h) (fun h => h)

theorem qRoom_do {w : World} {b r pk bt : Nat} {l : List Pkt} (h : QueueIs w b r pk bt l) :
    Calls Try.prog 21 #[.pointer (some ⟨b, 0, none⟩)] w fun e w' => e = .returned (.tuple #[.int .i64 ((pk : Int) - (l.length : Int)), .int .i64 ((bt : Int) - sumLen l)]) ∧ Chg NoChg w w' :=
  (qRoom_any h).mono fun e w' ⟨he, k, hw⟩ => ⟨he, hw ▸ (Chg.refl _ _).drewN _⟩

theorem sumLen_bounds : ∀ (l : List Pkt), (∀ p ∈ l, goodLen p) → ∀ k, 0 ≤ sumLen (l.take k) ∧ sumLen (l.take k) ≤ sumLen l
  | [], _, k => by simp [sumLen]
  | p :: l, h, 0 => by
    have := sumLen_nonneg (p :: l) h
    simp [sumLen] at *
    omega
  | p :: l, h, k + 1 => by
    have := sumLen_bounds l (fun q hq => h q (by simp [hq])) k
    have := (h p (by simp)).1
    simp only [List.take_succ_cons, sumLen]
    omega
end Go.Proofs.Ytbghddmjoampiaa
