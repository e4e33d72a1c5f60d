/- packet.All: the grains of all. Condition: the packets are numbers of their types. -/
import Derived.Test.YtofgajlpdnokdaaDoorPktFits
import Derived.Test.YtofgajlpdnokdaaDoorRatio
namespace Go.Proofs.YtofgajlpdnokdaaDoor
set_option linter.unusedVariables false
open Go.RowKit

structure Pq where
  id : Nat
  cls : Int
  len : Int
  at_ : Nat
def Pq.cells (p : Pq) : List Value := [.int .u64 (p.id : Int), .int .i64 p.cls, .int .i64 p.len, .int .u64 (p.at_ : Int)]
theorem pqR : RecT Tryd.prog Pq.cells 4 53 24 32 ⟨0, 0, 0, 0⟩ where
  ht := Tryd.underlying53
  hi := info_rec (by kernel_rfl)
  pos := by decide
  hc := fun _ => rfl
  one := by
    intro x u hu
    simp only [Pq.cells, List.mem_cons, List.not_mem_nil, or_false] at hu
    rcases hu with rfl | rfl | rfl | rfl <;> rfl
/-- A packet of numbers of their types. -/
def Pq.wf (p : Pq) : Prop := p.id < 18446744073709551616 ∧ p.at_ < 18446744073709551616 ∧ (-9223372036854775808 ≤ p.cls ∧ p.cls ≤ 9223372036854775807) ∧ (-9223372036854775808 ≤ p.len ∧ p.len ≤ 9223372036854775807)
theorem Pq.of_fits {x : List Value} (h : Fits pktKinds x) : ∃ p : Pq, x = p.cells ∧ p.wf := by
  obtain ⟨i, t, c, n, hx, h1, h2, h3, h4⟩ := pkt_of_fits h
  refine ⟨⟨i, c, n, t⟩, ?_, h1, h2, h3, h4⟩
  have := congrArg Array.toList hx
  simpa [Pq.cells] using this

/-- The grains of all, stopped. -/
def grL (l : List Pq) : Nat := (l.map fun p => gr p.len).sum
def allN (l : List Pq) : Nat := min (grL l) capN
theorem grL_snoc (l : List Pq) (p : Pq) : grL (l ++ [p]) = grL l + gr p.len := by simp [grL]
theorem allN_snoc (l : List Pq) (p : Pq) : allN (l ++ [p]) = min (allN l + gr p.len) capN := by
  unfold allN
  rw [grL_snoc]
  omega
theorem allN_le (l : List Pq) : allN l ≤ 4611686018427387904 := by
  unfold allN
  rw [capN_eq]
  omega

theorem row_cells {w : World} {a : Option Addr} {l : List Pq} (h : RowAt Pq.cells 4 w a l) (k : Nat) (hk : k < l.length) : ∃ g o, a = some ⟨g, o, none⟩ ∧ w.cell? ⟨g, o + k * 4, none⟩ = some (.int .u64 (l[k].id : Int)) ∧ w.cell? ⟨g, o + k * 4 + 1, none⟩ = some (.int .i64 l[k].cls) ∧ w.cell? ⟨g, o + k * 4 + 2, none⟩ = some (.int .i64 l[k].len) ∧ w.cell? ⟨g, o + k * 4 + 3, none⟩ = some (.int .u64 (l[k].at_ : Int)) := by
  obtain ⟨g, o, rfl, hj⟩ := h k hk
  exact ⟨g, o, rfl, hj 0 _ rfl, hj 1 _ rfl, hj 2 _ rfl, hj 3 _ rfl⟩

set_option maxRecDepth 100000 in
set_option maxHeartbeats 2000000 in
theorem pkAll_any (l : List Pq) (a : Option Addr) (cap : Nat) (w : World) (hl : l.length ≤ 1000000) (hr : RowAt Pq.cells 4 w a l) (hwf : ∀ p ∈ l, p.wf) : Calls Tryd.prog 22 #[.slice a l.length cap] w fun e w' => e = .returned (.int .u64 (allN l : Int)) ∧ Chg NoChg w w' := by
  have HR := hide hr
  have HW := hide hwf
  clear hr hwf
  go_enter Tryd.func22, Tryd.ntmps22
  go_wp2
  go_loopw [3, 8] (fun s i wr => ∃ k : Nat, k ≤ l.length ∧ i = .int .i64 k ∧ s = .int .u64 (allN (l.take k) : Int) ∧ Hid (Chg NoChg w wr)) (fun _ i _ => l.length - (RowKit.intOf i).toNat)
  case atStart => exact ⟨0, by omega, rfl, rfl, hide (Chg.refl _ _)⟩
  case round =>
    obtain ⟨k, hk, rfl, rfl, HC⟩ := hrel
    by_cases hlt : k < l.length
    · obtain ⟨g, o, rfl, s0, s1, s2, s3⟩ := row_cells (HR.out.keep HC.out (fun _ _ h => h)) k hlt
      have hwp := HW.out l[k] (List.getElem_mem hlt)
      have HG := hide (pkGrains_any l[k].id l[k].at_ l[k].cls l[k].len hwp.2.2.2.2)
      have HS := hide (allN_snoc (l.take k) l[k])
      rw [← List.take_succ_eq_append_getElem hlt] at HS
      have hA := allN_le (l.take k)
      have hG := gr_le l[k].len
      have C0 := hide (HC.out.alloc (.cells #[.int .u64 (l[k].id : Int), .int .i64 l[k].cls, .int .i64 l[k].len, .int .u64 (l[k].at_ : Int)] 24))
      generalize allN (l.take k) = A at hA HS ⊢
      generalize gr l[k].len = G at hG HS HG
      have k0 : (0 : Int) ≤ (k : Int) := by omega
      have k1 : (k : Int) < (l.length : Int) := by omega
      have hs : IntKind.u64.wrap ((A : Int) + (G : Int)) = ((A + G : Nat) : Int) := by rw [IntWalk.u64_in _ (by omega)]; omega
      clear hwp
      generalize A + G = S at hs HS
      clear hA hG
      go_wp2_with fail
      refine (HG.out _).mono ?_
      rintro e w1 ⟨rfl, c1⟩
      have C1 := hide (C0.out.trans' c1)
      clear c1 s0 s1 s2 s3
      go_wp2
      go_roundw
      case rel => exact ⟨k + 1, by omega, by go_num, by rw [HS.out, capN_eq]; congr 1; omega, C1⟩
      case measure => simp [RowKit.intOf]; omega
    · obtain rfl : k = l.length := by omega
      rw [List.take_of_length_le (Nat.le_refl _)]
      go_wp2
      go_ret
      exact ⟨rfl, HC.out⟩
end Go.Proofs.YtofgajlpdnokdaaDoor
