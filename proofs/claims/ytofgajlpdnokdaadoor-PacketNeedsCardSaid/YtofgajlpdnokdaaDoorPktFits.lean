/- A packet's cells, as an argument. -/
import Derived.Test.YtofgajlpdnokdaaDoorAwake10
import Derived.Test.YtofgajlpdnokdaaDoorDoorLaid
import Derived.ChangeMaps5
namespace Go.Proofs.YtofgajlpdnokdaaDoor
set_option linter.unusedVariables false
open Go.ChangeShapes Go.WideShapes Go.ChangeAt Go.RowKit
theorem u64_nat {n : Int} (h : (Lit.int .u64 n).wf = true) : ∃ k : Nat, n = (k : Int) ∧ k < 18446744073709551616 := by
  refine ⟨n.toNat, ?_⟩
  simp [Lit.wf] at h
  have h1 : IntKind.u64.min = 0 := by kernel_rfl
  have h2 : IntKind.u64.max = 18446744073709551615 := by kernel_rfl
  omega
theorem i64_le {n : Int} (h : (Lit.int .i64 n).wf = true) : -9223372036854775808 ≤ n ∧ n ≤ 9223372036854775807 := by
  simp [Lit.wf] at h
  have h1 : IntKind.i64.min = -9223372036854775808 := by kernel_rfl
  have h2 : IntKind.i64.max = 9223372036854775807 := by kernel_rfl
  omega

def pktKinds : List (Option IntKind) := [some .u64, some .i64, some .i64, some .u64]
theorem pktK : flatKinds Tryd.prog 5 24 = some pktKinds := by kernel_rfl
theorem pkt_of_fits {x : List Value} (h : Fits pktKinds x) : ∃ (i t : Nat) (c n : Int), x.toArray = #[.int .u64 (i : Int), .int .i64 c, .int .i64 n, .int .u64 (t : Int)] ∧ i < 18446744073709551616 ∧ t < 18446744073709551616 ∧ (-9223372036854775808 ≤ c ∧ c ≤ 9223372036854775807) ∧ (-9223372036854775808 ≤ n ∧ n ≤ 9223372036854775807) := by
  unfold pktKinds at h
  obtain ⟨u0, y1, rfl, w0, h1⟩ := h.int1
  obtain ⟨u1, y2, rfl, w1, h2⟩ := h1.int1
  obtain ⟨u2, y3, rfl, w2, h3⟩ := h2.int1
  obtain ⟨u3, y4, rfl, w3, h4⟩ := h3.int1
  have := h4.nil0
  subst this
  obtain ⟨v0, rfl, b0⟩ := u64_nat w0
  obtain ⟨v3, rfl, b3⟩ := u64_nat w3
  exact ⟨v0, v3, u1, u2, rfl, b0, b3, i64_le w1, i64_le w2⟩
end Go.Proofs.YtofgajlpdnokdaaDoor
