/- Specs that came in: their numbers. No condition. -/
import Derived.Test.YtofgajlpdnokdaaGreatDoorSpEq
import Derived.Test.YtofgajlpdnokdaaGreatDoorBase
namespace Go.Proofs.YtofgajlpdnokdaaGreatDoor
set_option linter.unusedVariables false
open Go.ChangeShapes Go.WideShapes Go.ChangeAt Go.RowKit

theorem u64_nat {n : Int} (h : (Lit.int .u64 n).wf = true) : ∃ k : Nat, n = (k : Int) ∧ k < 18446744073709551616 := by
  refine ⟨n.toNat, ?_⟩
  simp [Lit.wf] at h
  have h1 : IntKind.u64.min = 0 := by kernel_rfl
  have h2 : IntKind.u64.max = 18446744073709551615 := by kernel_rfl
  omega
theorem i64_le {n : Int} (h : (Lit.int .i64 n).wf = true) : n ≤ 9223372036854775807 := by
  simp [Lit.wf] at h
  have h1 : IntKind.i64.min = -9223372036854775808 := by kernel_rfl
  have h2 : IntKind.i64.max = 9223372036854775807 := by kernel_rfl
  omega

def spcKinds : List (Option IntKind) := [some .i64, some .i64, none, some .u64, some .u64, some .u64, some .u64, some .u64, some .u64, some .u64, some .u64, some .u64, some .i64, some .i64]
theorem spcK : flatKinds Tryz.prog 5 26 = some spcKinds := by kernel_rfl
theorem Spc.of_fits {x : List Value} (h : Fits spcKinds x) : ∃ s : Spc, s.ok ∧ x.toArray = #[.int .i64 s.id, .int .i64 s.par, .bool s.leaf, .int .u64 (s.real.f : Int), .int .u64 (s.real.l : Int), .int .u64 (s.real.r : Int), .int .u64 (s.share.f : Int), .int .u64 (s.share.l : Int), .int .u64 (s.share.r : Int), .int .u64 (s.upper.f : Int), .int .u64 (s.upper.l : Int), .int .u64 (s.upper.r : Int), .int .i64 s.pk, .int .i64 s.bt] := by
  unfold spcKinds at h
  obtain ⟨v0, y1, rfl, w0, h1⟩ := h.int1
  obtain ⟨v1, y2, rfl, w1, h2⟩ := h1.int1
  obtain ⟨v2, y3, rfl, h3⟩ := h2.bool1
  obtain ⟨u3, y4, rfl, w3, h4⟩ := h3.int1
  obtain ⟨v3, rfl, q3⟩ := u64_nat w3
  clear w3
  obtain ⟨u4, y5, rfl, w4, h5⟩ := h4.int1
  obtain ⟨v4, rfl, q4⟩ := u64_nat w4
  clear w4
  obtain ⟨u5, y6, rfl, w5, h6⟩ := h5.int1
  obtain ⟨v5, rfl, q5⟩ := u64_nat w5
  clear w5
  obtain ⟨u6, y7, rfl, w6, h7⟩ := h6.int1
  obtain ⟨v6, rfl, q6⟩ := u64_nat w6
  clear w6
  obtain ⟨u7, y8, rfl, w7, h8⟩ := h7.int1
  obtain ⟨v7, rfl, q7⟩ := u64_nat w7
  clear w7
  obtain ⟨u8, y9, rfl, w8, h9⟩ := h8.int1
  obtain ⟨v8, rfl, q8⟩ := u64_nat w8
  clear w8
  obtain ⟨u9, y10, rfl, w9, h10⟩ := h9.int1
  obtain ⟨v9, rfl, q9⟩ := u64_nat w9
  clear w9
  obtain ⟨u10, y11, rfl, w10, h11⟩ := h10.int1
  obtain ⟨v10, rfl, q10⟩ := u64_nat w10
  clear w10
  obtain ⟨u11, y12, rfl, w11, h12⟩ := h11.int1
  obtain ⟨v11, rfl, q11⟩ := u64_nat w11
  clear w11
  obtain ⟨v12, y13, rfl, w12, h13⟩ := h12.int1
  obtain ⟨v13, y14, rfl, w13, h14⟩ := h13.int1
  have := h14.nil0
  subst this
  exact ⟨⟨v0, v1, v2, ⟨v3, v4, v5⟩, ⟨v6, v7, v8⟩, ⟨v9, v10, v11⟩, v12, v13⟩, ⟨i64_le w0, i64_le w1, i64_le w12, i64_le w13, ⟨q3, q4, q5⟩, ⟨q6, q7, q8⟩, ⟨q9, q10, q11⟩⟩, rfl⟩

end Go.Proofs.YtofgajlpdnokdaaGreatDoor
