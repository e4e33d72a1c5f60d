/- What nobody made, told by a zero. -/
import Derived.Test.YtpfkahpnfpockaaGreatNil
import Derived.Test.YtpfkahpnfpockaaGreatPlan
namespace Go.Proofs.YtpfkahpnfpockaaGreat
set_option linter.unusedVariables false
open Go.RowKit
/-- v is nil, or what nobody made: its cell k is 0. -/
def NoOneI (k : Nat) (w : World) (v : Value) : Prop := v = .pointer none ∨ ∃ b, v = .pointer (some ⟨b, 0, none⟩) ∧ w.cell? ⟨b, k, none⟩ = some (.int .i64 0)
theorem NoOneI.keep {k : Nat} {w w1 : World} {v : Value} (h : NoOneI k w v) (hc : Chg NoChg w w1) : NoOneI k w1 v := by
  rcases h with h | ⟨b, h, hb⟩
  · exact .inl h
  · exact .inr ⟨b, h, hc.same hb⟩
end Go.Proofs.YtpfkahpnfpockaaGreat
