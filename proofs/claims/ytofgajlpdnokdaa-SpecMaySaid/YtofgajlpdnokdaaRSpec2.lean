/- The document's May of a spec whose names and curves may be. -/
import Derived.Test.YtofgajlpdnokdaaRSpec
import Derived.Deep.RegionHeld3
import Derived.Outline
namespace Go.Proofs.Ytofgajlpdnokdaa
set_option linter.unusedVariables false
open Go.RowKit

theorem SpbAt.curves9 {w w' : World} {g : Nat} {s : Spc} {b : Bool} (h : SpbAt w g s b) (c : Chg NoChg w w') : w'.cell? ⟨g, 3, none⟩ = some (.int .u64 (s.real.f : Int)) ∧ w'.cell? ⟨g, 4, none⟩ = some (.int .u64 (s.real.l : Int)) ∧ w'.cell? ⟨g, 5, none⟩ = some (.int .u64 (s.real.r : Int)) ∧ w'.cell? ⟨g, 6, none⟩ = some (.int .u64 (s.share.f : Int)) ∧ w'.cell? ⟨g, 7, none⟩ = some (.int .u64 (s.share.l : Int)) ∧ w'.cell? ⟨g, 8, none⟩ = some (.int .u64 (s.share.r : Int)) ∧ w'.cell? ⟨g, 9, none⟩ = some (.int .u64 (s.upper.f : Int)) ∧ w'.cell? ⟨g, 10, none⟩ = some (.int .u64 (s.upper.l : Int)) ∧ w'.cell? ⟨g, 11, none⟩ = some (.int .u64 (s.upper.r : Int)) :=
  ⟨Blk.cell (h.keep c) 3, Blk.cell (h.keep c) 4, Blk.cell (h.keep c) 5, Blk.cell (h.keep c) 6, Blk.cell (h.keep c) 7, Blk.cell (h.keep c) 8, Blk.cell (h.keep c) 9, Blk.cell (h.keep c) 10, Blk.cell (h.keep c) 11⟩

/-- What is told of a spec whose names and curves may be. -/
def Spc.restE (s : Spc) (b : Bool) : Int := if s.shapedB b = false then 130 else if s.sharedB = false then 130 else if s.under = false then 130 else 0
theorem restE_1 {s : Spc} {b : Bool} (h : s.shapedB b = false) : s.restE b = 130 := by unfold Spc.restE; rw [if_pos h]
theorem restE_2 {s : Spc} {b : Bool} (h1 : s.shapedB b = true) (h : s.sharedB = false) : s.restE b = 130 := by unfold Spc.restE; rw [if_neg (by simp [h1]), if_pos h]
theorem restE_3 {s : Spc} {b : Bool} (h1 : s.shapedB b = true) (h2 : s.sharedB = true) (h : s.under = false) : s.restE b = 130 := by unfold Spc.restE; rw [if_neg (by simp [h1]), if_neg (by simp [h2]), if_pos h]
theorem restE_4 {s : Spc} {b : Bool} (h1 : s.shapedB b = true) (h2 : s.sharedB = true) (h : s.under = true) : s.restE b = 0 := by unfold Spc.restE; rw [if_neg (by simp [h1]), if_neg (by simp [h2]), if_neg (by simp [h])]
end Go.Proofs.Ytofgajlpdnokdaa
