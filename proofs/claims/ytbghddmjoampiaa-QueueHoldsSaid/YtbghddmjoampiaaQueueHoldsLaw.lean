/- QueueHolds holds for every input. No condition. -/
import Derived.Test.YtbghddmjoampiaaQueueHolds
namespace Go.Proofs.Ytbghddmjoampiaa
set_option linter.unusedVariables false
open Go.ChangeShapes Go.WideShapes Go.ChangeAt Go.RowKit

theorem queueHolds_none (pk : Int) (bt : Int) (l : List Act) (at_ : Int) (a : Option Addr) (cap : Nat) (W : World) (h : pk < 1 ∨ 4096 < pk ∨ bt < 1 ∨ 16777216 < bt) (hl : l.length ≤ 150) :
    Calls Try.prog 9 #[.int .i64 pk, .int .i64 bt, .slice a l.length cap, .int .i64 at_] W fun e w' => e = .returned (.bool true) ∧ Chg NoChg W w' := by
  go_enter Try.func9, Try.ntmps9
  have HC0 := hide (Chg.refl NoChg W)
  go_wp2_with fail
  refine (qNew_nil pk bt _ h).mono ?_
  rintro e w1 ⟨rfl, rfl⟩
  go_wp2_with fail
  refine (rNew_nil pk bt _ h).mono ?_
  rintro e w2 ⟨rfl, rfl⟩
  clear h
  go_wp2
  go_ret
  exact ⟨rfl, HC0.out⟩

theorem queueHolds_long0 (pk : Int) (bt : Int) (l : List Act) (at_ : Int) (a : Option Addr) (cap : Nat) (W : World) (hl : 150 < l.length) (hl2 : l.length ≤ 9223372036854775807) :
    Calls Try.prog 9 #[.int .i64 pk, .int .i64 bt, .slice a l.length cap, .int .i64 at_] W fun e w' => e = .returned (.bool true) ∧ Chg NoChg W w' := by
  have l1 : (150 : Int) < (l.length : Int) := by omega
  go_enter Try.func9, Try.ntmps9
  have HC0 := hide (Chg.refl NoChg W)
  go_wp2
  go_ret
  exact ⟨rfl, HC0.out⟩

theorem queueHolds_any (pk : Int) (bt : Int) (l : List Act) (at_ : Int) (a : Option Addr) (cap : Nat) (W : World) (hl : l.length ≤ maxLen) (hrl : RowAt Act.cells 5 W a l) :
    Calls Try.prog 9 #[.int .i64 pk, .int .i64 bt, .slice a l.length cap, .int .i64 at_] W fun e w' => e = .returned (.bool true) ∧ Below W.heap.size W w' := by
  unfold maxLen at hl
  have fin : ∀ e w', (e = Ending.returned (.bool true) ∧ Chg NoChg W w') → (e = Ending.returned (.bool true) ∧ Below W.heap.size W w') := fun e w' h => ⟨h.1, h.2.below⟩
  by_cases h2 : l.length ≤ 150
  · by_cases h : pk < 1 ∨ 4096 < pk ∨ bt < 1 ∨ 16777216 < bt
    · exact (queueHolds_none pk bt l at_ a cap W h h2).mono fin
    · obtain ⟨pk, rfl⟩ := Int.eq_ofNat_of_zero_le (a := pk) (by omega)
      obtain ⟨bt, rfl⟩ := Int.eq_ofNat_of_zero_le (a := bt) (by omega)
      exact (holds_ok l at_ pk bt a cap W h2 hrl (by omega) (by omega) (by omega) (by omega)).mono fin
  · exact (queueHolds_long0 pk bt l at_ a cap W (by omega) hl).mono fin

theorem own : ownKnob Try.prog.godebug = none := by kernel_rfl
theorem laidOut : laidOutB Try.prog = true := by kernel_rfl

theorem queueHolds_law {H : Type} (enc : TypeId × Value → H) : LawWalk enc Try.prog 9 Try.f9 := by
  intro W base args ds p hval0 hA0 hsz hlt
  have hval : ∀ (j : Nat) t v, Try.f9.params[j]? = some t → args[j]? = some v → Value.okWide Try.prog W .any base t v := hval0
  have hA := hA0
  rw [Try.params9] at hA hval
  obtain ⟨v0, v1, v2, v3, d0, d1, d2, d3, p0, p1, p2, p3, rfl, rfl, rfl, h0, h1, h2, h3⟩ := trodAll_four hA
  obtain ⟨pk, rfl, rfl, rfl, _⟩ := open_int Try.underlying3 (hval 0 3 v0 rfl rfl) h0
  obtain ⟨bt, rfl, rfl, rfl, _⟩ := open_int Try.underlying3 (hval 1 3 v1 rfl rfl) h1
  obtain ⟨xs, hx, hfit, hlen⟩ := open_flats Try.underlying24 actKinds (by kernel_rfl) (by decide) (hval 2 24 v2 rfl rfl) h2
  obtain ⟨l, rfl, _⟩ := typed_list Act.cells (fun _ => True) xs (fun x hxm => Act.of_fits (hfit x hxm))
  obtain ⟨a, cap, rfl, _, _, hrow⟩ := hx.row
  obtain ⟨at_, rfl, rfl, rfl, _⟩ := open_int Try.underlying3 (hval 3 3 v3 rfl rfl) h3
  exact queueHolds_any pk bt l at_ a cap W (by simpa using hlen) hrow

set_option maxRecDepth 100000 in
theorem queueHolds_lifted (os : Os) (started : os.Started) (H : Type) (enc : TypeId × Value → H) :
    ReturnsInHanded {} Try.checked os 9 .any (Rows.queueHoldsSpec.pre6 enc Try.prog Try.f9 Rows.queueHoldsRow.domain false) (Rows.queueHoldsSpec.post enc Try.prog Try.f9 false true false false) :=
  lifted_of_walk (C := Try.checked) (tb := 4) own started (by kernel_rfl) Try.func9
    (ChangeSpec.witness6 (enc := enc) (C := Try.checked) false ⟨#[], #[.int .i64 0, .int .i64 0, .slice none 0 0, .int .i64 0], []⟩ 8 (by kernel_rfl) (by kernel_rfl) (by kernel_rfl) (by kernel_rfl))
    laidOut (by kernel_rfl) rfl Try.underlying4 rfl (fun ds hds => by
      match ds, hds with
      | [d0, d1, d2, d3], _ => rfl) (queueHolds_law enc)

theorem queueHolds_holds : Rows.QueueHoldsSaid :=
  OpenClaim.holds_of_wide 9 Try.f9 rfl rfl rfl rfl rfl rfl rfl ⟨rfl, rfl, rfl, rfl, rfl⟩ rfl rfl rfl rfl rfl (by kernel_rfl) Try.func9 (by kernel_rfl)
    (of_decide_eq_true (by kernel_rfl)) (by unfold Func.isWrapper; first | (rw [if_pos (by decide +kernel)]; kernel_rfl) | (rw [if_neg (by decide +kernel)]; exact ⟨rfl, rfl⟩))
    (fun os started H enc _ => queueHolds_lifted os started H enc)
end Go.Proofs.Ytbghddmjoampiaa
