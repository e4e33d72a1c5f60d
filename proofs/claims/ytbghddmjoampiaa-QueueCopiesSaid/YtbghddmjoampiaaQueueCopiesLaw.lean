/- QueueCopies holds for every input. No condition. -/
import Derived.Test.YtbghddmjoampiaaQueueCopies
namespace Go.Proofs.Ytbghddmjoampiaa
set_option linter.unusedVariables false
open Go.ChangeShapes Go.WideShapes Go.ChangeAt Go.RowKit

theorem queueCopies_none (pk : Int) (bt : Int) (l : List Act) (l2 : List Act) (a : Option Addr) (cap : Nat) (a2 : Option Addr) (cap2 : Nat) (W : World) (h : pk < 1 ∨ 4096 < pk ∨ bt < 1 ∨ 16777216 < bt) :
    Calls Try.prog 8 #[.int .i64 pk, .int .i64 bt, .slice a l.length cap, .slice a2 l2.length cap2] W fun e w' => e = .returned (.bool true) ∧ Chg NoChg W w' := by
  have AW := hide (fun W => l11awake_any W)
  go_enter Try.func8, Try.ntmps8
  go_wp2_with fail
  refine (AW.out _).mono ?_
  rintro e w0 ⟨rfl, c0⟩
  have HC0 := hide (c0)
  clear c0
  go_wp2_with fail
  refine (qNew_nil pk bt _ h).mono ?_
  rintro e w1 ⟨rfl, rfl⟩
  clear h
  go_wp2
  go_ret
  exact ⟨rfl, HC0.out⟩

theorem queueCopies_long0 (pk : Nat) (bt : Nat) (l : List Act) (l2 : List Act) (a : Option Addr) (cap : Nat) (a2 : Option Addr) (cap2 : Nat) (W : World) (hl : 100 < l.length) (hl2 : l.length ≤ 9223372036854775807) (h1 : 1 ≤ pk) (h2 : pk ≤ 4096) (h3 : 1 ≤ bt) (h4 : bt ≤ 16777216) :
    Calls Try.prog 8 #[.int .i64 (pk : Int), .int .i64 (bt : Int), .slice a l.length cap, .slice a2 l2.length cap2] W fun e w' => e = .returned (.bool true) ∧ Chg NoChg W w' := by
  have l1 : (100 : Int) < (l.length : Int) := by omega
  have AW := hide (fun W => l11awake_any W)
  go_enter Try.func8, Try.ntmps8
  go_wp2_with fail
  refine (AW.out _).mono ?_
  rintro e w0 ⟨rfl, c0⟩
  have HC0 := hide (c0)
  clear c0
  go_wp2_with fail
  refine (qNew_ok pk bt _ h1 h2 h3 h4).mono ?_
  rintro e w1 ⟨rfl, q1, c1⟩
  have HC1 := hide (HC0.out.trans' c1)
  clear q1 c1
  go_wp2
  go_ret
  exact ⟨rfl, HC1.out⟩

theorem queueCopies_long1 (pk : Nat) (bt : Nat) (l : List Act) (l2 : List Act) (a : Option Addr) (cap : Nat) (a2 : Option Addr) (cap2 : Nat) (W : World) (hl0 : l.length ≤ 100) (hl : 100 < l2.length) (hl2 : l2.length ≤ 9223372036854775807) (h1 : 1 ≤ pk) (h2 : pk ≤ 4096) (h3 : 1 ≤ bt) (h4 : bt ≤ 16777216) :
    Calls Try.prog 8 #[.int .i64 (pk : Int), .int .i64 (bt : Int), .slice a l.length cap, .slice a2 l2.length cap2] W fun e w' => e = .returned (.bool true) ∧ Chg NoChg W w' := by
  have l0 : (l.length : Int) ≤ 100 := by omega
  have l1 : (100 : Int) < (l2.length : Int) := by omega
  have AW := hide (fun W => l11awake_any W)
  go_enter Try.func8, Try.ntmps8
  go_wp2_with fail
  refine (AW.out _).mono ?_
  rintro e w0 ⟨rfl, c0⟩
  have HC0 := hide (c0)
  clear c0
  go_wp2_with fail
  refine (qNew_ok pk bt _ h1 h2 h3 h4).mono ?_
  rintro e w1 ⟨rfl, q1, c1⟩
  have HC1 := hide (HC0.out.trans' c1)
  clear q1 c1
  go_wp2
  go_ret
  exact ⟨rfl, HC1.out⟩

theorem queueCopies_any (pk : Int) (bt : Int) (l : List Act) (l2 : List Act) (a : Option Addr) (cap : Nat) (a2 : Option Addr) (cap2 : Nat) (W : World) (hl : l.length ≤ maxLen) (hrl : RowAt Act.cells 5 W a l) (hl2 : l2.length ≤ maxLen) (hrl2 : RowAt Act.cells 5 W a2 l2) :
    Calls Try.prog 8 #[.int .i64 pk, .int .i64 bt, .slice a l.length cap, .slice a2 l2.length cap2] W fun e w' => e = .returned (.bool true) ∧ Below W.heap.size W w' := by
  unfold maxLen at hl hl2
  have fin : ∀ e w', (e = Ending.returned (.bool true) ∧ Chg NoChg W w') → (e = Ending.returned (.bool true) ∧ Below W.heap.size W w') := fun e w' h => ⟨h.1, h.2.below⟩
  by_cases h : pk < 1 ∨ 4096 < pk ∨ bt < 1 ∨ 16777216 < bt
  · exact (queueCopies_none pk bt l l2 a cap a2 cap2 W h).mono fin
  · obtain ⟨pk, rfl⟩ := Int.eq_ofNat_of_zero_le (a := pk) (by omega)
    obtain ⟨bt, rfl⟩ := Int.eq_ofNat_of_zero_le (a := bt) (by omega)
    by_cases h2 : l.length ≤ 100
    · by_cases h3 : l2.length ≤ 100
      · exact (copies_ok l l2 pk bt a cap a2 cap2 W h2 h3 hrl hrl2 (by omega) (by omega) (by omega) (by omega)).mono fin
      · exact (queueCopies_long1 pk bt l l2 a cap a2 cap2 W h2 (by omega) hl2 (by omega) (by omega) (by omega) (by omega)).mono fin
    · exact (queueCopies_long0 pk bt l l2 a cap a2 cap2 W (by omega) hl (by omega) (by omega) (by omega) (by omega)).mono fin

theorem own : ownKnob Try.prog.godebug = none := by kernel_rfl
theorem laidOut : laidOutB Try.prog = true := by kernel_rfl

theorem queueCopies_law {H : Type} (enc : TypeId × Value → H) : LawWalk enc Try.prog 8 Try.f8 := by
  intro W base args ds p hval0 hA0 hsz hlt
  have hval : ∀ (j : Nat) t v, Try.f8.params[j]? = some t → args[j]? = some v → Value.okWide Try.prog W .any base t v := hval0
  have hA := hA0
  rw [Try.params8] at hA hval
  obtain ⟨v0, v1, v2, v3, d0, d1, d2, d3, p0, p1, p2, p3, rfl, rfl, rfl, h0, h1, h2, h3⟩ := trodAll_four hA
  obtain ⟨pk, rfl, rfl, rfl, _⟩ := open_int Try.underlying3 (hval 0 3 v0 rfl rfl) h0
  obtain ⟨bt, rfl, rfl, rfl, _⟩ := open_int Try.underlying3 (hval 1 3 v1 rfl rfl) h1
  obtain ⟨xs, hx, hfit, hlen⟩ := open_flats Try.underlying24 actKinds (by kernel_rfl) (by decide) (hval 2 24 v2 rfl rfl) h2
  obtain ⟨l, rfl, _⟩ := typed_list Act.cells (fun _ => True) xs (fun x hxm => Act.of_fits (hfit x hxm))
  obtain ⟨a, cap, rfl, _, _, hrow⟩ := hx.row
  obtain ⟨xs2, hx2, hfit2, hlen2⟩ := open_flats Try.underlying24 actKinds (by kernel_rfl) (by decide) (hval 3 24 v3 rfl rfl) h3
  obtain ⟨l2, rfl, _⟩ := typed_list Act.cells (fun _ => True) xs2 (fun x hxm => Act.of_fits (hfit2 x hxm))
  obtain ⟨a2, cap2, rfl, _, _, hrow2⟩ := hx2.row
  exact queueCopies_any pk bt l l2 a cap a2 cap2 W (by simpa using hlen) hrow (by simpa using hlen2) hrow2

set_option maxRecDepth 100000 in
theorem queueCopies_lifted (os : Os) (started : os.Started) (H : Type) (enc : TypeId × Value → H) :
    ReturnsInHanded {} Try.checked os 8 .any (Rows.queueCopiesSpec.pre6 enc Try.prog Try.f8 Rows.queueCopiesRow.domain false) (Rows.queueCopiesSpec.post enc Try.prog Try.f8 false true false false) :=
  lifted_of_walk (C := Try.checked) (tb := 4) own started (by kernel_rfl) Try.func8
    (ChangeSpec.witness6 (enc := enc) (C := Try.checked) false ⟨#[], #[.int .i64 0, .int .i64 0, .slice none 0 0, .slice none 0 0], []⟩ 8 (by kernel_rfl) (by kernel_rfl) (by kernel_rfl) (by kernel_rfl))
    laidOut (by kernel_rfl) rfl Try.underlying4 rfl (fun ds hds => by
      match ds, hds with
      | [d0, d1, d2, d3], _ => rfl) (queueCopies_law enc)

theorem queueCopies_holds : Rows.QueueCopiesSaid :=
  OpenClaim.holds_of_wide 8 Try.f8 rfl rfl rfl rfl rfl rfl rfl ⟨rfl, rfl, rfl, rfl, rfl⟩ rfl rfl rfl rfl rfl (by kernel_rfl) Try.func8 (by kernel_rfl)
    (of_decide_eq_true (by kernel_rfl)) (by unfold Func.isWrapper; first | (rw [if_pos (by decide +kernel)]; kernel_rfl) | (rw [if_neg (by decide +kernel)]; exact ⟨rfl, rfl⟩))
    (fun os started H enc _ => queueCopies_lifted os started H enc)
end Go.Proofs.Ytbghddmjoampiaa
