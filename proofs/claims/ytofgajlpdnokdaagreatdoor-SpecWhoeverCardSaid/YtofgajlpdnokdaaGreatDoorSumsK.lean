/- SumsK, as one text: Sums Keys Keys2 Sort2 Sort3 Sums2 Corners Below2. -/
import Derived.Test.YtofgajlpdnokdaaGreatDoorWides
import Derived.Test.YtofgajlpdnokdaaGreatDoorBase
import Derived.WalkSpells
import Derived.RangeFuncBox
import Derived.RangeFuncLeaves
import Derived.RangeFuncStops
import Derived.RangeFuncMany
import Derived.Sort.MapsRangeIn
import Derived.Sort.KeysCollected
import Derived.Shelf.Abstract
import Derived.OwnWalkIn
import Derived.TacticsInMore
import Derived.RegionIn
import Derived.LoopNIn
import Derived.LoopIn
import Derived.RangeFuncWrites
import Derived.Maps.AppendAt
import Derived.Outline
import Derived.RegionTactic
import Derived.ChangeAlike
import Derived.Deep.DeepCutAuto
import Derived.Deep.RegionHeld3
import Derived.Maps.OwnOps
import Derived.Maps.OwnSet
/- Sums of curves: those that may be are kept. -/
namespace Go.Proofs.YtofgajlpdnokdaaGreatDoor
set_option linter.unusedVariables false
open Go.RowKit

theorem crvT : RecT Tryz.prog Crv.cells 3 40 24 24 Crv.zero where
  ht := Tryz.underlying40
  hi := info_rec (by kernel_rfl)
  pos := by decide
  hc := Crv.cells_length
  one := by
    intro p u hu
    simp only [Crv.cells, List.mem_cons, List.not_mem_nil, or_false] at hu
    rcases hu with rfl | rfl | rfl <;> rfl

theorem ownC_empty {w : World} {g : Nat} (h : Blk w g #[] 24) : Own Crv.cells 3 24 w (.slice (some ⟨g, 0, none⟩) 0 0) ([] : List Crv) :=
  ⟨by simp [flatC], .inr ⟨g, 0, #[], rfl, Nat.zero_le _, h, Nat.le_refl _, Nat.zero_le _, by simp, by simp [flatC]⟩⟩

theorem eqGuard_curves : Tryz.prog.eqGuardType Tryz.prog.depth 40 = false := by kernel_rfl
theorem stood_curves : Tryz.prog.stoodInHeld 40 = false := by kernel_rfl
attribute [local go_sem] eqGuard_curves stood_curves

theorem slClone_any (l : List Crv) (ad : Addr) (cap : Nat) (w : World) (hrow : RowAt Crv.cells 3 w (some ad) l) (hl : l.length ≤ 1000) (h0 : l ≠ []) :
    Calls Tryz.prog 44 #[.slice (some ad) l.length cap] w fun e w' => ∃ v, e = .returned v ∧ Own Crv.cells 3 24 w' v l ∧ Chg NoChg w w' ∧ ∀ k, v.ownBlock = some k → w.heap.size ≤ k := by
  have HR := hide (And.intro hrow h0)
  clear hrow h0
  go_enter Tryz.func44, Tryz.ntmps44
  have hnil := fun (W : World) => Lib.run_eql_slice_nil (P := Tryz.prog) W 40 24 (some ad) l.length cap 0 0 Tryz.underlying40
  go_wp2_with (at_builtin; refine wpList_append_rec crvT rfl (.tmp 5) (.tmp 6) rfl _ ([] : List Crv) rfl (ownC_empty (Blk.new' _ _ (by simp))) _ _ l rfl ?a2 ?a3 ?a4 ?a5 ?a6)
  case a2 => intro h; cases h
  case a3 => exact HR.out.1.keep ((Chg.refl NoChg w).alloc _) (fun _ _ h => h)
  case a4 => simp [maxLen]; omega
  case a5 => simp; omega
  case a6 =>
    intro v' w1 hown1 hc1 hv1
    have K1 : Chg NoChg w w1 := ((Chg.refl NoChg w).alloc (.cells #[] 24)).trans hc1 fun j hj => .inr (by simp [Value.ownBlock] at hj; omega)
    have K2 : ∀ k, v'.ownBlock = some k → w.heap.size ≤ k := by
      intro k hk
      rcases hv1 with h | h
      · rw [h] at hk
        simp [Value.ownBlock] at hk
        omega
      · rw [h] at hk
        have := Option.some.inj hk
        have hz : (w.alloc (.cells #[] 24)).heap.size = w.heap.size + 1 := by simp
        omega
    have HK := hide (And.intro hown1 (And.intro K1 K2))
    clear hown1 K1 K2 hc1 hv1
    go_wp2
    go_ret
    exact ⟨_, rfl, HK.out.1, HK.out.2.1, HK.out.2.2⟩

theorem sMay1_any (c : Crv) (w : World) :
    Calls Tryz.prog 45 #[.agg #[.int .u64 (c.f : Int), .int .u64 (c.l : Int), .int .u64 (c.r : Int)]] w fun e w' => e = .returned (.bool (!decide c.May)) ∧ Chg NoChg w w' := by
  have M := hide (fun w => cMay_any c w)
  generalize decide c.May = d at M ⊢
  go_enter Tryz.func45, Tryz.ntmps45
  go_wp2_with fail
  refine (M.out _).mono ?_
  rintro e w1 ⟨rfl, c1⟩
  have C1 := hide (((Chg.refl NoChg w).alloc (.cells #[.int .u64 (c.f : Int), .int .u64 (c.l : Int), .int .u64 (c.r : Int)] 24)).trans' c1)
  clear c1
  go_wp2
  go_ret
  exact ⟨rfl, C1.out⟩

theorem sMay1_yes (c : Crv) (hc : c.May) (w w' : World) (h' : Chg NoChg w w') :
    Calls Tryz.prog 45 #[.agg #[.int .u64 (c.f : Int), .int .u64 (c.l : Int), .int .u64 (c.r : Int)]] w' fun e w'' => e = .returned (.bool false) ∧ Chg NoChg w w'' :=
  (sMay1_any c w').mono fun e w'' h => ⟨by rw [h.1, crv_true hc]; rfl, h'.trans' h.2⟩

theorem slIndex_none (l : List Crv) (a : Option Addr) (cap : Nat) (w : World) (hrow : RowAt Crv.cells 3 w a l) (hl : l.length ≤ 1000) (hm : ∀ c ∈ l, c.May) :
    Calls Tryz.prog 58 #[.slice a l.length cap, .func (.func 45) #[] #[]] w fun e w' => e = .returned (.int .i64 (-1)) ∧ Chg NoChg w w' := by
  have HR := hide (And.intro hrow hm)
  clear hrow hm
  have E := hide (fun c (hc : c.May) w' (h' : Chg NoChg w w') => sMay1_yes c hc w w' h')
  go_enter Tryz.func58, Tryz.ntmps58
  go_wp2
  go_loopw [5, 8] (fun _ i wr => ∃ k : Nat, k ≤ l.length ∧ i = .int .i64 k ∧ Chg NoChg w wr) (fun _ i _ => l.length - (intOf i).toNat)
  case atStart => exact ⟨0, by omega, rfl, Chg.refl _ _⟩
  case round =>
    obtain ⟨k, hk, rfl, hc⟩ := hrel
    rename_i wr
    by_cases hlt : k < l.length
    · obtain ⟨g, o, rfl, hj⟩ := HR.out.1 k hlt
      have hj' : ∀ j u, (Crv.cells l[k])[j]? = some u → wr.cell? ⟨g, o + k * 3 + j, none⟩ = some u := fun j u hu => hc.same (hj j u hu)
      have hm := HR.out.2 l[k] (List.getElem_mem hlt)
      generalize l[k] = c at hj' hm
      have e0 := hj' 0 _ rfl
      have e1 := hj' 1 _ rfl
      have e2 := hj' 2 _ rfl
      simp only [Nat.add_zero] at e0
      have EE := hide (E.out c hm wr hc)
      clear hj hj'
      have k0 : (0 : Int) ≤ (k : Int) := by omega
      have k1 : (k : Int) < (l.length : Int) := by omega
      have HC := hide hc
      clear hc hm
      go_wp2_with fail
      refine (EE.out).mono ?_
      rintro e w2 ⟨rfl, c2⟩
      go_wp2
      go_roundw
      case rel => exact ⟨k + 1, by omega, by go_num, c2⟩
      case measure => simp [intOf]; omega
    · have HC := hide hc
      clear hc
      go_wp2
      go_ret
      exact ⟨rfl, HC.out⟩
end Go.Proofs.YtofgajlpdnokdaaGreatDoor

/- The keys of a map whose keys are uint64s, collected: each once, whatever order the map gives. -/
namespace Go.Proofs.YtofgajlpdnokdaaGreatDoor
set_option linter.unusedVariables false
open Go.RowKit Go.Maps Go.Shelf
attribute [local go_sem] Oper.semAt_some

theorem law64 : Keyed Tryz.prog 22 := int_keyed Tryz.underlying22

theorem keyOf_u64 {key : Value} {kl : Lit} (h : keyOf Tryz.prog 22 key = some kl) : ∃ x : Int, key = .int .u64 x ∧ kl = .int .u64 x ∧ (Lit.int .u64 x).wf = true := by
  have hk := Tryz.underlying22
  cases key <;> simp [keyOf, hk, mapKey] at h
  obtain ⟨⟨rfl, hw⟩, rfl⟩ := h
  exact ⟨_, rfl, rfl, hw⟩

/-- What has come so far: no key twice; each is a key that is no longer to come. -/
def CollU {H : Type} (D0 : DataW H) (left : Lit → Bool) (ss : List Int) : Prop := ss.Nodup ∧ ∀ x, x ∈ ss ↔ (has D0 (.int .u64 x) = true ∧ left (.int .u64 x) = false)

theorem CollU.start {H : Type} (D0 : DataW H) : CollU D0 (has D0) [] := ⟨List.nodup_nil, fun x => by cases has D0 (.int .u64 x) <;> simp⟩

theorem CollU.step {H : Type} {D0 : DataW H} {left : Lit → Bool} {ss : List Int} (h : CollU D0 left ss) {x : Int} {y : DataW H} (hlk : left (.int .u64 x) = true) (hat : ∀ zd, D0.atKey (.int .u64 x) zd = y) :
    CollU D0 (fun z => left z && !z.sameKey (.int .u64 x)) (ss ++ [x]) := by
  have hhas : has D0 (.int .u64 x) = true := has_true_of_atKey hat
  have hnew : x ∉ ss := fun hx => by have := ((h.2 x).1 hx).2; rw [hlk] at this; cases this
  refine ⟨List.nodup_append.2 ⟨h.1, by simp, fun a ha b hb => by simp at hb; subst hb; exact fun e => hnew (e ▸ ha)⟩, fun y => ?_⟩
  by_cases hy : y = x
  · subst hy; simp [hhas, Lit.sameKey]
  · simp [h.2 y, hy, Lit.sameKey]

set_option maxHeartbeats 1000000 in
theorem mKeys_in (F : Fence) (n : Nat) (h7 : F.fn 77) (hro : F.round = none) (mb : Option Nat) (w : World) :
    CallsIn F n Tryz.prog 77 #[.map mb] w fun e w' => e = .returned (.func (.func 92) #[] #[.pointer (some ⟨w.heap.size, 0, none⟩)]) ∧ w.alloc (.cells #[.map mb] 121) = w' := by
  refine callsIn_of_wp Tryz.func77 rfl h7 ?_ hro
  simp only [Tryz.ntmps77, List.size_toArray, List.length_cons, List.length_nil, Nat.reduceAdd, Nat.reduceSub, Array.replicate_succ, Array.replicate_zero, List.push_toArray, List.append_toArray, List.nil_append, List.cons_append]
  gi_wp2
  go_ret
  exact ⟨rfl, rfl⟩

set_option maxRecDepth 100000 in
set_option maxHeartbeats 1000000 in
theorem mKeys1_in {H : Type} (F : Fence) (n : Nat) (h10 : F.fn 92) (hro : F.round = none) (hn : 1 ≤ n) (l Bm b nn : Nat) (D0 : DataW H) {R : Value → Option (DataW H × List MemPlace)} (J Jx : List Int → World → Prop)
    (hY : ∀ pre x W, J pre W → pre.length < Maps.size D0 → YieldAt F (n - 1) Tryz.prog l #[.int .u64 x] W fun e W' =>
      (e = .returned (.bool true) ∧ J (pre ++ [x]) W' ∧ KeepsWalks W W') ∨ (e = .returned (.bool false) ∧ Jx (pre ++ [x]) W'))
    (W : World) (hJ : AbidesFrom W.heap.size J) (hm : W.cell? ⟨Bm, 0, none⟩ = some (.map (some b))) (hown : W.ownsMap Tryz.prog 22 R b nn D0) (h0 : J [] W) :
    CallsIn F n Tryz.prog 92 #[.func (.yield l) #[] #[], .pointer (some ⟨Bm, 0, none⟩)] W fun e W' => (∃ v, e = .returned v) ∧
      ((∃ ss : List Int, (ss.Nodup ∧ ∀ x, x ∈ ss ↔ has D0 (.int .u64 x) = true) ∧ J ss W') ∨ (∃ pre : List Int, True ∧ Jx pre W')) := by
  refine callsIn_of_wp Tryz.func92 rfl h10 ?_ hro
  simp only [Tryz.ntmps92, List.size_toArray, List.length_cons, List.length_nil, Nat.reduceAdd, Nat.reduceSub, Array.replicate_succ, Array.replicate_zero, List.push_toArray, List.append_toArray, List.nil_append, List.cons_append]
  gi_wp2_with (first
    | (gi_at_range; refine wpListIn_range_own _ rfl _ 121 rfl 22 3 law64 Tryz.underlying121 _ b nn _ rfl hown ?_; intro w0 hrg0 hg0 hs0)
    | gi_in)
  go_frame
  gi_loopw [3] (fun _ wr => ∃ (left : Lit → Bool) (cnt : Nat) (ss : List Int), wr.ranges Tryz.prog 22 R b W.heap.size nn D0 left cnt ∧ ss.length + cnt ≤ Maps.size D0 ∧ CollU D0 left ss ∧ J ss wr)
    (fun _ wr => wr.rangeLeft b W.heap.size)
  case atStart =>
    exact ⟨_, _, [], hrg0, by simp, CollU.start D0, hJ [] W w0 none h0 hg0 (fun r e => by cases e)⟩
  case round =>
    obtain ⟨left, cnt, ss, hrg, hcs, hC, hJs⟩ := hrel
    gi_wp2_with (first
      | (gi_at_next; refine wpListIn_next_ranges _ rfl _ rfl 22 law64 R (Value.int .u64) id (fun key kl hk => by obtain ⟨x, hx, _⟩ := keyOf_u64 hk; exact ⟨x, hx⟩) (fun v _ _ => ⟨v, rfl⟩) b W.heap.size nn _ _ _ rfl hrg ?_ ?_)
      | gi_in)
    · intro hc0 hl0
      gi_wp2
      go_end0
      exact ⟨⟨_, rfl⟩, .inl ⟨ss, ⟨hC.1, fun x => by rw [hC.2 x, hl0]; simp⟩, hJs⟩⟩
    · intro x c kl yd yp w2 cnt2 hkey hlk hv hat hrg2 hlt hg2 hs2 hen
      obtain ⟨x', ex, rfl, _⟩ := keyOf_u64 hkey
      obtain rfl : x = x' := by simpa using ex
      have hJ2 : J ss w2 := hJ ss wr w2 (some W.heap.size) hJs hg2 (fun r e => by cases e; exact ⟨Nat.le_refl _, hrg.iter_walk⟩)
      obtain ⟨fn, tmps, assign, body, hy, hR⟩ := hY ss x w2 hJ2 (by omega)
      clear hs2
      gi_wp2
      refine hR.mono ?_
      have hC2 := hC.step hlk hat
      rintro e W3 (⟨rfl, hJ3, hk3⟩ | ⟨rfl, hJx3⟩)
      · gi_wp2
        have hrg3 := hrg2.of_walks hk3
        go_roundw
        case rel => exact ⟨_, cnt2, ss ++ [x], hrg3, by simp; omega, hC2, hJ3⟩
        case measure => rw [hrg3.left_eq, hrg.left_eq]; exact hlt
      · gi_wp2
        refine bodyPost_ret (results_none rfl _ _ _) rfl ?_
        exact ⟨⟨_, rfl⟩, .inr ⟨ss ++ [x], trivial, hJx3⟩⟩

theorem mKeys_stops {H : Type} (F : Fence) (n : Nat) (h10 : F.fn 92) (hro : F.round = none) (hn : 1 ≤ n) (Bm b nn : Nat) (D0 : DataW H) {R : Value → Option (DataW H × List MemPlace)} (w : World) (hBm : Bm < w.heap.size)
    (hm : w.cell? ⟨Bm, 0, none⟩ = some (.map (some b))) (hown : w.ownsMap Tryz.prog 22 R b nn D0) :
    SeqStopsA F n Tryz.prog 92 #[.pointer (some ⟨Bm, 0, none⟩)] (fun x : Int => #[Value.int .u64 x]) (fun ss => ss.Nodup ∧ ∀ x, x ∈ ss ↔ has D0 (.int .u64 x) = true) (fun pre => True) (Maps.size D0) w := fun l J Jx W hW hJ _ hY h0 => by
  have hown' : W.ownsMap Tryz.prog 22 R b nn D0 := by
    have hbl := hown.lt
    obtain ⟨es, clock, hb, Ft, hs, hD⟩ := hown
    exact ⟨es, clock, (hW.block b hbl).trans hb, Ft, hs, hD⟩
  exact mKeys1_in F n h10 hro hn l Bm b nn D0 J Jx hY W hJ ((hW.cell (p := ⟨Bm, 0, none⟩) hBm).trans hm) hown' h0
end Go.Proofs.YtofgajlpdnokdaaGreatDoor

/- The keys of a map, in a slice of their own. -/
namespace Go.Proofs.YtofgajlpdnokdaaGreatDoor
set_option linter.unusedVariables false
open Go.RowKit Go.Maps Go.Shelf
attribute [local go_sem] Oper.semAt_some

theorem infoU64 : (Tryz.prog.info? 22).map (fun i => (i.zero, i.size, i.bytes)) = some (some (.int .u64 0), 1, 8) := by kernel_rfl

set_option maxRecDepth 100000 in
set_option maxHeartbeats 2000000 in
theorem appSeq_in {H : Type} (F : Fence) (n : Nat) (h3 : F.fn 97) (h5 : F.fn 92) (hro : F.round = none) (hn : 3 ≤ n) (Bm b nn : Nat) (D0 : DataW H) {R : Value → Option (DataW H × List MemPlace)} (w : World) (hmax : Maps.size D0 < maxLen) (hbytes : Maps.size D0 * 8 + 8 ≤ 140737488355328)
    (hBm : Bm < w.heap.size) (hm : w.cell? ⟨Bm, 0, none⟩ = some (.map (some b))) (hown : w.ownsMap Tryz.prog 22 R b nn D0) :
    CallsIn F n Tryz.prog 97 #[.slice none 0 0, .func (.func 92) #[] #[.pointer (some ⟨Bm, 0, none⟩)]] w fun e W' => ∃ (v : Value) (ss : List Int), e = .returned v ∧ W'.ownsRow w.heap.size 22 1 v ss.length (ss.map (Value.int .u64)) ∧ ss.Nodup ∧ (∀ x, x ∈ ss ↔ has D0 (.int .u64 x) = true) ∧ Below w.heap.size w W' := by
  have h1 : 1 ≤ n := by omega
  obtain ⟨i0, hi, hz0, hz1, hz2⟩ := info_parts infoU64
  refine callsIn_of_wp_marks Tryz.func97 rfl h3 ?_ hro
  simp only [Tryz.ntmps97, List.size_toArray, List.length_cons, List.length_nil, Nat.reduceAdd, Nat.reduceSub, Array.replicate_succ, Array.replicate_zero, List.push_toArray, List.append_toArray, List.nil_append, List.cons_append]
  gi_wp2
  have bO := Boxed.new w 98 (.slice none 0 0)
  have hB0 : Below w.heap.size w (w.alloc (.cells #[.slice none 0 0] 98)) := (Below.refl _ w).alloc (Nat.le_refl _) _
  have hown0 : (w.alloc (.cells #[.slice none 0 0] 98)).ownsMap Tryz.prog 22 R b nn D0 := by
    have hbl := hown.lt
    obtain ⟨es, clock, hb, Ft, hs, hD⟩ := hown
    exact ⟨es, clock, (hB0.block b hbl).trans hb, Ft, hs, hD⟩
  refine wpIn_rangeFunc_ownG hro h1 (gf := 92) (lb := #[.pointer (some ⟨Bm, 0, none⟩)]) rfl h5 (enters_of Tryz.func92 (by kernel_rfl) rfl)
    (mKeys_stops F (n - 1) h5 hro (by omega) Bm b nn D0 _ (by simp; omega) ((hB0.cell (p := ⟨Bm, 0, none⟩) hBm).trans hm) hown0) walksK_t walksK_b (Below.refl _ _) (fun _ => rfl)
    (fun (pre : List Int) W => (∃ v, Boxed W w.heap.size 98 v ∧ W.ownsRow w.heap.size 22 1 v pre.length (pre.map (Value.int .u64)) ∧ True) ∧ Below w.heap.size w W)
    (fun _ _ _ => False)
    (OwnFrom.and (Own.from (holdsRow_own w.heap.size w.heap.size 98 22 1 (fun (pre : List Int) => pre.length) (fun (pre : List Int) => pre.map (Value.int .u64)) (fun (pre : List Int) v => True)) _) (ownFrom_below (Nat.le_refl _) (by simp)))
    (fun _ _ _ _ _ hs _ _ => hs)
    ⟨⟨_, bO, World.ownsRow_nil _ _ _ _, trivial⟩, hB0⟩
    (fun x => { tmps := #[.slice none 0 0, .func (.func 92) #[] #[.pointer (some ⟨Bm, 0, none⟩)], .pointer (some ⟨w.heap.size, 0, none⟩), undef, .slice none 0 0, .int .u64 x, .func (.func 92) #[] #[.pointer (some ⟨Bm, 0, none⟩)], .int .u64 x, undef, undef, undef, undef, undef], defers := [] }) ?assign ?body ?done ?stop
  case assign =>
    intro l x W K hK
    gi_wp2
    exact hK
  case body =>
    rintro l pre x W ⟨⟨v, hv, hrow, _⟩, hB⟩ hlt
    have hc := hv.cell
    gi_wp2_with (gi_at_builtin; refine wpListIn_append_own _ rfl _ _ 98 rfl w.heap.size 22 i0 (.int .u64 0) 1 8 Tryz.underlying98 hi hz0 hz1 hz2 rfl (by decide) _ _ _ rfl (hrow.alloc _) ⟨W.heap.size, 0, none⟩ 1 1 [.int .u64 x] rfl rfl (cell_one_new _ _ _) (by simp [Value.oneCell']) (by omega) (by omega) (by have := hB.size; simp; omega) ?_; intro v' w1 hown' hgrow _; obtain ⟨g', cap', rfl⟩ := ownsRow_succ hown'; obtain ⟨hv1, hv2, hr2, hk2, hb2⟩ := hv.appended (by decide) hrow hB.size (Nat.le_refl _) hown' hgrow; have hc1 := hv1.cell; have hf1 := hv1.frozen)
    exact ⟨hk2.from _, hk2.walks, ⟨_, hv2, by simpa using hr2, trivial⟩, hB.trans hb2⟩
  case done =>
    rintro D ys W hD ⟨hnd, hmem⟩ ⟨⟨v, hv, hrow, _⟩, hB⟩ hK
    have hc := hv.cell
    gi_wp2
    refine ⟨by simp, .inl ⟨_, _, rfl, run_takeDeferred hK, ?_⟩⟩
    exact ⟨_, results_tmp rfl _ _ _, v, ys, rfl, ownsRow_putObj hrow _ hK rfl, hnd, hmem, hB.trans (belowK_b (w := w) (Nat.le_refl _) W D _ _ (by simp at hD; omega) hK rfl rfl)⟩
  case stop =>
    rintro D c pre W _ _ h _
    exact h.elim
end Go.Proofs.YtofgajlpdnokdaaGreatDoor

/- Collecting, and sorting at most two keys. -/
namespace Go.Proofs.YtofgajlpdnokdaaGreatDoor
set_option linter.unusedVariables false
open Go.RowKit Go.Maps Go.Shelf

theorem slCollect_any {H : Type} (Bm b nn : Nat) (D0 : DataW H) {R : Value → Option (DataW H × List MemPlace)} (w : World) (hmax : Maps.size D0 < maxLen) (hbytes : Maps.size D0 * 8 + 8 ≤ 140737488355328)
    (hBm : Bm < w.heap.size) (hm : w.cell? ⟨Bm, 0, none⟩ = some (.map (some b))) (hown : w.ownsMap Tryz.prog 22 R b nn D0) :
    Calls Tryz.prog 90 #[.func (.func 92) #[] #[.pointer (some ⟨Bm, 0, none⟩)]] w fun e W' => ∃ (v : Value) (ss : List Int), e = .returned v ∧ W'.ownsRow w.heap.size 22 1 v ss.length (ss.map (Value.int .u64)) ∧ ss.Nodup ∧ (∀ x, x ∈ ss ↔ has D0 (.int .u64 x) = true) ∧ Below w.heap.size w W' := by
  have C := hide (callsIn_wide.1 (appSeq_in Fence.wide 3 trivial trivial rfl (by omega) Bm b nn D0 w hmax hbytes hBm hm hown))
  clear hmax hbytes hBm hm hown
  go_enter Tryz.func90, Tryz.ntmps90
  go_wp2_with fail
  refine (C.out).mono ?_
  rintro e w1 ⟨v, ss, rfl, h1, h2, h3, h4⟩
  have HH := hide (And.intro h1 (And.intro h2 (And.intro h3 h4)))
  clear h1 h2 h3 h4
  go_wp2
  go_ret
  exact ⟨v, ss, rfl, HH.out.1, HH.out.2.1, HH.out.2.2.1, HH.out.2.2.2⟩

def sort2 : List Int → List Int
  | [x, y] => if y < x then [y, x] else [x, y]
  | l => l

set_option maxRecDepth 100000 in
theorem slIns_0 (a : Option Addr) (cap : Nat) (k : Int) (hk : k ≤ 1) (h0 : 0 ≤ k) (w : World) : Calls Tryz.prog 100 #[.slice a k.toNat cap, .int .i64 0, .int .i64 k] w fun e w' => (∃ r, e = .returned r) ∧ w = w' := by
  go_enter Tryz.func100, Tryz.ntmps100
  go_wp2
  refine wp_loop_rounds 1 ?_
  rw [rounds_succ]
  go_wp2
  go_end0
  exact ⟨⟨_, rfl⟩, rfl⟩

set_option maxRecDepth 100000 in
theorem slPdq_0 (a : Option Addr) (cap : Nat) (k lim : Int) (hk : k ≤ 1) (h0 : 0 ≤ k) (w : World) : Calls Tryz.prog 98 #[.slice a k.toNat cap, .int .i64 0, .int .i64 k, .int .i64 lim] w fun e w' => (∃ r, e = .returned r) ∧ w = w' := by
  go_enter Tryz.func98, Tryz.ntmps98
  go_wp2
  refine wp_loop_rounds 1 ?_
  rw [rounds_succ]
  go_wp2_with (go_at_call 100; refine (slIns_0 _ _ _ hk h0 _).mono ?_; rintro e w1 ⟨⟨r, rfl⟩, rfl⟩)
  refine bodyPost_ret (results_none rfl _ _ _) rfl ?_
  exact ⟨⟨_, rfl⟩, rfl⟩

theorem cmpLess_any (x y : Int) (w : World) : Calls Tryz.prog 106 #[.int .u64 x, .int .u64 y] w fun e w' => e = .returned (.bool (decide (x < y))) ∧ w = w' := by
  go_enter Tryz.func106, Tryz.ntmps106
  go_wp2
  go_ret
  exact ⟨rfl, rfl⟩

set_option maxRecDepth 100000 in
theorem slIns_2 (g cap : Nat) (x y : Int) (w : World) (hx : w.cell? ⟨g, 0, none⟩ = some (.int .u64 x)) (hy : w.cell? ⟨g, 1, none⟩ = some (.int .u64 y)) (hf : ∀ i, w.frozen? ⟨g, i, none⟩ = false) (hlt : x ≤ y) :
    Calls Tryz.prog 100 #[.slice (some ⟨g, 0, none⟩) 2 cap, .int .i64 0, .int .i64 2] w fun e w' => (∃ r, e = .returned r) ∧ Chg NoChg w w' := by
  have L := hide (cmpLess_any y x)
  have hd : decide (y < x) = false := by simp; omega
  rw [hd] at L
  clear hlt hd
  go_enter Tryz.func100, Tryz.ntmps100
  go_wp2
  refine wp_loop_rounds 2 ?_
  rw [rounds_succ]
  go_wp2
  refine wp_loop_rounds 1 ?_
  rw [rounds_succ]
  go_wp2
  go_quiet ((go_at_call 106; exact quiet_same (L.out _)))
  go_wp2
  rw [rounds_succ]
  go_wp2
  go_end0
  refine ⟨⟨_, rfl⟩, ?_⟩
  (repeat' (first | (with_reducible exact Chg.refl _ _) | (with_reducible assumption) | (with_reducible refine Chg.alloc ?_ _) | (with_reducible refine Chg.drewN ?_ _) | (with_reducible refine Chg.drew ?_) | (with_reducible refine Chg.setCell ?_ _ ?_) | (apply Or.inl; with_reducible rfl) | (apply Or.inl; simp; done) | (apply Or.inr; simp; done) | (apply Or.inr; simp; omega)))

set_option maxRecDepth 100000 in
theorem slIns_2s (g cap : Nat) (x y : Int) (w : World) (hx : w.cell? ⟨g, 0, none⟩ = some (.int .u64 x)) (hy : w.cell? ⟨g, 1, none⟩ = some (.int .u64 y)) (hf : ∀ i, w.frozen? ⟨g, i, none⟩ = false) (hlt : y < x) :
    Calls Tryz.prog 100 #[.slice (some ⟨g, 0, none⟩) 2 cap, .int .i64 0, .int .i64 2] w fun e w' => (∃ r, e = .returned r) ∧ ∃ n m, (((w.drewN n).setCell ⟨g, 1, none⟩ (.int .u64 x)).setCell ⟨g, 0, none⟩ (.int .u64 y)).drewN m = w' := by
  have L := hide (cmpLess_any y x)
  have hd : decide (y < x) = true := by simp; omega
  rw [hd] at L
  clear hlt hd
  go_enter Tryz.func100, Tryz.ntmps100
  go_wp2
  refine wp_loop_rounds 2 ?_
  rw [rounds_succ]
  go_wp2
  refine wp_loop_rounds 2 ?_
  rw [rounds_succ]
  go_wp2
  go_quiet ((go_at_call 106; exact quiet_same (L.out _)))
  go_wp2
  go_region
  all_goals go_wp2
  rw [rounds_succ]
  go_wp2
  go_quiet (fail)
  go_wp2
  rw [rounds_succ]
  go_wp2
  go_end0
  exact ⟨⟨_, rfl⟩, _, _, rfl⟩

/-- Sorting two keys in their block. -/
theorem slIns_two (g cap : Nat) (x y : Int) (t : TypeId) (cs : List Value) (w : World) (hb : Blk w g (.int .u64 x :: .int .u64 y :: cs).toArray t) :
    Calls Tryz.prog 100 #[.slice (some ⟨g, 0, none⟩) 2 cap, .int .i64 0, .int .i64 2] w fun e w' => (∃ r, e = .returned r) ∧ Blk w' g (.int .u64 (min x y) :: .int .u64 (max x y) :: cs).toArray t ∧ Chg (fun k => k = g) w w' := by
  rcases Int.lt_or_le y x with h | h
  · refine (slIns_2s g cap x y w (hb.cell 0) (hb.cell 1) hb.frozen h).mono fun e w' hw => ?_
    obtain ⟨h1, n, m, rfl⟩ := hw
    refine ⟨h1, ?_, ?_⟩
    · rw [Int.min_eq_right (Int.le_of_lt h), Int.max_eq_left (Int.le_of_lt h)]
      exact (((hb.drewN n).set' 1 _ rfl).set' 0 _ rfl).drewN m
    · (repeat' (first | (with_reducible exact Chg.refl _ _) | (with_reducible assumption) | (with_reducible refine Chg.alloc ?_ _) | (with_reducible refine Chg.drewN ?_ _) | (with_reducible refine Chg.drew ?_) | (with_reducible refine Chg.setCell ?_ _ ?_) | (apply Or.inl; with_reducible rfl) | (apply Or.inl; simp; done) | (apply Or.inr; simp; done) | (apply Or.inr; simp; omega)))
  · refine (slIns_2 g cap x y w (hb.cell 0) (hb.cell 1) hb.frozen h).mono fun e w' hw => ?_
    rw [Int.min_eq_left h, Int.max_eq_right h]
    exact ⟨hw.1, hw.2.blk hb (fun h => h), hw.2.mono fun k h => h.elim⟩

set_option maxRecDepth 100000 in
theorem slPdq_two (g cap : Nat) (x y lim : Int) (t : TypeId) (cs : List Value) (w : World) (hb : Blk w g (.int .u64 x :: .int .u64 y :: cs).toArray t) :
    Calls Tryz.prog 98 #[.slice (some ⟨g, 0, none⟩) 2 cap, .int .i64 0, .int .i64 2, .int .i64 lim] w fun e w' => (∃ r, e = .returned r) ∧ Blk w' g (.int .u64 (min x y) :: .int .u64 (max x y) :: cs).toArray t ∧ Chg (fun k => k = g) w w' := by
  have I := hide (slIns_two g cap x y t cs w hb)
  clear hb
  go_enter Tryz.func98, Tryz.ntmps98
  go_wp2
  refine wp_loop_rounds 1 ?_
  rw [rounds_succ]
  go_wp2_with (go_at_call 100; refine (I.out).mono ?_; rintro e w1 ⟨⟨r, rfl⟩, h1, h2⟩; have H := hide (And.intro h1 h2); clear h1 h2)
  refine bodyPost_ret (results_none rfl _ _ _) rfl ?_
  exact ⟨⟨_, rfl⟩, H.out.1, H.out.2⟩

set_option maxRecDepth 100000 in
theorem bLen_few (k : Nat) (hk : k ≤ 2) (w : World) : Calls Tryz.prog 99 #[.int .u64 (k : Int)] w fun e w' => (∃ r, e = .returned (.int .i64 r)) ∧ w = w' := by
  obtain rfl | rfl | rfl : k = 0 ∨ k = 1 ∨ k = 2 := by omega
  all_goals
    go_enter Tryz.func99, Tryz.ntmps99
    go_wp2
    go_ret
    exact ⟨⟨_, rfl⟩, rfl⟩

set_option maxRecDepth 100000 in
theorem slSort_few (a : Option Addr) (cap k : Nat) (hk : k ≤ 1) (w : World) : Calls Tryz.prog 91 #[.slice a k cap] w fun e w' => (∃ r, e = .returned r) ∧ w = w' := by
  obtain rfl | rfl : k = 0 ∨ k = 1 := by omega
  · have P := hide (fun lim w => slPdq_0 a cap 0 lim (by omega) (by omega) w)
    go_enter Tryz.func91, Tryz.ntmps91
    go_wp2_with fail
    refine (bLen_few 0 (by omega) _).mono ?_
    rintro e w0 ⟨⟨lim, rfl⟩, rfl⟩
    go_wp2_with fail
    refine (P.out _ _).mono ?_
    rintro e w1 ⟨⟨r, rfl⟩, rfl⟩
    go_wp2
    go_end0
    exact ⟨⟨_, rfl⟩, rfl⟩
  · have P := hide (fun lim w => slPdq_0 a cap 1 lim (by omega) (by omega) w)
    go_enter Tryz.func91, Tryz.ntmps91
    go_wp2_with fail
    refine (bLen_few 1 (by omega) _).mono ?_
    rintro e w0 ⟨⟨lim, rfl⟩, rfl⟩
    go_wp2_with fail
    refine (P.out _ _).mono ?_
    rintro e w1 ⟨⟨r, rfl⟩, rfl⟩
    go_wp2
    go_end0
    exact ⟨⟨_, rfl⟩, rfl⟩

set_option maxRecDepth 100000 in
theorem slSort_two (g cap : Nat) (x y : Int) (t : TypeId) (cs : List Value) (w : World) (hb : Blk w g (.int .u64 x :: .int .u64 y :: cs).toArray t) :
    Calls Tryz.prog 91 #[.slice (some ⟨g, 0, none⟩) 2 cap] w fun e w' => (∃ r, e = .returned r) ∧ Blk w' g (.int .u64 (min x y) :: .int .u64 (max x y) :: cs).toArray t ∧ Chg (fun k => k = g) w w' := by
  have P := hide (fun lim => slPdq_two g cap x y lim t cs w hb)
  clear hb
  go_enter Tryz.func91, Tryz.ntmps91
  go_wp2_with fail
  refine (bLen_few 2 (by omega) _).mono ?_
  rintro e w0 ⟨⟨lim, rfl⟩, rfl⟩
  go_wp2_with fail
  refine (P.out _).mono ?_
  rintro e w1 ⟨⟨r, rfl⟩, h1, h2⟩
  have H := hide (And.intro h1 h2)
  clear h1 h2
  go_wp2
  go_end0
  exact ⟨⟨_, rfl⟩, H.out.1, H.out.2⟩
end Go.Proofs.YtofgajlpdnokdaaGreatDoor

/- The keys of a map of at most two. -/
namespace Go.Proofs.YtofgajlpdnokdaaGreatDoor
set_option linter.unusedVariables false
open Go.RowKit Go.Maps Go.Shelf

theorem ownsRow_slice {w : World} {base : Nat} {e : TypeId} {sz : Nat} {v : Value} {n : Nat} {xs : List Value} (h : w.ownsRow base e sz v n xs) : ∃ a cap, v = .slice a n cap := by
  rcases h.2 with ⟨rfl, h0⟩ | ⟨g, cap, cur, rfl, _⟩
  · exact ⟨none, 0, by rw [h0]⟩
  · exact ⟨_, cap, rfl⟩

theorem ownsRow_two {w : World} {base : Nat} {e : TypeId} {v : Value} {x y : Value} (h : w.ownsRow base e 1 v 2 [x, y]) : ∃ g cap cs, v = .slice (some ⟨g, 0, none⟩) 2 cap ∧ base ≤ g ∧ Blk w g (x :: y :: cs).toArray e ∧
    ∀ (w' : World) (x' y' : Value), Blk w' g (x' :: y' :: cs).toArray e → w'.ownsRow base e 1 v 2 [x', y'] := by
  rcases h.2 with ⟨_, h0⟩ | ⟨g, cap, cur, rfl, hb, hh, hn, hc, hs, ht⟩
  · cases h0
  · have e1 : cur.toList = x :: y :: cur.toList.drop 2 := by
      have := List.take_append_drop 2 cur.toList
      rw [Nat.mul_one] at ht
      rw [ht] at this
      exact this.symm
    refine ⟨g, cap, cur.toList.drop 2, rfl, hb, ?_, fun w' x' y' hw => ?_⟩
    · unfold Blk
      rw [hh, ← e1]
    · refine ⟨rfl, .inr ⟨g, cap, (x' :: y' :: cur.toList.drop 2).toArray, rfl, hb, hw, hn, hc, ?_, ?_⟩⟩
      · have h2 : cur.size = cap * 1 := hs
        simp
        omega
      · simp

theorem slSorted_few {H : Type} (Bm b nn : Nat) (D0 : DataW H) {R : Value → Option (DataW H × List MemPlace)} (w : World) (hmax : Maps.size D0 < maxLen) (hbytes : Maps.size D0 * 8 + 8 ≤ 140737488355328)
    (hfew : ∀ ss : List Int, ss.Nodup → (∀ x, x ∈ ss ↔ has D0 (.int .u64 x) = true) → ss.length ≤ 2)
    (hBm : Bm < w.heap.size) (hm : w.cell? ⟨Bm, 0, none⟩ = some (.map (some b))) (hown : w.ownsMap Tryz.prog 22 R b nn D0) :
    Calls Tryz.prog 76 #[.func (.func 92) #[] #[.pointer (some ⟨Bm, 0, none⟩)]] w fun e W' => ∃ (v : Value) (ss : List Int), e = .returned v ∧ W'.ownsRow w.heap.size 22 1 v ss.length (ss.map (Value.int .u64)) ∧ ss.length ≤ 2 ∧ (∀ x, x ∈ ss ↔ has D0 (.int .u64 x) = true) ∧ Below w.heap.size w W' := by
  have C := hide (slCollect_any Bm b nn D0 w hmax hbytes hBm hm hown)
  clear hmax hbytes hBm hm hown
  go_enter Tryz.func76, Tryz.ntmps76
  go_wp2_with fail
  refine (C.out).mono ?_
  rintro e w1 ⟨v, ss, rfl, h1, h2, h3, h4⟩
  have hl := hfew ss h2 h3
  obtain ⟨a, cap, rfl⟩ := ownsRow_slice h1
  match ss, hl with
  | [], _ =>
    have S := hide (slSort_few a cap 0 (by omega) w1)
    have HH := hide (And.intro h1 (And.intro h3 h4))
    clear h1 h2 h3 h4
    go_wp2_with fail
    refine (S.out).mono ?_
    rintro e w2 ⟨⟨r, rfl⟩, rfl⟩
    go_wp2
    go_ret
    exact ⟨_, [], rfl, HH.out.1, by simp, HH.out.2.1, HH.out.2.2⟩
  | [x], _ =>
    have S := hide (slSort_few a cap 1 (by omega) w1)
    have HH := hide (And.intro h1 (And.intro h3 h4))
    clear h1 h2 h3 h4
    go_wp2_with fail
    refine (S.out).mono ?_
    rintro e w2 ⟨⟨r, rfl⟩, rfl⟩
    go_wp2
    go_ret
    exact ⟨_, [x], rfl, HH.out.1, by simp, HH.out.2.1, HH.out.2.2⟩
  | [x, y], _ =>
    obtain ⟨g, cap', cs, hv, hb, hB, hback⟩ := ownsRow_two h1
    injection hv with e1 e2 e3
    subst e1 e3
    have S := hide (slSort_two g cap x y _ cs w1 hB)
    have HH := hide (And.intro hback (And.intro h3 (And.intro h4 hb)))
    clear h1 h2 h3 h4 hB hback hb
    go_wp2_with fail
    refine (S.out).mono ?_
    rintro e w2 ⟨⟨r, rfl⟩, s1, s2⟩
    have HS := hide (And.intro s1 s2)
    clear s1 s2
    go_wp2
    go_ret
    refine ⟨_, [min x y, max x y], rfl, HH.out.1 _ _ _ HS.out.1, by simp, fun z => ?_, ?_⟩
    · rw [← HH.out.2.1 z]
      simp only [List.mem_cons, List.not_mem_nil, or_false]
      omega
    · refine HH.out.2.2.1.trans (HS.out.2.toBelow (B := w.heap.size) HH.out.2.2.1.size (fun k hk => by have := HH.out.2.2.2; have hk2 : k = g := hk; omega))
end Go.Proofs.YtofgajlpdnokdaaGreatDoor

/- Sums of curves that may be, at a tick. -/
namespace Go.Proofs.YtofgajlpdnokdaaGreatDoor
set_option linter.unusedVariables false
open Go.RowKit
attribute [local go_sem] yieldC

theorem slDelete_none (l : List Crv) (a : Option Addr) (cap : Nat) (w : World) (hrow : RowAt Crv.cells 3 w a l) (hl : l.length ≤ 1000) (hm : ∀ c ∈ l, c.May) :
    Calls Tryz.prog 43 #[.slice a l.length cap, .func (.func 45) #[] #[]] w fun e w' => e = .returned (.slice a l.length cap) ∧ Chg NoChg w w' := by
  have I := hide (slIndex_none l a cap w hrow hl hm)
  clear hrow hm
  go_enter Tryz.func43, Tryz.ntmps43
  go_wp2_with fail
  refine (I.out).mono ?_
  rintro e w1 ⟨rfl, c1⟩
  have C := hide c1
  clear c1
  go_wp2
  go_ret
  exact ⟨rfl, C.out⟩

theorem sumsMay_all (l : List Crv) (ad : Addr) (cap : Nat) (w : World) (hrow : RowAt Crv.cells 3 w (some ad) l) (hl : l.length ≤ 1000) (h0 : l ≠ []) (hm : ∀ c ∈ l, c.May) :
    Calls Tryz.prog 29 #[.slice (some ad) l.length cap] w fun e w' => ∃ v, e = .returned v ∧ Own Crv.cells 3 24 w' v l ∧ Chg NoChg w w' ∧ ∀ k, v.ownBlock = some k → w.heap.size ≤ k := by
  have C := hide (slClone_any l ad cap w hrow hl h0)
  have D := hide (fun a cap w (h : RowAt Crv.cells 3 w a l) => slDelete_none l a cap w h hl hm)
  clear hrow h0 hm
  go_enter Tryz.func29, Tryz.ntmps29
  go_wp2_with fail
  refine (C.out).mono ?_
  rintro e w1 ⟨v, rfl, h1, h2, h3⟩
  have R := h1.row Crv.cells_length
  obtain ⟨a1, cap1, rfl, hc1, hn1, hrow1⟩ := R
  have DD := hide (D.out a1 cap1 w1 hrow1)
  have HH := hide (And.intro h1 (And.intro h2 h3))
  clear h1 h2 h3 hrow1 hn1 hc1
  go_wp2_with fail
  refine (DD.out).mono ?_
  rintro e w2 ⟨rfl, c2⟩
  have HC := hide c2
  clear c2
  go_wp2
  go_ret
  exact ⟨_, rfl, HH.out.1.keep HC.out (fun _ _ h => h), HH.out.2.1.trans' HC.out, HH.out.2.2⟩

theorem sPlus_any (m n : Nat) (w : World) (h : m + n < 340282366920938463463374607431768211456) :
    Calls Tryz.prog 30 #[.agg #[.int .u64 ((m / 18446744073709551616 : Nat) : Int), .int .u64 ((m % 18446744073709551616 : Nat) : Int)], .agg #[.int .u64 ((n / 18446744073709551616 : Nat) : Int), .int .u64 ((n % 18446744073709551616 : Nat) : Int)]] w
      fun e w' => e = .returned (.agg #[.int .u64 (((m + n) / 18446744073709551616 : Nat) : Int), .int .u64 (((m + n) % 18446744073709551616 : Nat) : Int)]) ∧ Chg NoChg w w' := by
  have P := hide (fun w => wPlus_any m n w h)
  clear h
  generalize (((m + n) / 18446744073709551616 : Nat) : Int) = x1 at P ⊢
  generalize (((m + n) % 18446744073709551616 : Nat) : Int) = x2 at P ⊢
  generalize ((m / 18446744073709551616 : Nat) : Int) = x3 at P ⊢
  generalize ((m % 18446744073709551616 : Nat) : Int) = x4 at P ⊢
  generalize ((n / 18446744073709551616 : Nat) : Int) = x5 at P ⊢
  generalize ((n % 18446744073709551616 : Nat) : Int) = x6 at P ⊢
  go_enter Tryz.func30, Tryz.ntmps30
  go_wp2_with fail
  refine (P.out _).mono ?_
  rintro e w1 ⟨rfl, c1⟩
  have q := c1.blk (Blk.new' (w := (w.alloc (.cells #[.int .u64 x3, .int .u64 x4] 38)).alloc (.cells #[.int .u64 x5, .int .u64 x6] 38)) (n := w.heap.size + 1 + 1) #[.int .u64 0, .int .u64 0] 38 (by simp)) (fun h => h)
  have C1 := hide (((((Chg.refl NoChg w).alloc (.cells #[.int .u64 x3, .int .u64 x4] 38)).alloc (.cells #[.int .u64 x5, .int .u64 x6] 38)).alloc (.cells #[.int .u64 0, .int .u64 0] 38)).trans' c1)
  have ql := q.lt
  have k0 := q.cell 0
  have k1 := q.cell 1
  have kf := q.frozen
  simp at k0 k1
  clear q c1
  go_wp2
  refine bodyPost_ret (v := .agg #[.int .u64 x1, .int .u64 x2]) (by simp [results, Tryz.results30, go_sem, k0, k1, ql]) rfl ⟨rfl, ?_⟩
  have c1 := C1.out
  (repeat' (first | (with_reducible exact Chg.refl _ _) | (with_reducible assumption) | (with_reducible refine Chg.alloc ?_ _) | (with_reducible refine Chg.drewN ?_ _) | (with_reducible refine Chg.drew ?_) | (with_reducible refine Chg.setCell ?_ _ ?_) | (apply Or.inl; with_reducible rfl) | (apply Or.inl; simp; done) | (apply Or.inr; simp; done) | (apply Or.inr; simp; omega)))

def Crv.sum (l : List Crv) (t : Nat) : Nat := (l.map fun c => c.at t).sum

theorem Crv.sum_succ (l : List Crv) (t k : Nat) (h : k < l.length) : Crv.sum (l.take (k + 1)) t = Crv.sum (l.take k) t + l[k].at t := by
  simp only [Crv.sum, List.take_succ_eq_append_getElem h, List.map_append, List.sum_append]
  simp

theorem Crv.sum_le (l : List Crv) (t : Nat) (ht : t < 18446744073709551616) (hm : ∀ c ∈ l, c.May) : Crv.sum l t ≤ l.length * 38685626227668133590597632 := by
  induction l with
  | nil => simp [Crv.sum]
  | cons c l ih =>
    have h1 := ih (fun c hc => hm c (by simp [hc]))
    have h2 := c.at_le (hm c (by simp)) t ht
    have h3 : c.at t ≤ 38685626227668133590597632 := by unfold Crv.at; omega
    simp only [Crv.sum, List.map_cons, List.sum_cons, List.length_cons] at *
    omega

set_option maxRecDepth 100000 in
set_option maxHeartbeats 2000000 in
theorem sAt_may (l : List Crv) (ad : Addr) (cap : Nat) (t : Nat) (w : World) (hrow : RowAt Crv.cells 3 w (some ad) l) (hl : l.length ≤ 1000) (h0 : l ≠ []) (hm : ∀ c ∈ l, c.May) (ht : t < 18446744073709551616) :
    Calls Tryz.prog 13 #[.slice (some ad) l.length cap, .int .u64 (t : Int)] w fun e w' => e = .returned (.agg #[.int .u64 ((Crv.sum l t / 18446744073709551616 : Nat) : Int), .int .u64 ((Crv.sum l t % 18446744073709551616 : Nat) : Int)]) ∧ Chg NoChg w w' := by
  have M := hide (fun w' (c : Chg NoChg w w') => sumsMay_all l ad cap w' (hrow.keep c (fun _ _ h => h)) hl h0 hm)
  have HM := hide hm
  have HSL := hide (fun k (h : k ≤ l.length) => Crv.sum_le (l.take k) t ht (fun c hc => hm c (List.mem_of_mem_take hc)))
  have HT := hide ht
  clear hrow h0 hm
  go_enter Tryz.func13, Tryz.ntmps13
  go_wp2_with fail
  refine (M.out _ (by (repeat' (first | (with_reducible exact Chg.refl _ _) | (with_reducible assumption) | (with_reducible refine Chg.alloc ?_ _) | (with_reducible refine Chg.drewN ?_ _) | (with_reducible refine Chg.drew ?_) | (with_reducible refine Chg.setCell ?_ _ ?_) | (apply Or.inl; with_reducible rfl) | (apply Or.inl; simp; done) | (apply Or.inr; simp; done) | (apply Or.inr; simp; omega))))).mono ?_
  rintro e w1 ⟨v, rfl, h1, h2, h3⟩
  have R := h1.row Crv.cells_length
  obtain ⟨a1, cap1, rfl, hc1, hn1, hrow1⟩ := R
  have HC2 := hide h2
  have B1 := hide (h2.blk (Blk.new' (w := w.alloc (.cells #[.int .u64 0, .int .u64 0] 38)) (n := w.heap.size + 1) #[.int .u64 0, .int .u64 0] 38 (by simp)) (fun h => h))
  have HR := hide (And.intro h1 h3)
  clear h1 h2 h3 hrow1 hn1 hc1
  have B0 := hide (HC2.out.blk ((Blk.new w #[.int .u64 0, .int .u64 0] 38).alloc (.cells #[.int .u64 0, .int .u64 0] 38)) (fun h => h))
  go_wp2
  go_loopw [7, 8, 12] (fun _ _ i wr => ∃ (k : Nat) (hi lo : Int), k ≤ l.length ∧ i = .int .i64 k ∧ Blk wr (w.heap.size + 1) #[.int .u64 hi, .int .u64 lo] 38 ∧ Chg (fun b => b = w.heap.size + 1) w1 wr ∧ Hid (hi = ((Crv.sum (l.take k) t / 18446744073709551616 : Nat) : Int) ∧ lo = ((Crv.sum (l.take k) t % 18446744073709551616 : Nat) : Int))) (fun _ _ i _ => l.length - (intOf i).toNat)
  case atStart => exact ⟨0, 0, 0, by omega, rfl, B1.out, Chg.refl _ _, hide ⟨by simp [Crv.sum], by simp [Crv.sum]⟩⟩
  case round =>
    obtain ⟨k, hi, lo, hk, rfl, hb, hc, HV⟩ := hrel
    rename_i wr
    by_cases hlt : k < l.length
    · have hown : Own Crv.cells 3 24 wr (.slice a1 l.length cap1) l := HR.out.1.keep hc (fun j hj e => by have := HR.out.2 j hj; simp at this; omega)
      obtain ⟨a2, cap2, e2, _, _, hrow2⟩ := hown.row Crv.cells_length
      injection e2 with e21 e22 e23
      subst e21 e23
      obtain ⟨g, o, rfl, hj⟩ := hrow2 k hlt
      have hmc := HM.out l[k] (List.getElem_mem hlt)
      have hs := Crv.sum_succ l t k hlt
      have hs1 := HSL.out k hk
      have hs2 := HSL.out (k + 1) hlt
      have hl1 : (l.take k).length ≤ 1000 := by rw [List.length_take]; omega
      have hl2 : (l.take (k + 1)).length ≤ 1000 := by rw [List.length_take]; omega
      generalize l[k] = c at hj hmc hs
      have e0 := hj 0 _ rfl
      have e1 := hj 1 _ rfl
      have e2 := hj 2 _ rfl
      simp only [Nat.add_zero] at e0
      have k0 : (0 : Int) ≤ (k : Int) := by omega
      have k1 : (k : Int) < (l.length : Int) := by omega
      -- what the round reckons, each number under a name
      obtain ⟨n, hn⟩ : ∃ n, min t c.l = n := ⟨_, rfl⟩
      obtain ⟨d, hd⟩ : ∃ d, t - n = d := ⟨_, rfl⟩
      have hat : c.at t = c.f * n + c.r * d := by
        unfold Crv.at
        rw [hn, hd]
      have hal := c.at_le hmc t HT.out
      rw [hn, hd] at hal
      have ht := HT.out
      have hf1 := hmc.hf
      have hf2 := hmc.hr
      have hf3 := hmc.hl
      have M1 := fun w' => wMul_any c.f n w' (by omega) (by omega)
      have M2 := fun w' => wMul_any c.r d w' (by omega) (by omega)
      have P1 := fun w' => sPlus_any (c.f * n) (c.r * d) w' (by omega)
      have P2 := fun w' => sPlus_any (Crv.sum (l.take k) t) (c.f * n + c.r * d) w' (by omega)
      rw [← HV.out.1, ← HV.out.2] at P2
      rw [← hat, ← hs] at P2
      have hsub : IntKind.u64.wrap ((t : Int) - (n : Int)) = (d : Int) := by rw [wraps_u64 _ (by omega) (by omega)]; omega
      have HN := hide hn
      clear hn hal hf1 hf2 hf3 hs hs1 hs2 hl1 hl2 hd
      obtain ⟨r1, hr1⟩ : ∃ r1, ((Crv.sum (l.take (k + 1)) t / 18446744073709551616 : Nat) : Int) = r1 := ⟨_, rfl⟩
      obtain ⟨r2, hr2⟩ : ∃ r2, ((Crv.sum (l.take (k + 1)) t % 18446744073709551616 : Nat) : Int) = r2 := ⟨_, rfl⟩
      rw [hr1, hr2] at P2
      rw [hat] at P2
      have HRR := hide (And.intro hr1.symm hr2.symm)
      clear hr1 hr2 hat
      generalize ((c.f * n / 18446744073709551616 : Nat) : Int) = x1 at M1 P1
      generalize ((c.f * n % 18446744073709551616 : Nat) : Int) = x2 at M1 P1
      generalize ((c.r * d / 18446744073709551616 : Nat) : Int) = y1 at M2 P1
      generalize ((c.r * d % 18446744073709551616 : Nat) : Int) = y2 at M2 P1
      generalize (((c.f * n + c.r * d) / 18446744073709551616 : Nat) : Int) = z1 at P1 P2
      generalize (((c.f * n + c.r * d) % 18446744073709551616 : Nat) : Int) = z2 at P1 P2
      have HM1 := hide M1
      have HM2 := hide M2
      have HP1 := hide P1
      have HP2 := hide P2
      have HSUB := hide hsub
      have HB := hide (And.intro hb hc)
      have HMC := hide hmc
      have G0 : ∀ x, Chg NoChg (wr.alloc (.cells #[.int .u64 (c.f : Int), .int .u64 (c.l : Int), .int .u64 (c.r : Int)] 24)) (graft NoChg (wr.alloc (.cells #[.int .u64 (c.f : Int), .int .u64 (c.l : Int), .int .u64 (c.r : Int)] 24)) x) := fun x => chg_graft _ _ _
      have g1 := fun x => (fun h => ((h.blk (hb.alloc _) (fun h => h))).cell 0) (G0 x)
      have g2 := fun x => (fun h => ((h.blk (hb.alloc _) (fun h => h))).cell 1) (G0 x)
      have g3 := fun x => (fun h => ((h.blk (Blk.new wr #[.int .u64 (c.f : Int), .int .u64 (c.l : Int), .int .u64 (c.r : Int)] 24) (fun h => h))).cell 0) (G0 x)
      have g4 := fun x => (fun h => ((h.blk (Blk.new wr #[.int .u64 (c.f : Int), .int .u64 (c.l : Int), .int .u64 (c.r : Int)] 24) (fun h => h))).cell 1) (G0 x)
      have g5 := fun x => (fun h => ((h.blk (Blk.new wr #[.int .u64 (c.f : Int), .int .u64 (c.l : Int), .int .u64 (c.r : Int)] 24) (fun h => h))).cell 2) (G0 x)
      have KEEP := hide (fun (w' : World) (h : Chg NoChg (wr.alloc (.cells #[.int .u64 (c.f : Int), .int .u64 (c.l : Int), .int .u64 (c.r : Int)] 24)) w') => And.intro (((h.blk (hb.alloc _) (fun h => h))).frozen 0) (And.intro (((h.blk (hb.alloc _) (fun h => h))).frozen 1) (And.intro (((h.blk (hb.alloc _) (fun h => h))).cell 0) (((h.blk (hb.alloc _) (fun h => h))).cell 1))))
      simp at g1 g2 g3 g4 g5 KEEP
      have hzz := hb.lt
      clear hb hc hmc hown hrow2 hj M1 M2 P1 P2 hsub ht
      go_upto_region 5 with (fail)
      go_cut [8] (fun s8 wx => s8 = .int .u64 (n : Int) ∧ wx = wr.alloc (.cells #[.int .u64 (c.f : Int), .int .u64 (c.l : Int), .int .u64 (c.r : Int)] 24))
      case first =>
        go_wp2
        all_goals go_meet
        all_goals exact ⟨by rw [← HN.out]; congr 1; omega, rfl⟩
      case rest =>
        obtain ⟨rfl, rfl⟩ := hcut
        go_wp2
        have hsub := HSUB.out
        refine wp_region_ord [3, 7, 8] [0, 1, 2, 5, 6, 9] [4, 10, 11, 12] [13] (graft (NoChg) (wr.alloc (.cells #[.int .u64 (c.f : Int), .int .u64 (c.l : Int), .int .u64 (c.r : Int)] 24))) (by kernel_rfl) (by kernel_rfl) ?_ (graft_of_chg (by (repeat' (first | (with_reducible exact Chg.refl _ _) | (with_reducible assumption) | (with_reducible refine Chg.alloc ?_ _) | (with_reducible refine Chg.drewN ?_ _) | (with_reducible refine Chg.drew ?_) | (with_reducible refine Chg.setCell ?_ _ ?_) | (apply Or.inl; with_reducible rfl) | (apply Or.inl; simp; done) | (apply Or.inr; simp; done) | (apply Or.inr; simp; omega))))) ?_
        · exact fun _ _ _ _ _ h => h
        simp only [pick, List.getElem?_toArray, List.getElem?_cons_zero, List.getElem?_cons_succ]
        iterate 3 (refine wpYield_step (fun K hK => ?_); go_simp; refine hK _ ?_; clear hK K)
        refine wpYield_nil ?_
        iterate 6 (refine wpYield_step (fun K hK => ?_); go_simp; refine hK _ ?_; clear hK K)
        refine wpYield_nil ?_
        intro _ hw'
        obtain ⟨xo, hw''⟩ := hw'
        subst hw''
        simp only [wpMakes]
        have c3 := chg_graft NoChg (wr.alloc (.cells #[.int .u64 (c.f : Int), .int .u64 (c.l : Int), .int .u64 (c.r : Int)] 24)) xo
        generalize graft NoChg (wr.alloc (.cells #[.int .u64 (c.f : Int), .int .u64 (c.l : Int), .int .u64 (c.r : Int)] 24)) xo = w3 at c3 ⊢
        clear g1 g2 g3 g4 g5 hsub
        go_wp2_with fail
        refine (HM1.out _).mono ?_
        rintro e w4 ⟨rfl, d4⟩
        have c4 := c3.trans' d4
        clear d4 c3
        go_wp2
        refine ⟨graft_of_chg c4, ?_⟩
        go_wp2_with fail
        refine (HM2.out _).mono ?_
        rintro e w5 ⟨rfl, d5⟩
        have c5 := c4.trans' d5
        clear d5 c4
        go_wp2
        refine ⟨graft_of_chg c5, ?_⟩
        go_wp2_with fail
        refine (HP1.out _).mono ?_
        rintro e w6 ⟨rfl, d6⟩
        have c6 := c5.trans' d6
        clear d6 c5
        go_wp2
        refine ⟨graft_of_chg c6, ?_⟩
        go_wp2_with fail
        refine (HP2.out _).mono ?_
        rintro e w7 ⟨rfl, d7⟩
        have c7 := c6.trans' d7
        clear d7 c6
        go_wp2
        refine ⟨graft_of_chg c7, ?_⟩
        have K7 := KEEP.out _ c7
        obtain ⟨f1, f2, f3, f4⟩ := K7
        have C7 := hide c7
        clear c7
        go_wp2
        go_roundw
        case rel =>
          refine ⟨k + 1, r1, r2, by omega, by go_num, ?_, ?_, HRR⟩
          · exact ((C7.out.blk (HB.out.1.alloc _) (fun h => h)).set 0 _).set 1 _
          · have h7 := (((Chg.refl NoChg wr).alloc _).trans' C7.out)
            have h8 := HB.out.2.trans h7 (fun k h => h.elim)
            (repeat' (first | (with_reducible exact Chg.refl _ _) | (with_reducible assumption) | (with_reducible refine Chg.alloc ?_ _) | (with_reducible refine Chg.drewN ?_ _) | (with_reducible refine Chg.drew ?_) | (with_reducible refine Chg.setCell ?_ _ ?_) | (apply Or.inl; with_reducible rfl) | (apply Or.inl; simp; done) | (apply Or.inr; simp; done) | (apply Or.inr; simp; omega)))
        case measure => simp [intOf]; omega
    · obtain rfl : k = l.length := by omega
      rw [List.take_length] at HV
      have c0 := hb.cell 0
      have c1 := hb.cell 1
      have q := hc.blk B0.out (by omega)
      have ql := q.lt
      have q0 := q.cell 0
      have q1 := q.cell 1
      have qf := q.frozen
      simp at c0 c1 q0 q1
      have HB := hide (And.intro hb hc)
      clear hb hc q
      go_wp2
      refine bodyPost_ret (v := .agg #[.int .u64 hi, .int .u64 lo]) (by simp [results, Tryz.results13, go_sem, q0, q1]) rfl ⟨by rw [HV.out.1, HV.out.2], ?_⟩
      have c1 := (((((Chg.refl NoChg w).alloc _).alloc _).trans' HC2.out)).trans HB.out.2 (fun k hk => .inr (by have hk2 : k = w.heap.size + 1 := hk; omega))
      (repeat' (first | (with_reducible exact Chg.refl _ _) | (with_reducible assumption) | (with_reducible refine Chg.alloc ?_ _) | (with_reducible refine Chg.drewN ?_ _) | (with_reducible refine Chg.drew ?_) | (with_reducible refine Chg.setCell ?_ _ ?_) | (apply Or.inl; with_reducible rfl) | (apply Or.inl; simp; done) | (apply Or.inr; simp; done) | (apply Or.inr; simp; omega)))
end Go.Proofs.YtofgajlpdnokdaaGreatDoor

/- The corners of two curves that may be. -/
namespace Go.Proofs.YtofgajlpdnokdaaGreatDoor
set_option linter.unusedVariables false
open Go.RowKit Go.Maps Go.Shelf

theorem zeroInt (w : World) : (zeroValue 3).run Tryz.prog w = .ok (.int .i64 0) w := by kernel_rfl

theorem u64_wf (n : Nat) (h : n < 18446744073709551616) : (Lit.int .u64 (n : Int)).wf = true := by
  have h1 : IntKind.u64.min = 0 := by kernel_rfl
  have h2 : IntKind.u64.max = 18446744073709551615 := by kernel_rfl
  simp [Lit.wf, h1, h2]
  omega

theorem key64 (n : Nat) (h : n < 18446744073709551616) : keyOf Tryz.prog 22 (.int .u64 (n : Int)) = some (.int .u64 (n : Int)) := keyOf_int_mk Tryz.underlying22 (u64_wf n h)

theorem World.ownsMap.kept' {H : Type} {P : Program} {k : TypeId} {R : Value → Option (DataW H × List MemPlace)} {w w' : World} {b n : Nat} {D : DataW H} {S : Nat → Prop} (h : w.ownsMap P k R b n D) (hc : Chg S w w') (hS : ¬ S b := by exact fun h => h) : w'.ownsMap P k R b n D := by
  have hbl := h.lt
  obtain ⟨es, clock, hb, Ft, hs, hD⟩ := h
  exact ⟨es, clock, (hc.block b hbl hS).trans hb, Ft, hs, hD⟩

/-- The lengths that are keys. -/
def LenKeys {H : Type} (l : List Crv) (D : DataW H) : Prop := ∀ x : Int, has D (.int .u64 x) = true ↔ ∃ c ∈ l, x = (c.l : Int)

theorem LenKeys.put {H : Type} {l : List Crv} {D : DataW H} (h : LenKeys l D) (hm : IsMap D) (c : Crv) (hk : WideAt.IsKeyLit (.int .u64 (c.l : Int))) (d : DataW H) : LenKeys (l ++ [c]) (D.put (.int .u64 (c.l : Int)) d) := by
  intro x
  by_cases hx : x = (c.l : Int)
  · subst hx
    rw [has_put_same hm hk]
    simp
  · rw [has_put_other (by simpa using hx), h x]
    simp [hx]

theorem u64T : RecT Tryz.prog (fun x : Int => [Value.int .u64 x]) 1 98 22 8 0 where
  ht := Tryz.underlying98
  hi := info_rec (by kernel_rfl)
  pos := by decide
  hc := fun _ => rfl
  one := by
    intro p u hu
    simp only [List.mem_cons, List.not_mem_nil, or_false] at hu
    subst hu
    rfl

theorem flatU (l : List Int) : flatC (fun x : Int => [Value.int .u64 x]) l = l.map (Value.int .u64) := by
  induction l with
  | nil => rfl
  | cons x l ih => rw [flatC_cons, ih]; rfl

theorem ownU_of_row {w : World} {base : Nat} {v : Value} {l : List Int} (h : w.ownsRow base 22 1 v l.length (l.map (Value.int .u64))) : Own (fun x : Int => [Value.int .u64 x]) 1 22 w v l := by
  unfold Own
  rw [flatU]
  obtain ⟨h0, h⟩ := h
  refine ⟨h0, ?_⟩
  rcases h with h | ⟨g, cap, cur, e, hb, r⟩
  · exact .inl h
  · exact .inr ⟨g, cap, cur, e, Nat.zero_le _, r⟩

theorem ownU_new {w : World} {g : Nat} (h : Blk w g #[.int .u64 0] 22) : Own (fun x : Int => [Value.int .u64 x]) 1 22 w (.slice (some ⟨g, 0, none⟩) 1 1) [0] :=
  ⟨by rfl, .inr ⟨g, 1, #[.int .u64 0], rfl, Nat.zero_le _, h, Nat.le_refl _, by simp [maxLen], by simp, by simp [flatC]⟩⟩

theorem few_of {p q : Int} : ∀ ss : List Int, ss.Nodup → (∀ x ∈ ss, x = p ∨ x = q) → ss.length ≤ 2
  | [], _, _ => by simp
  | [x], _, _ => by simp
  | [x, y], _, _ => by simp
  | x :: y :: z :: r, hn, hm => by
    have h1 := hm x (by simp)
    have h2 := hm y (by simp)
    have h3 := hm z (by simp)
    simp only [List.nodup_cons, List.mem_cons, not_or] at hn
    obtain ⟨⟨n1, n2, _⟩, ⟨n3, _⟩, _⟩ := hn
    omega

set_option maxRecDepth 100000 in
set_option maxHeartbeats 2000000 in
theorem sCorners_two (a b : Crv) (ad : Addr) (cap : Nat) (w : World) (hrow : RowAt Crv.cells 3 w (some ad) [a, b]) (ha : a.May) (hb : b.May) :
    Calls Tryz.prog 57 #[.slice (some ad) 2 cap] w fun e w' => ∃ (v : Value) (ts : List Int), e = .returned v ∧ Own (fun x : Int => [Value.int .u64 x]) 1 22 w' v ts ∧ ts.length ≤ 3 ∧ (∀ x, x ∈ ts ↔ x = 0 ∨ x = a.l ∨ x = b.l) ∧ Chg NoChg w w' := by
  have hma : ∀ c ∈ [a, b], c.May := by intro c hc; simp at hc; rcases hc with rfl | rfl <;> assumption
  have M := hide (fun w' (c : Chg NoChg w w') => sumsMay_all [a, b] ad cap w' (hrow.keep c (fun _ _ h => h)) (by simp) (by simp) hma)
  obtain ⟨l, hl⟩ : ∃ l, [a, b] = l := ⟨_, rfl⟩
  have hl2 : l.length = 2 := by rw [← hl]; rfl
  have HML := hide hma
  rw [hl] at HML M
  rw [hl2] at M
  have HL := hide hl
  clear hrow hma hl
  have hmm := fun (w : World) => run_makeMap (P := Tryz.prog) 121 w
  go_enter Tryz.func57, Tryz.ntmps57
  go_wp2_with fail
  refine (M.out _ (by (repeat' (first | (with_reducible exact Chg.refl _ _) | (with_reducible assumption) | (with_reducible refine Chg.alloc ?_ _) | (with_reducible refine Chg.drewN ?_ _) | (with_reducible refine Chg.drew ?_) | (with_reducible refine Chg.setCell ?_ _ ?_) | (apply Or.inl; with_reducible rfl) | (apply Or.inl; simp; done) | (apply Or.inr; simp; done) | (apply Or.inr; simp; omega))))).mono ?_
  rintro e w1 ⟨v, rfl, h1, h2, h3⟩
  have R := h1.row Crv.cells_length
  obtain ⟨a1, cap1, rfl, hc1, hn1, hrow1⟩ := R
  rw [hl2]
  have hown1 : w1.ownsMap Tryz.prog 22 (plainElem (H := Unit) Tryz.prog 3) w.heap.size 0 (.map []) := World.ownsMap.kept' (World.ownsMap_made w Tryz.prog 22 _) h2
  have HC2 := hide h2
  have HR := hide (And.intro h1 (And.intro h3 hown1))
  clear h1 h2 h3 hrow1 hn1 hc1 hmm
  go_wp2
  go_loopw [5, 10] (fun _ i wr => ∃ (k n : Nat) (D : DataW Unit), k ≤ 2 ∧ i = .int .i64 k ∧ n ≤ k ∧ wr.ownsMap Tryz.prog 22 (plainElem Tryz.prog 3) w.heap.size n D ∧ LenKeys (l.take k) D ∧ Chg (fun b => b = w.heap.size) w1 wr) (fun _ i _ => 2 - (intOf i).toNat)
  case atStart => exact ⟨0, 0, .map [], by omega, rfl, by omega, HR.out.2.2, fun x => by simp [has], Chg.refl _ _⟩
  case round =>
    obtain ⟨k, n, D, hk, rfl, hn, hm, hD, hc⟩ := hrel
    rename_i wr
    by_cases hlt : k < 2
    · have hlt' : k < l.length := by omega
      have hown : Own Crv.cells 3 24 wr (.slice a1 l.length cap1) l := HR.out.1.keep hc (fun j hj e => by have := HR.out.2.1 j hj; simp at this; omega)
      obtain ⟨a2, cap2, e2, _, _, hrow2⟩ := hown.row Crv.cells_length
      injection e2 with e21 e22 e23
      subst e21 e23
      obtain ⟨g, o, rfl, hj⟩ := hrow2 k hlt'
      have hmc := HML.out l[k] (List.getElem_mem hlt')
      have hts : l.take (k + 1) = l.take k ++ [l[k]] := List.take_succ_eq_append_getElem hlt'
      generalize l[k] = c at hj hmc hts
      have e0 := hj 0 _ rfl
      have e1 := hj 1 _ rfl
      have e2 := hj 2 _ rfl
      simp only [Nat.add_zero] at e0
      have k0 : (0 : Int) ≤ (k : Int) := by omega
      have k1 : (k : Int) < 2 := by omega
      have hkey := key64 c.l (by have := hmc.hl; omega)
      have HB := hide (And.intro hm (And.intro hD (And.intro hc hts)))
      clear hm hD hc hmc hown hrow2 hj hts
      go_wp2_with (first
        | (at_lookup; refine wpList_lookup_own_int _ rfl (.tmp 14) (.tmp 16) 121 rfl 22 3 .i64 law64 Tryz.underlying121 Tryz.underlying3 (zeroInt _) _ n D rfl (HB.out.1.alloc _) _ _ rfl hkey ?_; intro cc hat hwc)
        | (at_mapUpdate; refine wpList_mapUpdate_own _ rfl (.tmp 14) (.tmp 16) (.tmp 18) 121 rfl 22 3 law64 Tryz.underlying121 (plainElem Tryz.prog 3) _ n D rfl (HB.out.1.alloc _) (by simp [maxLen]; omega) _ _ _ rfl rfl hkey _ [] (plainElem_int Tryz.underlying3 (Go.RowKit.wrap64_wf _)) ?_; intro w5 hm5 hg5))
      have d5 := ((Chg.refl NoChg wr).alloc (.cells #[.int .u64 (c.f : Int), .int .u64 (c.l : Int), .int .u64 (c.r : Int)] 24)).mono (S' := fun b => b = w.heap.size) (fun k h => h.elim)
      have c5 := HB.out.2.2.1.trans' (d5.grown hg5 (fun k hk => .inl (by simpa using hk.symm)))
      have l5 := HB.out.2.1.put HB.out.1.isMap c (law64.key hkey) (.lit (.int .i64 (Go.RowKit.wrap64 (cc + 1))))
      rw [← HB.out.2.2.2] at l5
      have H5 := hide (And.intro hm5 (And.intro l5 c5))
      clear hm5 hg5 d5 c5 l5
      go_wp2
      go_roundw
      case rel => exact ⟨k + 1, n + 1, _, by omega, by go_num, by omega, H5.out.1, H5.out.2.1, H5.out.2.2⟩
      case measure => simp [intOf]; omega
    · obtain rfl : k = 2 := by omega
      have HB := hide (And.intro hm (And.intro hD hc))
      clear hm hD hc
      go_wp2_with (at_delete; refine wpList_delete_own _ rfl (.tmp 20) (.const (.int .u64 0)) 121 22 rfl 3 law64 Tryz.underlying121 (plainElem Tryz.prog 3) _ n D rfl HB.out.1 _ _ rfl (key64 0 (by decide)) ?_; intro w6 hm6 ht6)
      have c6 := (HB.out.2.2.grown ht6.grown (fun k hk => .inl (by simpa using hk.symm)))
      have hD6 : ∀ x : Int, has (D.del (.int .u64 ((0 : Nat) : Int))) (.int .u64 x) = true ↔ x ≠ 0 ∧ (x = (a.l : Int) ∨ x = (b.l : Int)) := by
        intro x
        have hDx := HB.out.2.1 x
        rw [← hl2, List.take_length, ← HL.out] at hDx
        by_cases hx : x = 0
        · subst hx
          rw [show (Lit.int .u64 ((0 : Nat) : Int)) = .int .u64 0 from rfl, has_del_same]
          simp
        · rw [has_del_other (by simpa using hx), hDx]
          simp [hx]
      have H6 := hide (And.intro hm6 (And.intro hD6 c6))
      clear hm6 ht6 c6 hD6
      go_wp2_with fail
      refine (callsIn_wide.1 (mKeys_in Fence.wide 0 trivial rfl _ _)).mono ?_
      rintro e w7 ⟨rfl, rfl⟩
      have SS := hide (slSorted_few (w6.heap.size + 1) w.heap.size n (D.del (.int .u64 ((0 : Nat) : Int))) ((w6.alloc (.cells #[.int .u64 0] 22)).alloc (.cells #[.map (some w.heap.size)] 121)) (by have := H6.out.1.size_le; simp only [maxLen]; omega) (by have := H6.out.1.size_le; omega)
        (fun ss h1 h2 => few_of (p := a.l) (q := b.l) ss h1 (fun x hx => (((H6.out.2.1 x).1 ((h2 x).1 hx)).2))) (by simp) ((Blk.new' (w := w6.alloc (.cells #[.int .u64 0] 22)) (n := w6.heap.size + 1) #[.map (some w.heap.size)] 121 (by simp)).cell 0) ((H6.out.1.alloc _).alloc _))
      go_wp2_with fail
      refine (SS.out).mono ?_
      rintro e w8 ⟨v, ss, rfl, h1, h2, h3, h4⟩
      obtain ⟨av, capv, hcv, _, hnv, hrowv⟩ := (ownU_of_row h1).row u64T.hc
      subst hcv
      have hO : Own (fun x : Int => [Value.int .u64 x]) 1 22 w8 (.slice (some ⟨w6.heap.size, 0, none⟩) 1 1) [0] := ownU_new (((Blk.new w6 #[.int .u64 0] 22).alloc (.cells #[.map (some w.heap.size)] 121)) |> (Chg.ofBelow (S := NoChg) h4).blk <| (fun h => h))
      have c8 : Chg NoChg w w8 := by
        have d2 : Chg NoChg w w6 := (((Chg.refl NoChg w).alloc (.map #[] 0)).trans' HC2.out).trans H6.out.2.2 (fun k hk => .inr (by have hk2 : k = w.heap.size := hk; omega))
        exact ((d2.alloc _).alloc _).trans' (Chg.ofBelow h4)
      have HH := hide (And.intro hrowv (And.intro hnv (And.intro hO (And.intro h3 c8))))
      have hlen := h2
      clear h1 h3 h4 hrowv hnv hO c8
      go_wp2_with (at_builtin; refine wpList_append_rec u64T rfl (.tmp 21) (.tmp 24) rfl (.slice (some ⟨w6.heap.size, 0, none⟩) 1 1) [0] rfl HH.out.2.2.1 av capv ss rfl HH.out.2.1 HH.out.1 (by simp [maxLen]; omega) (by simp; omega) ?_; intro v' w9 hown9 hc9 hv9)
      have H9 := hide (And.intro hown9 hc9)
      clear hown9 hc9 hv9
      go_wp2
      go_ret
      refine ⟨_, [0] ++ ss, rfl, H9.out.1, by simp; omega, fun x => ?_, ?_⟩
      · rw [List.mem_append, HH.out.2.2.2.1 x, H6.out.2.1 x]
        simp only [List.mem_cons, List.not_mem_nil, or_false]
        by_cases hx : x = 0 <;> simp [hx]
      · refine HH.out.2.2.2.2.trans H9.out.2 (fun k hk => .inr ?_)
        have hk2 : w6.heap.size = k := by simpa [Value.ownBlock] using hk
        have h5 : w.heap.size + 1 ≤ w1.heap.size := by simpa using HC2.out.size
        have h6 : w1.heap.size ≤ w6.heap.size := H6.out.2.2.size
        omega
end Go.Proofs.YtofgajlpdnokdaaGreatDoor

/- Whether a curve is below another one, by the program. -/
namespace Go.Proofs.YtofgajlpdnokdaaGreatDoor
set_option linter.unusedVariables false
open Go.RowKit Go.Maps Go.Shelf

/-- Where both curves lie. -/
structure TwoAt (w : World) (g : Nat) (a b : Crv) : Prop where
  a : Blk w g #[.int .u64 (a.f : Int), .int .u64 (a.l : Int), .int .u64 (a.r : Int)] 24
  b : Blk w (g + 1) #[.int .u64 (b.f : Int), .int .u64 (b.l : Int), .int .u64 (b.r : Int)] 24

theorem TwoAt.keep {w w' : World} {g : Nat} {a b : Crv} (h : TwoAt w g a b) (c : Chg NoChg w w') : TwoAt w' g a b := ⟨c.blk h.a (fun h => h), c.blk h.b (fun h => h)⟩

theorem TwoAt.cells {w : World} {g : Nat} {a b : Crv} (h : TwoAt w g a b) : w.cell? ⟨g, 0, none⟩ = some (.int .u64 (a.f : Int)) ∧ w.cell? ⟨g, 1, none⟩ = some (.int .u64 (a.l : Int)) ∧ w.cell? ⟨g, 2, none⟩ = some (.int .u64 (a.r : Int)) ∧
    w.cell? ⟨g + 1, 0, none⟩ = some (.int .u64 (b.f : Int)) ∧ w.cell? ⟨g + 1, 1, none⟩ = some (.int .u64 (b.l : Int)) ∧ w.cell? ⟨g + 1, 2, none⟩ = some (.int .u64 (b.r : Int)) :=
  ⟨h.a.cell 0, h.a.cell 1, h.a.cell 2, h.b.cell 0, h.b.cell 1, h.b.cell 2⟩

theorem rowCrv {w : World} {g : Nat} {l : List Crv} {t : TypeId} (h : Blk w g (flatC Crv.cells l).toArray t) : RowAt Crv.cells 3 w (some ⟨g, 0, none⟩) l := RowBlk.row Crv.cells_length h

set_option maxRecDepth 100000 in
set_option maxHeartbeats 4000000 in
theorem sBelow_may (a b : Crv) (ha : a.May) (hb : b.May) (w : World) :
    Calls Tryz.prog 42 #[.agg #[.int .u64 (a.f : Int), .int .u64 (a.l : Int), .int .u64 (a.r : Int)], .agg #[.int .u64 (b.f : Int), .int .u64 (b.l : Int), .int .u64 (b.r : Int)]] w
      fun e w' => e = .returned (.bool (decide (a.r ≤ b.r) && (a.leAt b a.l && a.leAt b b.l))) ∧ Chg NoChg w w' := by
  have MA := hide (fun w => cMay_any a w)
  have MB := hide (fun w => cMay_any b w)
  rw [crv_true ha] at MA
  rw [crv_true hb] at MB
  have HMAB := hide (And.intro ha hb)
  have T0 : TwoAt ((w.alloc (.cells #[.int .u64 (a.f : Int), .int .u64 (a.l : Int), .int .u64 (a.r : Int)] 24)).alloc (.cells #[.int .u64 (b.f : Int), .int .u64 (b.l : Int), .int .u64 (b.r : Int)] 24)) w.heap.size a b := ⟨(Blk.new _ _ _).alloc _, Blk.new' _ _ (by simp)⟩
  have T0 := hide T0
  clear ha hb
  by_cases hr : a.r ≤ b.r
  · have hr2 : decide (a.r ≤ b.r) = true := by simpa using hr
    have hr1 : decide (b.r < a.r) = false := by simp; omega
    rw [hr2, Bool.true_and]
    clear hr2 hr
    go_enter Tryz.func42, Tryz.ntmps42
    go_wp2_with fail
    refine (MA.out _).mono ?_
    rintro e w1 ⟨rfl, c1⟩
    have T1 := hide (T0.out.keep c1)
    have C1 := hide ((((Chg.refl NoChg w).alloc (.cells #[.int .u64 (a.f : Int), .int .u64 (a.l : Int), .int .u64 (a.r : Int)] 24)).alloc (.cells #[.int .u64 (b.f : Int), .int .u64 (b.l : Int), .int .u64 (b.r : Int)] 24)).trans' c1)
    clear c1
    obtain ⟨k0, k1, k2, k3, k4, k5⟩ := T1.out.cells
    go_wp2_with fail
    refine (MB.out _).mono ?_
    rintro e w2 ⟨rfl, c2⟩
    have T2 := hide (T1.out.keep c2)
    have C2 := hide (C1.out.trans' c2)
    clear c2 k0 k1 k2 k3 k4 k5
    obtain ⟨k0, k1, k2, k3, k4, k5⟩ := T2.out.cells
    have CC := hide (sCorners_two a b ⟨w2.heap.size, 0, none⟩ 2 (w2.alloc (.cells #[.int .u64 (a.f : Int), .int .u64 (a.l : Int), .int .u64 (a.r : Int), .int .u64 (b.f : Int), .int .u64 (b.l : Int), .int .u64 (b.r : Int)] 24)) (rowCrv (l := [a, b]) (Blk.new w2 #[.int .u64 (a.f : Int), .int .u64 (a.l : Int), .int .u64 (a.r : Int), .int .u64 (b.f : Int), .int .u64 (b.l : Int), .int .u64 (b.r : Int)] 24)) HMAB.out.1 HMAB.out.2)
    go_wp2_with fail
    refine (CC.out).mono ?_
    rintro e w3 ⟨v, ts, rfl, h1, h2, h3, h4⟩
    obtain ⟨tv, tc, rfl, _, hnv, hrowv⟩ := h1.row u64T.hc
    have T3 := hide ((T2.out.keep ((Chg.refl _ _).alloc (.cells #[.int .u64 (a.f : Int), .int .u64 (a.l : Int), .int .u64 (a.r : Int), .int .u64 (b.f : Int), .int .u64 (b.l : Int), .int .u64 (b.r : Int)] 24))).keep h4)
    have C3 := hide ((C2.out.alloc (.cells #[.int .u64 (a.f : Int), .int .u64 (a.l : Int), .int .u64 (a.r : Int), .int .u64 (b.f : Int), .int .u64 (b.l : Int), .int .u64 (b.r : Int)] 24)).trans' h4)
    have HR := hide (And.intro hrowv h3)
    have hlen := h2
    clear h1 h3 h4 hrowv hnv k0 k1 k2 k3 k4 k5
    go_wp2
    go_loopw [6, 27] (fun _ i wr => ∃ k : Nat, k ≤ ts.length ∧ i = .int .i64 k ∧ Chg NoChg w3 wr ∧ ∀ x ∈ ts.take k, a.leAt b x.toNat = true) (fun _ i _ => ts.length - (intOf i).toNat)
    case atStart => exact ⟨0, by omega, rfl, Chg.refl _ _, by simp⟩
    case round =>
      obtain ⟨k, hk, rfl, hc, hall⟩ := hrel
      rename_i wr
      have TR := hide (T3.out.keep hc)
      by_cases hlt : k < ts.length
      · obtain ⟨g, o, rfl, hj⟩ := HR.out.1 k hlt
        have e0 := hc.same (hj 0 _ rfl)
        have hmem := (HR.out.2 ts[k]).1 (List.getElem_mem hlt)
        have hts : ts.take (k + 1) = ts.take k ++ [ts[k]] := List.take_succ_eq_append_getElem hlt
        have hin : ts[k] ∈ ts := List.getElem_mem hlt
        generalize ts[k] = x at e0 hmem hts hin
        obtain ⟨n, rfl⟩ : ∃ n : Nat, x = (n : Int) := ⟨x.toNat, by omega⟩
        have hn : n < 18446744073709551616 := by
          have h5 := HMAB.out.1.hl
          have h6 := HMAB.out.2.hl
          omega
        have AA := fun (g' : Nat) (w' : World) (h : Blk w' g' #[.int .u64 (a.f : Int), .int .u64 (a.l : Int), .int .u64 (a.r : Int)] 24) => sAt_may [a] ⟨g', 0, none⟩ 1 n w' (rowCrv (l := [a]) h) (by simp) (by simp) (by intro c hc; simp at hc; subst hc; exact HMAB.out.1) hn
        have BB := fun (g' : Nat) (w' : World) (h : Blk w' g' #[.int .u64 (b.f : Int), .int .u64 (b.l : Int), .int .u64 (b.r : Int)] 24) => sAt_may [b] ⟨g', 0, none⟩ 1 n w' (rowCrv (l := [b]) h) (by simp) (by simp) (by intro c hc; simp at hc; subst hc; exact HMAB.out.2) hn
        have sa : Crv.sum [a] n = a.at n := by simp [Crv.sum]
        have sb : Crv.sum [b] n = b.at n := by simp [Crv.sum]
        rw [sa] at AA
        rw [sb] at BB
        have hle : a.leAt b n = decide (a.at n ≤ b.at n) := rfl
        have CM := wCmp_any (a.at n) (b.at n)
        have cg := cmp_gt (a.at n) (b.at n)
        generalize a.at n = x1 at AA hle CM cg
        generalize b.at n = x2 at BB hle CM cg
        generalize ((x1 / 18446744073709551616 : Nat) : Int) = y1 at AA CM
        generalize ((x1 % 18446744073709551616 : Nat) : Int) = y2 at AA CM
        generalize ((x2 / 18446744073709551616 : Nat) : Int) = y3 at BB CM
        generalize ((x2 % 18446744073709551616 : Nat) : Int) = y4 at BB CM
        have HA := hide AA
        have HBB := hide BB
        have HCM := hide CM
        have HB := hide (And.intro hc (And.intro hall (And.intro hts (And.intro hmem hin))))
        have k0 : (0 : Int) ≤ (k : Int) := by omega
        have k1 : (k : Int) < (ts.length : Int) := by omega
        have cgd : decide ((0 : Int) < cmpN x1 x2) = !(a.leAt b n) := by rw [cg, hle]
        have KEEP := hide (fun (w' : World) (h : Chg NoChg wr w') => (TR.out.keep h).cells)
        clear hc hall hts hmem hin AA BB CM cg hle sa sb hn hj
        simp only [Nat.add_zero, Nat.mul_one] at e0
        cases hL : a.leAt b n with
        | true =>
          rw [hL] at cgd
          have HL := hide hL
          clear hL
          go_wp2
          go_region_held3 (fun w' : World => w'.cell? ⟨w.heap.size, 0, none⟩ = some (.int .u64 (a.f : Int)) ∧ w'.cell? ⟨w.heap.size, 1, none⟩ = some (.int .u64 (a.l : Int)) ∧ w'.cell? ⟨w.heap.size, 2, none⟩ = some (.int .u64 (a.r : Int)) ∧ w'.cell? ⟨w.heap.size + 1, 0, none⟩ = some (.int .u64 (b.f : Int)) ∧ w'.cell? ⟨w.heap.size + 1, 1, none⟩ = some (.int .u64 (b.l : Int)) ∧ w'.cell? ⟨w.heap.size + 1, 2, none⟩ = some (.int .u64 (b.r : Int))) (exact KEEP.out _ (by (repeat' (first | (with_reducible exact Chg.refl _ _) | (with_reducible assumption) | (with_reducible refine Chg.alloc ?_ _) | (with_reducible refine Chg.drewN ?_ _) | (with_reducible refine Chg.drew ?_) | (with_reducible refine Chg.setCell ?_ _ ?_) | (apply Or.inl; with_reducible rfl) | (apply Or.inl; simp; done) | (apply Or.inr; simp; done) | (apply Or.inr; simp; omega))))) (first | (go_at_call 13; refine Calls.mono (HA.out _ _ ?_) ?_; (focus ((repeat' (first | (with_reducible refine Blk.new' _ _ ?_; first | rfl | (simp; done)) | (with_reducible refine Blk.alloc ?_ _) | (with_reducible refine Blk.drew ?_) | (with_reducible refine Blk.drewN ?_ _))); done)); rintro e w5 ⟨rfl, c5⟩; have d5 : Chg NoChg wr w5 := Chg.trans' (by (repeat' (first | (with_reducible exact Chg.refl _ _) | (with_reducible assumption) | (with_reducible refine Chg.alloc ?_ _) | (with_reducible refine Chg.drewN ?_ _) | (with_reducible refine Chg.drew ?_) | (with_reducible refine Chg.setCell ?_ _ ?_) | (apply Or.inl; with_reducible rfl) | (apply Or.inl; simp; done) | (apply Or.inr; simp; done) | (apply Or.inr; simp; omega)))) c5) | (go_at_call 13; refine Calls.mono (HBB.out _ _ ?_) ?_; (focus ((repeat' (first | (with_reducible refine Blk.new' _ _ ?_; first | rfl | (simp; done)) | (with_reducible refine Blk.alloc ?_ _) | (with_reducible refine Blk.drew ?_) | (with_reducible refine Blk.drewN ?_ _) | (with_reducible refine Chg.blk c5 ?_ (fun h => h)))); done)); rintro e w6 ⟨rfl, c6⟩; have d6 : Chg NoChg wr w6 := Chg.trans' (by (repeat' (first | (with_reducible exact Chg.refl _ _) | (with_reducible assumption) | (with_reducible refine Chg.alloc ?_ _) | (with_reducible refine Chg.drewN ?_ _) | (with_reducible refine Chg.drew ?_) | (with_reducible refine Chg.setCell ?_ _ ?_) | (apply Or.inl; with_reducible rfl) | (apply Or.inl; simp; done) | (apply Or.inr; simp; done) | (apply Or.inr; simp; omega)))) c6) | (go_at_call 14; refine (HCM.out _).mono ?_; rintro e w7 ⟨rfl, c7⟩; have d7 : Chg NoChg wr w7 := Chg.trans' (by (repeat' (first | (with_reducible exact Chg.refl _ _) | (with_reducible assumption) | (with_reducible refine Chg.alloc ?_ _) | (with_reducible refine Chg.drewN ?_ _) | (with_reducible refine Chg.drew ?_) | (with_reducible refine Chg.setCell ?_ _ ?_) | (apply Or.inl; with_reducible rfl) | (apply Or.inl; simp; done) | (apply Or.inr; simp; done) | (apply Or.inr; simp; omega)))) c7))
          all_goals
            go_wp2
            go_roundw
            case rel =>
              refine ⟨k + 1, by omega, by go_num, HB.out.1.trans' d7, fun x hx => ?_⟩
              rw [HB.out.2.2.1] at hx
              rcases List.mem_append.1 hx with h | h
              · exact HB.out.2.1 x h
              · simp only [List.mem_cons, List.not_mem_nil, or_false] at h
                subst h
                simpa using HL.out
            case measure => simp [intOf]; omega
        | false =>
          rw [hL] at cgd
          have hno : (a.leAt b a.l && a.leAt b b.l) = false := by
            rcases HB.out.2.2.2.1 with h | h | h
            · have h0 : n = 0 := by omega
              subst h0
              simp [Crv.leAt, Crv.at] at hL
            · have h0 : n = a.l := by omega
              subst h0
              rw [hL]; rfl
            · have h0 : n = b.l := by omega
              subst h0
              rw [hL]; cases a.leAt b a.l <;> rfl
          have HL := hide (And.intro hL hno)
          clear hL hno
          go_wp2
          go_region_held3 (fun w' : World => w'.cell? ⟨w.heap.size, 0, none⟩ = some (.int .u64 (a.f : Int)) ∧ w'.cell? ⟨w.heap.size, 1, none⟩ = some (.int .u64 (a.l : Int)) ∧ w'.cell? ⟨w.heap.size, 2, none⟩ = some (.int .u64 (a.r : Int)) ∧ w'.cell? ⟨w.heap.size + 1, 0, none⟩ = some (.int .u64 (b.f : Int)) ∧ w'.cell? ⟨w.heap.size + 1, 1, none⟩ = some (.int .u64 (b.l : Int)) ∧ w'.cell? ⟨w.heap.size + 1, 2, none⟩ = some (.int .u64 (b.r : Int))) (exact KEEP.out _ (by (repeat' (first | (with_reducible exact Chg.refl _ _) | (with_reducible assumption) | (with_reducible refine Chg.alloc ?_ _) | (with_reducible refine Chg.drewN ?_ _) | (with_reducible refine Chg.drew ?_) | (with_reducible refine Chg.setCell ?_ _ ?_) | (apply Or.inl; with_reducible rfl) | (apply Or.inl; simp; done) | (apply Or.inr; simp; done) | (apply Or.inr; simp; omega))))) (first | (go_at_call 13; refine Calls.mono (HA.out _ _ ?_) ?_; (focus ((repeat' (first | (with_reducible refine Blk.new' _ _ ?_; first | rfl | (simp; done)) | (with_reducible refine Blk.alloc ?_ _) | (with_reducible refine Blk.drew ?_) | (with_reducible refine Blk.drewN ?_ _))); done)); rintro e w5 ⟨rfl, c5⟩; have d5 : Chg NoChg wr w5 := Chg.trans' (by (repeat' (first | (with_reducible exact Chg.refl _ _) | (with_reducible assumption) | (with_reducible refine Chg.alloc ?_ _) | (with_reducible refine Chg.drewN ?_ _) | (with_reducible refine Chg.drew ?_) | (with_reducible refine Chg.setCell ?_ _ ?_) | (apply Or.inl; with_reducible rfl) | (apply Or.inl; simp; done) | (apply Or.inr; simp; done) | (apply Or.inr; simp; omega)))) c5) | (go_at_call 13; refine Calls.mono (HBB.out _ _ ?_) ?_; (focus ((repeat' (first | (with_reducible refine Blk.new' _ _ ?_; first | rfl | (simp; done)) | (with_reducible refine Blk.alloc ?_ _) | (with_reducible refine Blk.drew ?_) | (with_reducible refine Blk.drewN ?_ _) | (with_reducible refine Chg.blk c5 ?_ (fun h => h)))); done)); rintro e w6 ⟨rfl, c6⟩; have d6 : Chg NoChg wr w6 := Chg.trans' (by (repeat' (first | (with_reducible exact Chg.refl _ _) | (with_reducible assumption) | (with_reducible refine Chg.alloc ?_ _) | (with_reducible refine Chg.drewN ?_ _) | (with_reducible refine Chg.drew ?_) | (with_reducible refine Chg.setCell ?_ _ ?_) | (apply Or.inl; with_reducible rfl) | (apply Or.inl; simp; done) | (apply Or.inr; simp; done) | (apply Or.inr; simp; omega)))) c6) | (go_at_call 14; refine (HCM.out _).mono ?_; rintro e w7 ⟨rfl, c7⟩; have d7 : Chg NoChg wr w7 := Chg.trans' (by (repeat' (first | (with_reducible exact Chg.refl _ _) | (with_reducible assumption) | (with_reducible refine Chg.alloc ?_ _) | (with_reducible refine Chg.drewN ?_ _) | (with_reducible refine Chg.drew ?_) | (with_reducible refine Chg.setCell ?_ _ ?_) | (apply Or.inl; with_reducible rfl) | (apply Or.inl; simp; done) | (apply Or.inr; simp; done) | (apply Or.inr; simp; omega)))) c7))
          all_goals go_wp2
          all_goals go_ret
          all_goals exact ⟨by rw [HL.out.2]; rfl, (C3.out.trans' HB.out.1).trans' d7⟩
      · obtain rfl : k = ts.length := by omega
        rw [List.take_length] at hall
        have HB := hide (And.intro hc hall)
        clear hc hall
        go_wp2
        go_ret
        have e1 := HB.out.2 a.l ((HR.out.2 _).2 (by simp))
        have e2 := HB.out.2 b.l ((HR.out.2 _).2 (by simp))
        simp only [Int.toNat_natCast] at e1 e2
        exact ⟨by rw [e1, e2]; rfl, C3.out.trans' HB.out.1⟩
  · have hr2 : decide (a.r ≤ b.r) = false := by simpa using hr
    have hr1 : decide (b.r < a.r) = true := by simp; omega
    rw [hr2, Bool.false_and]
    clear hr2 hr
    go_enter Tryz.func42, Tryz.ntmps42
    go_wp2_with fail
    refine (MA.out _).mono ?_
    rintro e w1 ⟨rfl, c1⟩
    have T1 := hide (T0.out.keep c1)
    have C1 := hide ((((Chg.refl NoChg w).alloc (.cells #[.int .u64 (a.f : Int), .int .u64 (a.l : Int), .int .u64 (a.r : Int)] 24)).alloc (.cells #[.int .u64 (b.f : Int), .int .u64 (b.l : Int), .int .u64 (b.r : Int)] 24)).trans' c1)
    clear c1
    obtain ⟨k0, k1, k2, k3, k4, k5⟩ := T1.out.cells
    go_wp2_with fail
    refine (MB.out _).mono ?_
    rintro e w2 ⟨rfl, c2⟩
    have T2 := hide (T1.out.keep c2)
    have C2 := hide (C1.out.trans' c2)
    clear c2 k0 k1 k2 k3 k4 k5
    obtain ⟨k0, k1, k2, k3, k4, k5⟩ := T2.out.cells
    go_wp2
    go_ret
    exact ⟨rfl, C2.out⟩
end Go.Proofs.YtofgajlpdnokdaaGreatDoor

