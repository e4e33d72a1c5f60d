/- Whether a curve is below another one, by the document. -/
import Derived.Test.YtofgajlpdnokdaaCurve2
import Derived.Deep.RegionHeld3
namespace Go.Proofs.Ytofgajlpdnokdaa
set_option linter.unusedVariables false
open Go.RowKit

theorem Chg.same {w w' : World} (hc : Chg NoChg w w') {ad : Addr} {u : Value} (h : w.cell? ad = some u) : w'.cell? ad = some u := (hc.cell (cell_lt h) (fun h => h)).trans h

def Crv.leAt (a b : Crv) (t : Nat) : Bool := decide (a.at t ≤ b.at t)

theorem cmp_gt (m n : Nat) : decide ((0 : Int) < cmpN m n) = !decide (m ≤ n) := by
  unfold cmpN
  split
  · simp; omega
  · split
    · simp; omega
    · simp; omega

def ticksR (a b : Crv) : List Nat := [1, a.l, b.l, 9223372036854775807]

set_option maxRecDepth 100000 in
set_option maxHeartbeats 2000000 in
theorem r04Below_may (a b : Crv) (ha : a.May) (hb : b.May) (w : World) :
    Calls Try.prog 17 #[.agg #[.int .u64 (a.f : Int), .int .u64 (a.l : Int), .int .u64 (a.r : Int)], .agg #[.int .u64 (b.f : Int), .int .u64 (b.l : Int), .int .u64 (b.r : Int)]] w
      fun e w' => e = .returned (.bool ((ticksR a b).all (a.leAt b))) ∧ Chg NoChg w w' := by
  have MA := hide (fun w => r03May_any a w)
  have MB := hide (fun w => r03May_any b w)
  rw [crv_true ha] at MA
  rw [crv_true hb] at MB
  have WA := hide (fun t ht w => r03Wide_may a t ha ht w)
  have WB := hide (fun t ht w => r03Wide_may b t hb ht w)
  have HT : Hid (∀ k (h : k < 4), (ticksR a b)[k]'h < 18446744073709551616) := by
    refine hide fun k h => ?_
    have h1 := ha.hl
    have h2 := hb.hl
    obtain rfl | rfl | rfl | rfl : k = 0 ∨ k = 1 ∨ k = 2 ∨ k = 3 := by omega
    · show 1 < _; decide
    · show a.l < _; omega
    · show b.l < _; omega
    · show 9223372036854775807 < _; decide
  obtain ⟨T, hT⟩ : ∃ T, T = ticksR a b := ⟨_, rfl⟩
  have hT4 : T.length = 4 := by rw [hT]; rfl
  have HTT := hide hT
  obtain ⟨af, al, ar⟩ := a
  obtain ⟨bf, bl, br⟩ := b
  dsimp only at *
  clear ha hb hT
  go_enter Try.func17, Try.ntmps17
  go_wp2_with fail
  refine (MA.out _).mono ?_
  rintro e w1 ⟨rfl, c1⟩
  have qa := c1.blk ((Blk.new w #[.int .u64 (af : Int), .int .u64 (al : Int), .int .u64 (ar : Int)] 24).alloc (.cells #[.int .u64 (bf : Int), .int .u64 (bl : Int), .int .u64 (br : Int)] 24)) (fun h => h)
  have qb := c1.blk (Blk.new' (w := w.alloc (.cells #[.int .u64 (af : Int), .int .u64 (al : Int), .int .u64 (ar : Int)] 24)) (n := w.heap.size + 1) #[.int .u64 (bf : Int), .int .u64 (bl : Int), .int .u64 (br : Int)] 24 (by simp)) (fun h => h)
  have C1 := hide ((((Chg.refl NoChg w).alloc (.cells #[.int .u64 (af : Int), .int .u64 (al : Int), .int .u64 (ar : Int)] 24)).alloc (.cells #[.int .u64 (bf : Int), .int .u64 (bl : Int), .int .u64 (br : Int)] 24)).trans' c1)
  have k0 := qb.cell 0
  have k1 := qb.cell 1
  have k2 := qb.cell 2
  simp at k0 k1 k2
  have Q1 := hide (And.intro qa qb)
  clear c1 qa qb
  go_wp2_with fail
  refine (MB.out _).mono ?_
  rintro e w2 ⟨rfl, c2⟩
  have qa := c2.blk Q1.out.1 (fun h => h)
  have qb := c2.blk Q1.out.2 (fun h => h)
  have C2 := hide (C1.out.trans' c2)
  have l1 := qa.cell 1
  have m1 := qb.cell 1
  have sb := qb.lt
  have sa := qa.lt
  simp at l1 m1
  have Q2 := hide (And.intro qa qb)
  clear c2 qa qb k0 k1 k2
  go_wp2
  go_loopw [6] (fun i wr => ∃ k : Nat, k ≤ 4 ∧ i = .int .i64 k ∧ Chg NoChg w wr ∧ Blk wr w.heap.size #[.int .u64 (af : Int), .int .u64 (al : Int), .int .u64 (ar : Int)] 24 ∧ Blk wr (w.heap.size + 1) #[.int .u64 (bf : Int), .int .u64 (bl : Int), .int .u64 (br : Int)] 24 ∧
      Blk wr w2.heap.size (T.map fun (t : Nat) => Value.int .u64 (t : Int)).toArray 22 ∧ (T.take k).all ((⟨af, al, ar⟩ : Crv).leAt (⟨bf, bl, br⟩ : Crv)) = true) (fun i _ => 4 - (intOf i).toNat)
  case atStart =>
    refine ⟨0, by omega, rfl, C2.out.alloc _, Q2.out.1.alloc _, Q2.out.2.alloc _, ?_, by simp⟩
    rw [HTT.out]
    exact Blk.new _ _ _
  case round =>
    obtain ⟨k, hk, rfl, hc, B0, B1, B2, hall⟩ := hrel
    rename_i wr
    by_cases hlt : k < 4
    · have hkT : k < T.length := by omega
      have c0 := B2.cell k
      have ht : T[k] < 18446744073709551616 := by
        have := HT.out k hlt
        simp only [HTT.out]
        exact this
      simp only [List.getElem?_toArray, List.getElem?_map, List.getElem?_eq_getElem hkT, Option.map_some] at c0
      have hsucc : (T.take (k + 1)).all ((⟨af, al, ar⟩ : Crv).leAt (⟨bf, bl, br⟩ : Crv)) = ((⟨af, al, ar⟩ : Crv).leAt (⟨bf, bl, br⟩ : Crv) T[k]) := by
        rw [List.take_succ_eq_append_getElem hkT, List.all_append, hall]
        simp
      have hfalse : (⟨af, al, ar⟩ : Crv).leAt (⟨bf, bl, br⟩ : Crv) T[k] = false → T.all ((⟨af, al, ar⟩ : Crv).leAt (⟨bf, bl, br⟩ : Crv)) = false := by
        intro h
        rw [List.all_eq_false]
        exact ⟨T[k], List.getElem_mem hkT, by simpa using h⟩
      generalize T[k] = t at c0 ht hsucc hfalse
      have WA1 := hide (fun w' (c : Chg NoChg wr w') => (WA.out t ht w').mono fun e w'' h => And.intro h.1 (c.trans' h.2))
      have WB1 := hide (fun w' (c : Chg NoChg wr w') => (WB.out t ht w').mono fun e w'' h => And.intro h.1 (c.trans' h.2))
      have hle : (⟨af, al, ar⟩ : Crv).leAt (⟨bf, bl, br⟩ : Crv) t = decide ((⟨af, al, ar⟩ : Crv).at t ≤ (⟨bf, bl, br⟩ : Crv).at t) := rfl
      generalize (⟨af, al, ar⟩ : Crv).at t = m at WA1 hle
      generalize (⟨bf, bl, br⟩ : Crv).at t = n at WB1 hle
      have CM := hide (fun w' (c : Chg NoChg wr w') => (r01Cmp_any m n w').mono fun e w'' h => And.intro h.1 (c.trans' h.2))
      have KEEP := hide (fun (w' : World) (c : Chg NoChg wr w') => And.intro ((c.blk B0 (fun h => h)).cell 0) (And.intro ((c.blk B0 (fun h => h)).cell 1) (And.intro ((c.blk B0 (fun h => h)).cell 2)
        (And.intro ((c.blk B1 (fun h => h)).cell 0) (And.intro ((c.blk B1 (fun h => h)).cell 1) (And.intro ((c.blk B1 (fun h => h)).cell 2) (c.same c0)))))))
      simp at KEEP
      have HB := hide (And.intro hc (And.intro B0 (And.intro B1 (And.intro B2 (And.intro hsucc hfalse)))))
      have cg := cmp_gt m n
      clear hc B0 B1 B2 hsucc hfalse c0 hall
      have k0 : (0 : Int) ≤ (k : Int) := by omega
      have k1 : (k : Int) < 4 := by omega
      by_cases hmn : m ≤ n
      · have dg : decide ((0 : Int) < cmpN m n) = false := by rw [cg]; simpa using hmn
        have hl1 : (⟨af, al, ar⟩ : Crv).leAt (⟨bf, bl, br⟩ : Crv) t = true := by rw [hle]; simpa using hmn
        have HL := hide (And.intro hl1 hmn)
        clear cg hl1 hle hmn
        go_wp2
        go_region_held3 (fun w' : World => w'.cell? ⟨w.heap.size, 0, none⟩ = some (.int .u64 (af : Int)) ∧ w'.cell? ⟨w.heap.size, 1, none⟩ = some (.int .u64 (al : Int)) ∧ w'.cell? ⟨w.heap.size, 2, none⟩ = some (.int .u64 (ar : Int)) ∧
            w'.cell? ⟨w.heap.size + 1, 0, none⟩ = some (.int .u64 (bf : Int)) ∧ w'.cell? ⟨w.heap.size + 1, 1, none⟩ = some (.int .u64 (bl : Int)) ∧ w'.cell? ⟨w.heap.size + 1, 2, none⟩ = some (.int .u64 (br : Int)) ∧ w'.cell? ⟨w2.heap.size, k, none⟩ = some (.int .u64 (t : Int)))
          (first | exact KEEP.out _ (by assumption) | exact KEEP.out _ ((Chg.refl _ _).drew)) (first | (go_at_call 24; with_reducible refine (WA1.out _ (by first | assumption | exact (Chg.refl _ _).drew)).mono ?_; rintro e w3 ⟨rfl, c3⟩) | (go_at_call 24; with_reducible refine (WB1.out _ (by assumption)).mono ?_; rintro e w4 ⟨rfl, c4⟩) | (go_at_call 23; refine (CM.out _ (by assumption)).mono ?_; rintro e w5 ⟨rfl, c5⟩))
        go_wp2
        go_roundw
        case rel =>
          obtain ⟨g1, g2, g3, g4, g5, g6⟩ := HB.out
          exact ⟨k + 1, by omega, by go_num, g1.trans' c5, c5.blk g2 (fun h => h), c5.blk g3 (fun h => h), c5.blk g4 (fun h => h), g5.trans HL.out.1⟩
        case measure => simp [intOf]; omega
      · have dg : decide ((0 : Int) < cmpN m n) = true := by rw [cg]; simpa using hmn
        have hl1 : (⟨af, al, ar⟩ : Crv).leAt (⟨bf, bl, br⟩ : Crv) t = false := by rw [hle]; simpa using hmn
        have HL := hide (And.intro hl1 hmn)
        clear cg hl1 hle hmn
        go_wp2
        go_region_held3 (fun w' : World => w'.cell? ⟨w.heap.size, 0, none⟩ = some (.int .u64 (af : Int)) ∧ w'.cell? ⟨w.heap.size, 1, none⟩ = some (.int .u64 (al : Int)) ∧ w'.cell? ⟨w.heap.size, 2, none⟩ = some (.int .u64 (ar : Int)) ∧
            w'.cell? ⟨w.heap.size + 1, 0, none⟩ = some (.int .u64 (bf : Int)) ∧ w'.cell? ⟨w.heap.size + 1, 1, none⟩ = some (.int .u64 (bl : Int)) ∧ w'.cell? ⟨w.heap.size + 1, 2, none⟩ = some (.int .u64 (br : Int)) ∧ w'.cell? ⟨w2.heap.size, k, none⟩ = some (.int .u64 (t : Int)))
          (first | exact KEEP.out _ (by assumption) | exact KEEP.out _ ((Chg.refl _ _).drew)) (first | (go_at_call 24; with_reducible refine (WA1.out _ (by first | assumption | exact (Chg.refl _ _).drew)).mono ?_; rintro e w3 ⟨rfl, c3⟩) | (go_at_call 24; with_reducible refine (WB1.out _ (by assumption)).mono ?_; rintro e w4 ⟨rfl, c4⟩) | (go_at_call 23; refine (CM.out _ (by assumption)).mono ?_; rintro e w5 ⟨rfl, c5⟩))
        go_wp2
        go_ret
        obtain ⟨g1, g2, g3, g4, g5, g6⟩ := HB.out
        have := g6 HL.out.1
        rw [HTT.out] at this
        exact ⟨by rw [this]; rfl, g1.trans' c5⟩
    · obtain rfl : k = 4 := by omega
      have HB := hide (And.intro hc hall)
      clear hc hall B0 B1 B2
      go_wp2
      go_ret
      have := HB.out.2
      rw [← hT4, List.take_length, HTT.out] at this
      exact ⟨by rw [this]; rfl, HB.out.1⟩
end Go.Proofs.Ytofgajlpdnokdaa
