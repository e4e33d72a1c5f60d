/- Whether a curve is below another one, by the program. -/
import Derived.Test.YtofgajlpdnokdaaCorners
import Derived.Test.YtofgajlpdnokdaaBelowLaw
import Derived.Deep.RegionHeld3
import Derived.Outline
namespace Go.Proofs.Ytofgajlpdnokdaa
set_option linter.unusedVariables false
open Go.RowKit Go.Maps Go.Shelf

/-- Where both curves lie. -/
structure TwoAt (w : World) (g : Nat) (a b : Crv) : Prop where
  a : Blk w g #[.int .u64 (a.f : Int), .int .u64 (a.l : Int), .int .u64 (a.r : Int)] 24
  b : Blk w (g + 1) #[.int .u64 (b.f : Int), .int .u64 (b.l : Int), .int .u64 (b.r : Int)] 24

theorem TwoAt.keep {w w' : World} {g : Nat} {a b : Crv} (h : TwoAt w g a b) (c : Chg NoChg w w') : TwoAt w' g a b := ⟨c.blk h.a (fun h => h), c.blk h.b (fun h => h)⟩

theorem TwoAt.cells {w : World} {g : Nat} {a b : Crv} (h : TwoAt w g a b) : w.cell? ⟨g, 0, none⟩ = some (.int .u64 (a.f : Int)) ∧ w.cell? ⟨g, 1, none⟩ = some (.int .u64 (a.l : Int)) ∧ w.cell? ⟨g, 2, none⟩ = some (.int .u64 (a.r : Int)) ∧
    w.cell? ⟨g + 1, 0, none⟩ = some (.int .u64 (b.f : Int)) ∧ w.cell? ⟨g + 1, 1, none⟩ = some (.int .u64 (b.l : Int)) ∧ w.cell? ⟨g + 1, 2, none⟩ = some (.int .u64 (b.r : Int)) :=
  ⟨h.a.cell 0, h.a.cell 1, h.a.cell 2, h.b.cell 0, h.b.cell 1, h.b.cell 2⟩

theorem rowCrv {w : World} {g : Nat} {l : List Crv} {t : TypeId} (h : Blk w g (flatC Crv.cells l).toArray t) : RowAt Crv.cells 3 w (some ⟨g, 0, none⟩) l := RowBlk.row Crv.cells_length h

set_option maxRecDepth 100000 in
set_option maxHeartbeats 4000000 in
theorem sBelow_may (a b : Crv) (ha : a.May) (hb : b.May) (w : World) :
    Calls Try.prog 22 #[.agg #[.int .u64 (a.f : Int), .int .u64 (a.l : Int), .int .u64 (a.r : Int)], .agg #[.int .u64 (b.f : Int), .int .u64 (b.l : Int), .int .u64 (b.r : Int)]] w
      fun e w' => e = .returned (.bool (decide (a.r ≤ b.r) && (a.leAt b a.l && a.leAt b b.l))) ∧ Chg NoChg w w' := by
  have MA := hide (fun w => cMay_any a w)
  have MB := hide (fun w => cMay_any b w)
  rw [crv_true ha] at MA
  rw [crv_true hb] at MB
  have HMAB := hide (And.intro ha hb)
  have T0 : TwoAt ((w.alloc (.cells #[.int .u64 (a.f : Int), .int .u64 (a.l : Int), .int .u64 (a.r : Int)] 24)).alloc (.cells #[.int .u64 (b.f : Int), .int .u64 (b.l : Int), .int .u64 (b.r : Int)] 24)) w.heap.size a b := ⟨(Blk.new _ _ _).alloc _, Blk.new' _ _ (by simp)⟩
  have T0 := hide T0
  clear ha hb
  by_cases hr : a.r ≤ b.r
  · have hr2 : decide (a.r ≤ b.r) = true := by simpa using hr
    have hr1 : decide (b.r < a.r) = false := by simp; omega
    rw [hr2, Bool.true_and]
    clear hr2 hr
    go_enter Try.func22, Try.ntmps22
    go_wp2_with fail
    refine (MA.out _).mono ?_
    rintro e w1 ⟨rfl, c1⟩
    have T1 := hide (T0.out.keep c1)
    have C1 := hide ((((Chg.refl NoChg w).alloc (.cells #[.int .u64 (a.f : Int), .int .u64 (a.l : Int), .int .u64 (a.r : Int)] 24)).alloc (.cells #[.int .u64 (b.f : Int), .int .u64 (b.l : Int), .int .u64 (b.r : Int)] 24)).trans' c1)
    clear c1
    obtain ⟨k0, k1, k2, k3, k4, k5⟩ := T1.out.cells
    go_wp2_with fail
    refine (MB.out _).mono ?_
    rintro e w2 ⟨rfl, c2⟩
    have T2 := hide (T1.out.keep c2)
    have C2 := hide (C1.out.trans' c2)
    clear c2 k0 k1 k2 k3 k4 k5
    obtain ⟨k0, k1, k2, k3, k4, k5⟩ := T2.out.cells
    have CC := hide (sCorners_two a b ⟨w2.heap.size, 0, none⟩ 2 (w2.alloc (.cells #[.int .u64 (a.f : Int), .int .u64 (a.l : Int), .int .u64 (a.r : Int), .int .u64 (b.f : Int), .int .u64 (b.l : Int), .int .u64 (b.r : Int)] 24)) (rowCrv (l := [a, b]) (Blk.new w2 #[.int .u64 (a.f : Int), .int .u64 (a.l : Int), .int .u64 (a.r : Int), .int .u64 (b.f : Int), .int .u64 (b.l : Int), .int .u64 (b.r : Int)] 24)) HMAB.out.1 HMAB.out.2)
    go_wp2_with fail
    refine (CC.out).mono ?_
    rintro e w3 ⟨v, ts, rfl, h1, h2, h3, h4⟩
    obtain ⟨tv, tc, rfl, _, hnv, hrowv⟩ := h1.row u64T.hc
    have T3 := hide ((T2.out.keep ((Chg.refl _ _).alloc (.cells #[.int .u64 (a.f : Int), .int .u64 (a.l : Int), .int .u64 (a.r : Int), .int .u64 (b.f : Int), .int .u64 (b.l : Int), .int .u64 (b.r : Int)] 24))).keep h4)
    have C3 := hide ((C2.out.alloc (.cells #[.int .u64 (a.f : Int), .int .u64 (a.l : Int), .int .u64 (a.r : Int), .int .u64 (b.f : Int), .int .u64 (b.l : Int), .int .u64 (b.r : Int)] 24)).trans' h4)
    have HR := hide (And.intro hrowv h3)
    have hlen := h2
    clear h1 h3 h4 hrowv hnv k0 k1 k2 k3 k4 k5
    go_wp2
    go_loopw [6, 27] (fun _ i wr => ∃ k : Nat, k ≤ ts.length ∧ i = .int .i64 k ∧ Chg NoChg w3 wr ∧ ∀ x ∈ ts.take k, a.leAt b x.toNat = true) (fun _ i _ => ts.length - (intOf i).toNat)
    case atStart => exact ⟨0, by omega, rfl, Chg.refl _ _, by simp⟩
    case round =>
      obtain ⟨k, hk, rfl, hc, hall⟩ := hrel
      rename_i wr
      have TR := hide (T3.out.keep hc)
      by_cases hlt : k < ts.length
      · obtain ⟨g, o, rfl, hj⟩ := HR.out.1 k hlt
        have e0 := hc.same (hj 0 _ rfl)
        have hmem := (HR.out.2 ts[k]).1 (List.getElem_mem hlt)
        have hts : ts.take (k + 1) = ts.take k ++ [ts[k]] := List.take_succ_eq_append_getElem hlt
        have hin : ts[k] ∈ ts := List.getElem_mem hlt
        generalize ts[k] = x at e0 hmem hts hin
        obtain ⟨n, rfl⟩ : ∃ n : Nat, x = (n : Int) := ⟨x.toNat, by omega⟩
        have hn : n < 18446744073709551616 := by
          have h5 := HMAB.out.1.hl
          have h6 := HMAB.out.2.hl
          omega
        have AA := fun (g' : Nat) (w' : World) (h : Blk w' g' #[.int .u64 (a.f : Int), .int .u64 (a.l : Int), .int .u64 (a.r : Int)] 24) => sAt_may [a] ⟨g', 0, none⟩ 1 n w' (rowCrv (l := [a]) h) (by simp) (by simp) (by intro c hc; simp at hc; subst hc; exact HMAB.out.1) hn
        have BB := fun (g' : Nat) (w' : World) (h : Blk w' g' #[.int .u64 (b.f : Int), .int .u64 (b.l : Int), .int .u64 (b.r : Int)] 24) => sAt_may [b] ⟨g', 0, none⟩ 1 n w' (rowCrv (l := [b]) h) (by simp) (by simp) (by intro c hc; simp at hc; subst hc; exact HMAB.out.2) hn
        have sa : Crv.sum [a] n = a.at n := by simp [Crv.sum]
        have sb : Crv.sum [b] n = b.at n := by simp [Crv.sum]
        rw [sa] at AA
        rw [sb] at BB
        have hle : a.leAt b n = decide (a.at n ≤ b.at n) := rfl
        have CM := wCmp_any (a.at n) (b.at n)
        have cg := cmp_gt (a.at n) (b.at n)
        generalize a.at n = x1 at AA hle CM cg
        generalize b.at n = x2 at BB hle CM cg
        generalize ((x1 / 18446744073709551616 : Nat) : Int) = y1 at AA CM
        generalize ((x1 % 18446744073709551616 : Nat) : Int) = y2 at AA CM
        generalize ((x2 / 18446744073709551616 : Nat) : Int) = y3 at BB CM
        generalize ((x2 % 18446744073709551616 : Nat) : Int) = y4 at BB CM
        have HA := hide AA
        have HBB := hide BB
        have HCM := hide CM
        have HB := hide (And.intro hc (And.intro hall (And.intro hts (And.intro hmem hin))))
        have k0 : (0 : Int) ≤ (k : Int) := by omega
        have k1 : (k : Int) < (ts.length : Int) := by omega
        have cgd : decide ((0 : Int) < cmpN x1 x2) = !(a.leAt b n) := by rw [cg, hle]
        have KEEP := hide (fun (w' : World) (h : Chg NoChg wr w') => (TR.out.keep h).cells)
        clear hc hall hts hmem hin AA BB CM cg hle sa sb hn hj
        simp only [Nat.add_zero, Nat.mul_one] at e0
        cases hL : a.leAt b n with
        | true =>
          rw [hL] at cgd
          have HL := hide hL
          clear hL
          go_wp2
          go_region_held3 (fun w' : World => w'.cell? ⟨w.heap.size, 0, none⟩ = some (.int .u64 (a.f : Int)) ∧ w'.cell? ⟨w.heap.size, 1, none⟩ = some (.int .u64 (a.l : Int)) ∧ w'.cell? ⟨w.heap.size, 2, none⟩ = some (.int .u64 (a.r : Int)) ∧ w'.cell? ⟨w.heap.size + 1, 0, none⟩ = some (.int .u64 (b.f : Int)) ∧ w'.cell? ⟨w.heap.size + 1, 1, none⟩ = some (.int .u64 (b.l : Int)) ∧ w'.cell? ⟨w.heap.size + 1, 2, none⟩ = some (.int .u64 (b.r : Int))) (exact KEEP.out _ (by (repeat' (first | (with_reducible exact Chg.refl _ _) | (with_reducible assumption) | (with_reducible refine Chg.alloc ?_ _) | (with_reducible refine Chg.drewN ?_ _) | (with_reducible refine Chg.drew ?_) | (with_reducible refine Chg.setCell ?_ _ ?_) | (apply Or.inl; with_reducible rfl) | (apply Or.inl; simp; done) | (apply Or.inr; simp; done) | (apply Or.inr; simp; omega))))) (first | (go_at_call 26; refine Calls.mono (HA.out _ _ ?_) ?_; (focus ((repeat' (first | (with_reducible refine Blk.new' _ _ ?_; first | rfl | (simp; done)) | (with_reducible refine Blk.alloc ?_ _) | (with_reducible refine Blk.drew ?_) | (with_reducible refine Blk.drewN ?_ _))); done)); rintro e w5 ⟨rfl, c5⟩; have d5 : Chg NoChg wr w5 := Chg.trans' (by (repeat' (first | (with_reducible exact Chg.refl _ _) | (with_reducible assumption) | (with_reducible refine Chg.alloc ?_ _) | (with_reducible refine Chg.drewN ?_ _) | (with_reducible refine Chg.drew ?_) | (with_reducible refine Chg.setCell ?_ _ ?_) | (apply Or.inl; with_reducible rfl) | (apply Or.inl; simp; done) | (apply Or.inr; simp; done) | (apply Or.inr; simp; omega)))) c5) | (go_at_call 26; refine Calls.mono (HBB.out _ _ ?_) ?_; (focus ((repeat' (first | (with_reducible refine Blk.new' _ _ ?_; first | rfl | (simp; done)) | (with_reducible refine Blk.alloc ?_ _) | (with_reducible refine Blk.drew ?_) | (with_reducible refine Blk.drewN ?_ _) | (with_reducible refine Chg.blk c5 ?_ (fun h => h)))); done)); rintro e w6 ⟨rfl, c6⟩; have d6 : Chg NoChg wr w6 := Chg.trans' (by (repeat' (first | (with_reducible exact Chg.refl _ _) | (with_reducible assumption) | (with_reducible refine Chg.alloc ?_ _) | (with_reducible refine Chg.drewN ?_ _) | (with_reducible refine Chg.drew ?_) | (with_reducible refine Chg.setCell ?_ _ ?_) | (apply Or.inl; with_reducible rfl) | (apply Or.inl; simp; done) | (apply Or.inr; simp; done) | (apply Or.inr; simp; omega)))) c6) | (go_at_call 27; refine (HCM.out _).mono ?_; rintro e w7 ⟨rfl, c7⟩; have d7 : Chg NoChg wr w7 := Chg.trans' (by (repeat' (first | (with_reducible exact Chg.refl _ _) | (with_reducible assumption) | (with_reducible refine Chg.alloc ?_ _) | (with_reducible refine Chg.drewN ?_ _) | (with_reducible refine Chg.drew ?_) | (with_reducible refine Chg.setCell ?_ _ ?_) | (apply Or.inl; with_reducible rfl) | (apply Or.inl; simp; done) | (apply Or.inr; simp; done) | (apply Or.inr; simp; omega)))) c7))
          all_goals
            go_wp2
            go_roundw
            case rel =>
              refine ⟨k + 1, by omega, by go_num, HB.out.1.trans' d7, fun x hx => ?_⟩
              rw [HB.out.2.2.1] at hx
              rcases List.mem_append.1 hx with h | h
              · exact HB.out.2.1 x h
              · simp only [List.mem_cons, List.not_mem_nil, or_false] at h
                subst h
                simpa using HL.out
            case measure => simp [intOf]; omega
        | false =>
          rw [hL] at cgd
          have hno : (a.leAt b a.l && a.leAt b b.l) = false := by
            rcases HB.out.2.2.2.1 with h | h | h
            · have h0 : n = 0 := by omega
              subst h0
              simp [Crv.leAt, Crv.at] at hL
            · have h0 : n = a.l := by omega
              subst h0
              rw [hL]; rfl
            · have h0 : n = b.l := by omega
              subst h0
              rw [hL]; cases a.leAt b a.l <;> rfl
          have HL := hide (And.intro hL hno)
          clear hL hno
          go_wp2
          go_region_held3 (fun w' : World => w'.cell? ⟨w.heap.size, 0, none⟩ = some (.int .u64 (a.f : Int)) ∧ w'.cell? ⟨w.heap.size, 1, none⟩ = some (.int .u64 (a.l : Int)) ∧ w'.cell? ⟨w.heap.size, 2, none⟩ = some (.int .u64 (a.r : Int)) ∧ w'.cell? ⟨w.heap.size + 1, 0, none⟩ = some (.int .u64 (b.f : Int)) ∧ w'.cell? ⟨w.heap.size + 1, 1, none⟩ = some (.int .u64 (b.l : Int)) ∧ w'.cell? ⟨w.heap.size + 1, 2, none⟩ = some (.int .u64 (b.r : Int))) (exact KEEP.out _ (by (repeat' (first | (with_reducible exact Chg.refl _ _) | (with_reducible assumption) | (with_reducible refine Chg.alloc ?_ _) | (with_reducible refine Chg.drewN ?_ _) | (with_reducible refine Chg.drew ?_) | (with_reducible refine Chg.setCell ?_ _ ?_) | (apply Or.inl; with_reducible rfl) | (apply Or.inl; simp; done) | (apply Or.inr; simp; done) | (apply Or.inr; simp; omega))))) (first | (go_at_call 26; refine Calls.mono (HA.out _ _ ?_) ?_; (focus ((repeat' (first | (with_reducible refine Blk.new' _ _ ?_; first | rfl | (simp; done)) | (with_reducible refine Blk.alloc ?_ _) | (with_reducible refine Blk.drew ?_) | (with_reducible refine Blk.drewN ?_ _))); done)); rintro e w5 ⟨rfl, c5⟩; have d5 : Chg NoChg wr w5 := Chg.trans' (by (repeat' (first | (with_reducible exact Chg.refl _ _) | (with_reducible assumption) | (with_reducible refine Chg.alloc ?_ _) | (with_reducible refine Chg.drewN ?_ _) | (with_reducible refine Chg.drew ?_) | (with_reducible refine Chg.setCell ?_ _ ?_) | (apply Or.inl; with_reducible rfl) | (apply Or.inl; simp; done) | (apply Or.inr; simp; done) | (apply Or.inr; simp; omega)))) c5) | (go_at_call 26; refine Calls.mono (HBB.out _ _ ?_) ?_; (focus ((repeat' (first | (with_reducible refine Blk.new' _ _ ?_; first | rfl | (simp; done)) | (with_reducible refine Blk.alloc ?_ _) | (with_reducible refine Blk.drew ?_) | (with_reducible refine Blk.drewN ?_ _) | (with_reducible refine Chg.blk c5 ?_ (fun h => h)))); done)); rintro e w6 ⟨rfl, c6⟩; have d6 : Chg NoChg wr w6 := Chg.trans' (by (repeat' (first | (with_reducible exact Chg.refl _ _) | (with_reducible assumption) | (with_reducible refine Chg.alloc ?_ _) | (with_reducible refine Chg.drewN ?_ _) | (with_reducible refine Chg.drew ?_) | (with_reducible refine Chg.setCell ?_ _ ?_) | (apply Or.inl; with_reducible rfl) | (apply Or.inl; simp; done) | (apply Or.inr; simp; done) | (apply Or.inr; simp; omega)))) c6) | (go_at_call 27; refine (HCM.out _).mono ?_; rintro e w7 ⟨rfl, c7⟩; have d7 : Chg NoChg wr w7 := Chg.trans' (by (repeat' (first | (with_reducible exact Chg.refl _ _) | (with_reducible assumption) | (with_reducible refine Chg.alloc ?_ _) | (with_reducible refine Chg.drewN ?_ _) | (with_reducible refine Chg.drew ?_) | (with_reducible refine Chg.setCell ?_ _ ?_) | (apply Or.inl; with_reducible rfl) | (apply Or.inl; simp; done) | (apply Or.inr; simp; done) | (apply Or.inr; simp; omega)))) c7))
          all_goals go_wp2
          all_goals go_ret
          all_goals exact ⟨by rw [HL.out.2]; rfl, (C3.out.trans' HB.out.1).trans' d7⟩
      · obtain rfl : k = ts.length := by omega
        rw [List.take_length] at hall
        have HB := hide (And.intro hc hall)
        clear hc hall
        go_wp2
        go_ret
        have e1 := HB.out.2 a.l ((HR.out.2 _).2 (by simp))
        have e2 := HB.out.2 b.l ((HR.out.2 _).2 (by simp))
        simp only [Int.toNat_natCast] at e1 e2
        exact ⟨by rw [e1, e2]; rfl, C3.out.trans' HB.out.1⟩
  · have hr2 : decide (a.r ≤ b.r) = false := by simpa using hr
    have hr1 : decide (b.r < a.r) = true := by simp; omega
    rw [hr2, Bool.false_and]
    clear hr2 hr
    go_enter Try.func22, Try.ntmps22
    go_wp2_with fail
    refine (MA.out _).mono ?_
    rintro e w1 ⟨rfl, c1⟩
    have T1 := hide (T0.out.keep c1)
    have C1 := hide ((((Chg.refl NoChg w).alloc (.cells #[.int .u64 (a.f : Int), .int .u64 (a.l : Int), .int .u64 (a.r : Int)] 24)).alloc (.cells #[.int .u64 (b.f : Int), .int .u64 (b.l : Int), .int .u64 (b.r : Int)] 24)).trans' c1)
    clear c1
    obtain ⟨k0, k1, k2, k3, k4, k5⟩ := T1.out.cells
    go_wp2_with fail
    refine (MB.out _).mono ?_
    rintro e w2 ⟨rfl, c2⟩
    have T2 := hide (T1.out.keep c2)
    have C2 := hide (C1.out.trans' c2)
    clear c2 k0 k1 k2 k3 k4 k5
    obtain ⟨k0, k1, k2, k3, k4, k5⟩ := T2.out.cells
    go_wp2
    go_ret
    exact ⟨rfl, C2.out⟩
end Go.Proofs.Ytofgajlpdnokdaa
