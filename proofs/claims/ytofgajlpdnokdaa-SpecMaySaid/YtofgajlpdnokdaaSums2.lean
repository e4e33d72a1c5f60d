/- Sums of curves that may be, at a tick. -/
import Derived.Test.YtofgajlpdnokdaaSums
import Derived.Test.YtofgajlpdnokdaaOrd
import Derived.Outline
import Derived.Deep.DeepCutAuto
import Derived.Deep.RegionHeld3
namespace Go.Proofs.Ytofgajlpdnokdaa
set_option linter.unusedVariables false
open Go.RowKit
attribute [local go_sem] yieldC

theorem slDelete_none (l : List Crv) (a : Option Addr) (cap : Nat) (w : World) (hrow : RowAt Crv.cells 3 w a l) (hl : l.length ≤ 1000) (hm : ∀ c ∈ l, c.May) :
    Calls Try.prog 36 #[.slice a l.length cap, .func (.func 38) #[] #[]] w fun e w' => e = .returned (.slice a l.length cap) ∧ Chg NoChg w w' := by
  have I := hide (slIndex_none l a cap w hrow hl hm)
  clear hrow hm
  go_enter Try.func36, Try.ntmps36
  go_wp2_with fail
  refine (I.out).mono ?_
  rintro e w1 ⟨rfl, c1⟩
  have C := hide c1
  clear c1
  go_wp2
  go_ret
  exact ⟨rfl, C.out⟩

theorem sumsMay_all (l : List Crv) (ad : Addr) (cap : Nat) (w : World) (hrow : RowAt Crv.cells 3 w (some ad) l) (hl : l.length ≤ 1000) (h0 : l ≠ []) (hm : ∀ c ∈ l, c.May) :
    Calls Try.prog 30 #[.slice (some ad) l.length cap] w fun e w' => ∃ v, e = .returned v ∧ Own Crv.cells 3 24 w' v l ∧ Chg NoChg w w' ∧ ∀ k, v.ownBlock = some k → w.heap.size ≤ k := by
  have C := hide (slClone_any l ad cap w hrow hl h0)
  have D := hide (fun a cap w (h : RowAt Crv.cells 3 w a l) => slDelete_none l a cap w h hl hm)
  clear hrow h0 hm
  go_enter Try.func30, Try.ntmps30
  go_wp2_with fail
  refine (C.out).mono ?_
  rintro e w1 ⟨v, rfl, h1, h2, h3⟩
  have R := h1.row Crv.cells_length
  obtain ⟨a1, cap1, rfl, hc1, hn1, hrow1⟩ := R
  have DD := hide (D.out a1 cap1 w1 hrow1)
  have HH := hide (And.intro h1 (And.intro h2 h3))
  clear h1 h2 h3 hrow1 hn1 hc1
  go_wp2_with fail
  refine (DD.out).mono ?_
  rintro e w2 ⟨rfl, c2⟩
  have HC := hide c2
  clear c2
  go_wp2
  go_ret
  exact ⟨_, rfl, HH.out.1.keep HC.out (fun _ _ h => h), HH.out.2.1.trans' HC.out, HH.out.2.2⟩

theorem sPlus_any (m n : Nat) (w : World) (h : m + n < 340282366920938463463374607431768211456) :
    Calls Try.prog 33 #[.agg #[.int .u64 ((m / 18446744073709551616 : Nat) : Int), .int .u64 ((m % 18446744073709551616 : Nat) : Int)], .agg #[.int .u64 ((n / 18446744073709551616 : Nat) : Int), .int .u64 ((n % 18446744073709551616 : Nat) : Int)]] w
      fun e w' => e = .returned (.agg #[.int .u64 (((m + n) / 18446744073709551616 : Nat) : Int), .int .u64 (((m + n) % 18446744073709551616 : Nat) : Int)]) ∧ Chg NoChg w w' := by
  have P := hide (fun w => wPlus_any m n w h)
  clear h
  generalize (((m + n) / 18446744073709551616 : Nat) : Int) = x1 at P ⊢
  generalize (((m + n) % 18446744073709551616 : Nat) : Int) = x2 at P ⊢
  generalize ((m / 18446744073709551616 : Nat) : Int) = x3 at P ⊢
  generalize ((m % 18446744073709551616 : Nat) : Int) = x4 at P ⊢
  generalize ((n / 18446744073709551616 : Nat) : Int) = x5 at P ⊢
  generalize ((n % 18446744073709551616 : Nat) : Int) = x6 at P ⊢
  go_enter Try.func33, Try.ntmps33
  go_wp2_with fail
  refine (P.out _).mono ?_
  rintro e w1 ⟨rfl, c1⟩
  have q := c1.blk (Blk.new' (w := (w.alloc (.cells #[.int .u64 x3, .int .u64 x4] 43)).alloc (.cells #[.int .u64 x5, .int .u64 x6] 43)) (n := w.heap.size + 1 + 1) #[.int .u64 0, .int .u64 0] 43 (by simp)) (fun h => h)
  have C1 := hide (((((Chg.refl NoChg w).alloc (.cells #[.int .u64 x3, .int .u64 x4] 43)).alloc (.cells #[.int .u64 x5, .int .u64 x6] 43)).alloc (.cells #[.int .u64 0, .int .u64 0] 43)).trans' c1)
  have ql := q.lt
  have k0 := q.cell 0
  have k1 := q.cell 1
  have kf := q.frozen
  simp at k0 k1
  clear q c1
  go_wp2
  refine bodyPost_ret (v := .agg #[.int .u64 x1, .int .u64 x2]) (by simp [results, Try.results33, go_sem, k0, k1, ql]) rfl ⟨rfl, ?_⟩
  have c1 := C1.out
  (repeat' (first | (with_reducible exact Chg.refl _ _) | (with_reducible assumption) | (with_reducible refine Chg.alloc ?_ _) | (with_reducible refine Chg.drewN ?_ _) | (with_reducible refine Chg.drew ?_) | (with_reducible refine Chg.setCell ?_ _ ?_) | (apply Or.inl; with_reducible rfl) | (apply Or.inl; simp; done) | (apply Or.inr; simp; done) | (apply Or.inr; simp; omega)))

def Crv.sum (l : List Crv) (t : Nat) : Nat := (l.map fun c => c.at t).sum

theorem Crv.sum_succ (l : List Crv) (t k : Nat) (h : k < l.length) : Crv.sum (l.take (k + 1)) t = Crv.sum (l.take k) t + l[k].at t := by
  simp only [Crv.sum, List.take_succ_eq_append_getElem h, List.map_append, List.sum_append]
  simp

theorem Crv.sum_le (l : List Crv) (t : Nat) (ht : t < 18446744073709551616) (hm : ∀ c ∈ l, c.May) : Crv.sum l t ≤ l.length * 38685626227668133590597632 := by
  induction l with
  | nil => simp [Crv.sum]
  | cons c l ih =>
    have h1 := ih (fun c hc => hm c (by simp [hc]))
    have h2 := c.at_le (hm c (by simp)) t ht
    have h3 : c.at t ≤ 38685626227668133590597632 := by unfold Crv.at; omega
    simp only [Crv.sum, List.map_cons, List.sum_cons, List.length_cons] at *
    omega

set_option maxRecDepth 100000 in
set_option maxHeartbeats 2000000 in
theorem sAt_may (l : List Crv) (ad : Addr) (cap : Nat) (t : Nat) (w : World) (hrow : RowAt Crv.cells 3 w (some ad) l) (hl : l.length ≤ 1000) (h0 : l ≠ []) (hm : ∀ c ∈ l, c.May) (ht : t < 18446744073709551616) :
    Calls Try.prog 26 #[.slice (some ad) l.length cap, .int .u64 (t : Int)] w fun e w' => e = .returned (.agg #[.int .u64 ((Crv.sum l t / 18446744073709551616 : Nat) : Int), .int .u64 ((Crv.sum l t % 18446744073709551616 : Nat) : Int)]) ∧ Chg NoChg w w' := by
  have M := hide (fun w' (c : Chg NoChg w w') => sumsMay_all l ad cap w' (hrow.keep c (fun _ _ h => h)) hl h0 hm)
  have HM := hide hm
  have HSL := hide (fun k (h : k ≤ l.length) => Crv.sum_le (l.take k) t ht (fun c hc => hm c (List.mem_of_mem_take hc)))
  have HT := hide ht
  clear hrow h0 hm
  go_enter Try.func26, Try.ntmps26
  go_wp2_with fail
  refine (M.out _ (by (repeat' (first | (with_reducible exact Chg.refl _ _) | (with_reducible assumption) | (with_reducible refine Chg.alloc ?_ _) | (with_reducible refine Chg.drewN ?_ _) | (with_reducible refine Chg.drew ?_) | (with_reducible refine Chg.setCell ?_ _ ?_) | (apply Or.inl; with_reducible rfl) | (apply Or.inl; simp; done) | (apply Or.inr; simp; done) | (apply Or.inr; simp; omega))))).mono ?_
  rintro e w1 ⟨v, rfl, h1, h2, h3⟩
  have R := h1.row Crv.cells_length
  obtain ⟨a1, cap1, rfl, hc1, hn1, hrow1⟩ := R
  have HC2 := hide h2
  have B1 := hide (h2.blk (Blk.new' (w := w.alloc (.cells #[.int .u64 0, .int .u64 0] 43)) (n := w.heap.size + 1) #[.int .u64 0, .int .u64 0] 43 (by simp)) (fun h => h))
  have HR := hide (And.intro h1 h3)
  clear h1 h2 h3 hrow1 hn1 hc1
  have B0 := hide (HC2.out.blk ((Blk.new w #[.int .u64 0, .int .u64 0] 43).alloc (.cells #[.int .u64 0, .int .u64 0] 43)) (fun h => h))
  go_wp2
  go_loopw [7, 8, 12] (fun _ _ i wr => ∃ (k : Nat) (hi lo : Int), k ≤ l.length ∧ i = .int .i64 k ∧ Blk wr (w.heap.size + 1) #[.int .u64 hi, .int .u64 lo] 43 ∧ Chg (fun b => b = w.heap.size + 1) w1 wr ∧ Hid (hi = ((Crv.sum (l.take k) t / 18446744073709551616 : Nat) : Int) ∧ lo = ((Crv.sum (l.take k) t % 18446744073709551616 : Nat) : Int))) (fun _ _ i _ => l.length - (intOf i).toNat)
  case atStart => exact ⟨0, 0, 0, by omega, rfl, B1.out, Chg.refl _ _, hide ⟨by simp [Crv.sum], by simp [Crv.sum]⟩⟩
  case round =>
    obtain ⟨k, hi, lo, hk, rfl, hb, hc, HV⟩ := hrel
    rename_i wr
    by_cases hlt : k < l.length
    · have hown : Own Crv.cells 3 24 wr (.slice a1 l.length cap1) l := HR.out.1.keep hc (fun j hj e => by have := HR.out.2 j hj; simp at this; omega)
      obtain ⟨a2, cap2, e2, _, _, hrow2⟩ := hown.row Crv.cells_length
      injection e2 with e21 e22 e23
      subst e21 e23
      obtain ⟨g, o, rfl, hj⟩ := hrow2 k hlt
      have hmc := HM.out l[k] (List.getElem_mem hlt)
      have hs := Crv.sum_succ l t k hlt
      have hs1 := HSL.out k hk
      have hs2 := HSL.out (k + 1) hlt
      have hl1 : (l.take k).length ≤ 1000 := by rw [List.length_take]; omega
      have hl2 : (l.take (k + 1)).length ≤ 1000 := by rw [List.length_take]; omega
      generalize l[k] = c at hj hmc hs
      have e0 := hj 0 _ rfl
      have e1 := hj 1 _ rfl
      have e2 := hj 2 _ rfl
      simp only [Nat.add_zero] at e0
      have k0 : (0 : Int) ≤ (k : Int) := by omega
      have k1 : (k : Int) < (l.length : Int) := by omega
      -- what the round reckons, each number under a name
      obtain ⟨n, hn⟩ : ∃ n, min t c.l = n := ⟨_, rfl⟩
      obtain ⟨d, hd⟩ : ∃ d, t - n = d := ⟨_, rfl⟩
      have hat : c.at t = c.f * n + c.r * d := by
        unfold Crv.at
        rw [hn, hd]
      have hal := c.at_le hmc t HT.out
      rw [hn, hd] at hal
      have ht := HT.out
      have hf1 := hmc.hf
      have hf2 := hmc.hr
      have hf3 := hmc.hl
      have M1 := fun w' => wMul_any c.f n w' (by omega) (by omega)
      have M2 := fun w' => wMul_any c.r d w' (by omega) (by omega)
      have P1 := fun w' => sPlus_any (c.f * n) (c.r * d) w' (by omega)
      have P2 := fun w' => sPlus_any (Crv.sum (l.take k) t) (c.f * n + c.r * d) w' (by omega)
      rw [← HV.out.1, ← HV.out.2] at P2
      rw [← hat, ← hs] at P2
      have hsub : IntKind.u64.wrap ((t : Int) - (n : Int)) = (d : Int) := by rw [wraps_u64 _ (by omega) (by omega)]; omega
      have HN := hide hn
      clear hn hal hf1 hf2 hf3 hs hs1 hs2 hl1 hl2 hd
      obtain ⟨r1, hr1⟩ : ∃ r1, ((Crv.sum (l.take (k + 1)) t / 18446744073709551616 : Nat) : Int) = r1 := ⟨_, rfl⟩
      obtain ⟨r2, hr2⟩ : ∃ r2, ((Crv.sum (l.take (k + 1)) t % 18446744073709551616 : Nat) : Int) = r2 := ⟨_, rfl⟩
      rw [hr1, hr2] at P2
      rw [hat] at P2
      have HRR := hide (And.intro hr1.symm hr2.symm)
      clear hr1 hr2 hat
      generalize ((c.f * n / 18446744073709551616 : Nat) : Int) = x1 at M1 P1
      generalize ((c.f * n % 18446744073709551616 : Nat) : Int) = x2 at M1 P1
      generalize ((c.r * d / 18446744073709551616 : Nat) : Int) = y1 at M2 P1
      generalize ((c.r * d % 18446744073709551616 : Nat) : Int) = y2 at M2 P1
      generalize (((c.f * n + c.r * d) / 18446744073709551616 : Nat) : Int) = z1 at P1 P2
      generalize (((c.f * n + c.r * d) % 18446744073709551616 : Nat) : Int) = z2 at P1 P2
      have HM1 := hide M1
      have HM2 := hide M2
      have HP1 := hide P1
      have HP2 := hide P2
      have HSUB := hide hsub
      have HB := hide (And.intro hb hc)
      have HMC := hide hmc
      have G0 : ∀ x, Chg NoChg (wr.alloc (.cells #[.int .u64 (c.f : Int), .int .u64 (c.l : Int), .int .u64 (c.r : Int)] 24)) (graft NoChg (wr.alloc (.cells #[.int .u64 (c.f : Int), .int .u64 (c.l : Int), .int .u64 (c.r : Int)] 24)) x) := fun x => chg_graft _ _ _
      have g1 := fun x => (fun h => ((h.blk (hb.alloc _) (fun h => h))).cell 0) (G0 x)
      have g2 := fun x => (fun h => ((h.blk (hb.alloc _) (fun h => h))).cell 1) (G0 x)
      have g3 := fun x => (fun h => ((h.blk (Blk.new wr #[.int .u64 (c.f : Int), .int .u64 (c.l : Int), .int .u64 (c.r : Int)] 24) (fun h => h))).cell 0) (G0 x)
      have g4 := fun x => (fun h => ((h.blk (Blk.new wr #[.int .u64 (c.f : Int), .int .u64 (c.l : Int), .int .u64 (c.r : Int)] 24) (fun h => h))).cell 1) (G0 x)
      have g5 := fun x => (fun h => ((h.blk (Blk.new wr #[.int .u64 (c.f : Int), .int .u64 (c.l : Int), .int .u64 (c.r : Int)] 24) (fun h => h))).cell 2) (G0 x)
      have KEEP := hide (fun (w' : World) (h : Chg NoChg (wr.alloc (.cells #[.int .u64 (c.f : Int), .int .u64 (c.l : Int), .int .u64 (c.r : Int)] 24)) w') => And.intro (((h.blk (hb.alloc _) (fun h => h))).frozen 0) (And.intro (((h.blk (hb.alloc _) (fun h => h))).frozen 1) (And.intro (((h.blk (hb.alloc _) (fun h => h))).cell 0) (((h.blk (hb.alloc _) (fun h => h))).cell 1))))
      simp at g1 g2 g3 g4 g5 KEEP
      have hzz := hb.lt
      clear hb hc hmc hown hrow2 hj M1 M2 P1 P2 hsub ht
      go_upto_region 5 with (fail)
      go_cut [8] (fun s8 wx => s8 = .int .u64 (n : Int) ∧ wx = wr.alloc (.cells #[.int .u64 (c.f : Int), .int .u64 (c.l : Int), .int .u64 (c.r : Int)] 24))
      case first =>
        go_wp2
        all_goals go_meet
        all_goals exact ⟨by rw [← HN.out]; congr 1; omega, rfl⟩
      case rest =>
        obtain ⟨rfl, rfl⟩ := hcut
        go_wp2
        have hsub := HSUB.out
        refine wp_region_ord [3, 7, 8] [0, 1, 2, 5, 6, 9] [4, 10, 11, 12] [13] (graft (NoChg) (wr.alloc (.cells #[.int .u64 (c.f : Int), .int .u64 (c.l : Int), .int .u64 (c.r : Int)] 24))) (by kernel_rfl) (by kernel_rfl) ?_ (graft_of_chg (by (repeat' (first | (with_reducible exact Chg.refl _ _) | (with_reducible assumption) | (with_reducible refine Chg.alloc ?_ _) | (with_reducible refine Chg.drewN ?_ _) | (with_reducible refine Chg.drew ?_) | (with_reducible refine Chg.setCell ?_ _ ?_) | (apply Or.inl; with_reducible rfl) | (apply Or.inl; simp; done) | (apply Or.inr; simp; done) | (apply Or.inr; simp; omega))))) ?_
        · exact fun _ _ _ _ _ h => h
        simp only [pick, List.getElem?_toArray, List.getElem?_cons_zero, List.getElem?_cons_succ]
        iterate 3 (refine wpYield_step (fun K hK => ?_); go_simp; refine hK _ ?_; clear hK K)
        refine wpYield_nil ?_
        iterate 6 (refine wpYield_step (fun K hK => ?_); go_simp; refine hK _ ?_; clear hK K)
        refine wpYield_nil ?_
        intro _ hw'
        obtain ⟨xo, hw''⟩ := hw'
        subst hw''
        simp only [wpMakes]
        have c3 := chg_graft NoChg (wr.alloc (.cells #[.int .u64 (c.f : Int), .int .u64 (c.l : Int), .int .u64 (c.r : Int)] 24)) xo
        generalize graft NoChg (wr.alloc (.cells #[.int .u64 (c.f : Int), .int .u64 (c.l : Int), .int .u64 (c.r : Int)] 24)) xo = w3 at c3 ⊢
        clear g1 g2 g3 g4 g5 hsub
        go_wp2_with fail
        refine (HM1.out _).mono ?_
        rintro e w4 ⟨rfl, d4⟩
        have c4 := c3.trans' d4
        clear d4 c3
        go_wp2
        refine ⟨graft_of_chg c4, ?_⟩
        go_wp2_with fail
        refine (HM2.out _).mono ?_
        rintro e w5 ⟨rfl, d5⟩
        have c5 := c4.trans' d5
        clear d5 c4
        go_wp2
        refine ⟨graft_of_chg c5, ?_⟩
        go_wp2_with fail
        refine (HP1.out _).mono ?_
        rintro e w6 ⟨rfl, d6⟩
        have c6 := c5.trans' d6
        clear d6 c5
        go_wp2
        refine ⟨graft_of_chg c6, ?_⟩
        go_wp2_with fail
        refine (HP2.out _).mono ?_
        rintro e w7 ⟨rfl, d7⟩
        have c7 := c6.trans' d7
        clear d7 c6
        go_wp2
        refine ⟨graft_of_chg c7, ?_⟩
        have K7 := KEEP.out _ c7
        obtain ⟨f1, f2, f3, f4⟩ := K7
        have C7 := hide c7
        clear c7
        go_wp2
        go_roundw
        case rel =>
          refine ⟨k + 1, r1, r2, by omega, by go_num, ?_, ?_, HRR⟩
          · exact ((C7.out.blk (HB.out.1.alloc _) (fun h => h)).set 0 _).set 1 _
          · have h7 := (((Chg.refl NoChg wr).alloc _).trans' C7.out)
            have h8 := HB.out.2.trans h7 (fun k h => h.elim)
            (repeat' (first | (with_reducible exact Chg.refl _ _) | (with_reducible assumption) | (with_reducible refine Chg.alloc ?_ _) | (with_reducible refine Chg.drewN ?_ _) | (with_reducible refine Chg.drew ?_) | (with_reducible refine Chg.setCell ?_ _ ?_) | (apply Or.inl; with_reducible rfl) | (apply Or.inl; simp; done) | (apply Or.inr; simp; done) | (apply Or.inr; simp; omega)))
        case measure => simp [intOf]; omega
    · obtain rfl : k = l.length := by omega
      rw [List.take_length] at HV
      have c0 := hb.cell 0
      have c1 := hb.cell 1
      have q := hc.blk B0.out (by omega)
      have ql := q.lt
      have q0 := q.cell 0
      have q1 := q.cell 1
      have qf := q.frozen
      simp at c0 c1 q0 q1
      have HB := hide (And.intro hb hc)
      clear hb hc q
      go_wp2
      refine bodyPost_ret (v := .agg #[.int .u64 hi, .int .u64 lo]) (by simp [results, Try.results26, go_sem, q0, q1]) rfl ⟨by rw [HV.out.1, HV.out.2], ?_⟩
      have c1 := (((((Chg.refl NoChg w).alloc _).alloc _).trans' HC2.out)).trans HB.out.2 (fun k hk => .inr (by have hk2 : k = w.heap.size + 1 := hk; omega))
      (repeat' (first | (with_reducible exact Chg.refl _ _) | (with_reducible assumption) | (with_reducible refine Chg.alloc ?_ _) | (with_reducible refine Chg.drewN ?_ _) | (with_reducible refine Chg.drew ?_) | (with_reducible refine Chg.setCell ?_ _ ?_) | (apply Or.inl; with_reducible rfl) | (apply Or.inl; simp; done) | (apply Or.inr; simp; done) | (apply Or.inr; simp; omega)))
end Go.Proofs.Ytofgajlpdnokdaa
