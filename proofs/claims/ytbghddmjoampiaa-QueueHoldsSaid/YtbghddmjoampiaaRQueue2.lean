/- The document's queue, more: Push. -/
import Derived.Test.YtbghddmjoampiaaRQueue
namespace Go.Proofs.Ytbghddmjoampiaa
set_option linter.unusedVariables false
open Go.RowKit

attribute [local go_sem] yieldC cell_over frozen_over

theorem r10May_any (p : Pkt) (w : World) :
    Calls Try.prog 35 #[.agg #[.int .u64 p.id, .int .i64 p.cls, .int .i64 p.len, .int .u64 p.at_], .int .i64 65535] w fun e w' => e = .returned (.int .i64 (mayN p 65535)) ∧ Chg NoChg w w' := by
  obtain ⟨id, cls, len, at_⟩ := p
  have E0 : mayN ⟨id, cls, len, at_⟩ 65535 = if len < 1 ∨ 65535 < len then 100 else 0 := if_neg (by omega)
  by_cases h3 : len < 1
  · have E := hide (E0.trans (if_pos (.inl h3)))
    clear E0
    go_enter Try.func35, Try.ntmps35
    go_wp2
    go_ret
    exact ⟨by rw [E.out]; rfl, (Chg.refl _ _).alloc _⟩
  · by_cases h4 : 65535 < len
    · have E := hide (E0.trans (if_pos (.inr h4)))
      clear E0
      go_enter Try.func35, Try.ntmps35
      go_wp2
      go_ret
      exact ⟨by rw [E.out]; rfl, (Chg.refl _ _).alloc _⟩
    · have E := hide (E0.trans (if_neg (by omega)))
      clear E0
      go_enter Try.func35, Try.ntmps35
      go_wp2
      go_ret
      exact ⟨by rw [E.out]; rfl, (Chg.refl _ _).alloc _⟩

theorem rPush_long {w : World} {d pk bt : Nat} {v : Value} {l : List Pkt} (h : RQueueIs w d v pk bt l) (p : Pkt) (hp : p.len < 1 ∨ 65535 < p.len) :
    Calls Try.prog 26 #[.pointer (some ⟨d, 0, none⟩), .agg #[.int .u64 p.id, .int .i64 p.cls, .int .i64 p.len, .int .u64 p.at_]] w fun e w' => e = .returned (.int .i64 100) ∧ Chg NoChg w w' := by
  have hm : mayN p 65535 = 100 := by
    unfold mayN
    rw [if_neg (by omega), if_pos (by omega)]
  have M := hide (fun w => r10May_any p w)
  rw [hm] at M
  clear hm h
  go_enter Try.func26, Try.ntmps26
  go_wp2_with fail
  refine (M.out _).mono ?_
  rintro e w2 ⟨rfl, hc⟩
  have HC := hide hc
  clear hc
  go_wp2
  go_ret
  exact ⟨rfl, ((Chg.refl _ _).alloc _).trans' HC.out⟩

set_option maxHeartbeats 1000000 in
theorem rPush_full {w : World} {d pk bt : Nat} {v : Value} {l : List Pkt} (h : RQueueIs w d v pk bt l) (p : Pkt) (hp : 1 ≤ p.len) (hp' : p.len ≤ 65535) (hfull : l.length = pk ∨ (bt : Int) - sumLen l < p.len) :
    Calls Try.prog 26 #[.pointer (some ⟨d, 0, none⟩), .agg #[.int .u64 p.id, .int .i64 p.cls, .int .i64 p.len, .int .u64 p.at_]] w fun e w' => e = .returned (.int .i64 110) ∧ Chg NoChg w w' := by
  have hm : mayN p 65535 = 0 := by
    unfold mayN
    rw [if_neg (by omega), if_neg (by omega)]
  have M := hide (fun w => r10May_any p w)
  rw [hm] at M
  have m1 := h.many
  have m2 := h.pk2
  have m3 := h.held
  have m4 := h.bt2
  have m5 := sumLen_nonneg l h.good
  have HH := hide h
  have HZ := hide (Blk.new w #[.int .u64 p.id, .int .i64 p.cls, .int .i64 p.len, .int .u64 p.at_] 32)
  clear h hm
  go_enter Try.func26, Try.ntmps26
  go_wp2_with fail
  refine (M.out _).mono ?_
  rintro e w2 ⟨rfl, hc⟩
  have hc0 := ((Chg.refl NoChg w).alloc (.cells #[.int .u64 p.id, .int .i64 p.cls, .int .i64 p.len, .int .u64 p.at_] 32)).trans' hc
  have H2 := hide (HH.out.keep hc0 (fun h => h) (fun _ _ h => h))
  have Z2 := hc.blk HZ.out (fun h => h)
  have z2 := Z2.cell 2
  have k0 := H2.out.blk.cell 0
  have k1 := H2.out.blk.cell 1
  have k2 := H2.out.blk.cell 2
  obtain ⟨a, cap, rfl, _, _, _⟩ := H2.out.own.row Pkt.cells_length
  simp at z2 k0 k1 k2
  have RB := hide (fun n => rBytes_any (H2.out.keep ((Chg.refl NoChg w2).drewN n) (fun h => h) (fun _ _ h => h)))
  have HC := hide hc0
  clear hc Z2 hc0
  by_cases hl : l.length = pk
  · have g : decide ((pk : Int) ≤ (l.length : Int)) = true := by simp; omega
    have g2 : decide (pk ≤ l.length) = true := by simp; omega
    have HF := hide (And.intro hfull hl)
    clear hfull hl
    go_wp2
    go_quiet (fail)
    go_wp2
    go_ret
    exact ⟨rfl, HC.out.drewN _⟩
  · have g : decide ((pk : Int) ≤ (l.length : Int)) = false := by simp; omega
    have g2 : decide (pk ≤ l.length) = false := by simp; omega
    have g3 : (bt : Int) < sumLen l + p.len := by rcases hfull with h | h <;> omega
    have HF := hide (And.intro hfull hl)
    clear hfull hl
    go_wp2
    go_quiet ((go_at_call 34; exact quiet_same (RB.out _)))
    go_wp2
    go_ret
    exact ⟨rfl, HC.out.drewN _⟩

theorem sumLen_snoc (l : List Pkt) (p : Pkt) : sumLen (l ++ [p]) = sumLen l + p.len := by rw [sumLen_append]; simp [sumLen]

set_option maxHeartbeats 1000000 in
theorem rPush_ok {w : World} {d pk bt : Nat} {v : Value} {l : List Pkt} (h : RQueueIs w d v pk bt l) (p : Pkt) (hp : 1 ≤ p.len) (hp' : p.len ≤ 65535) (hl : l.length < pk) (hs : p.len ≤ (bt : Int) - sumLen l) :
    Calls Try.prog 26 #[.pointer (some ⟨d, 0, none⟩), .agg #[.int .u64 p.id, .int .i64 p.cls, .int .i64 p.len, .int .u64 p.at_]] w fun e w' => e = .returned (.int .i64 0) ∧
      ∃ v', RQueueIs w' d v' pk bt (l ++ [p]) ∧ Chg (fun k => k = d ∨ v.ownBlock = some k) w w' ∧ (v'.ownBlock = v.ownBlock ∨ ∃ g, v'.ownBlock = some g ∧ w.heap.size ≤ g) := by
  have hm : mayN p 65535 = 0 := by
    unfold mayN
    rw [if_neg (by omega), if_neg (by omega)]
  have M := hide (fun w => r10May_any p w)
  rw [hm] at M
  have m1 := h.many
  have m2 := h.pk2
  have m3 := h.held
  have m4 := h.bt2
  have m5 := sumLen_nonneg l h.good
  have HH := hide h
  have HZ := hide (Blk.new w #[.int .u64 p.id, .int .i64 p.cls, .int .i64 p.len, .int .u64 p.at_] 32)
  have hd := h.blk.lt
  clear h hm
  go_enter Try.func26, Try.ntmps26
  go_wp2_with fail
  refine (M.out _).mono ?_
  rintro e w2 ⟨rfl, hc⟩
  have hc0 := ((Chg.refl NoChg w).alloc (.cells #[.int .u64 p.id, .int .i64 p.cls, .int .i64 p.len, .int .u64 p.at_] 32)).trans' hc
  have H2 := hide (HH.out.keep hc0 (fun h => h) (fun _ _ h => h))
  have Z2 := hc.blk HZ.out (fun h => h)
  have z0 := Z2.cell 0
  have z1 := Z2.cell 1
  have z2 := Z2.cell 2
  have z3 := Z2.cell 3
  have k0 := H2.out.blk.cell 0
  have k1 := H2.out.blk.cell 1
  have k2 := H2.out.blk.cell 2
  have hs2 : w.heap.size < w2.heap.size := Z2.lt
  have hd2 : d < w2.heap.size := by omega
  obtain ⟨a, cap, hv, _, _, _⟩ := H2.out.own.row Pkt.cells_length
  subst hv
  simp at z0 z1 z2 z3 k0 k1 k2
  have RB := hide (fun n => rBytes_any (H2.out.keep ((Chg.refl NoChg w2).drewN n) (fun h => h) (fun _ _ h => h)))
  have HC := hide hc0
  clear hc Z2 hc0
  have g : decide ((pk : Int) ≤ (l.length : Int)) = false := by simp; omega
  have g2 : decide (pk ≤ l.length) = false := by simp; omega
  have g3 : sumLen l + p.len ≤ (bt : Int) := by omega
  go_wp2
  go_quiet ((go_at_call 34; exact quiet_same (RB.out _)))
  go_wp2
  have o2 : ∀ x, (World.over (w2.drewN nq) x).cell? ⟨d, 2, none⟩ = some (.slice a l.length cap) := fun x => (cell_over (w := w2.drewN nq) hd2).trans k2
  have y0 : ∀ x, (World.over (w2.drewN nq) x).cell? ⟨w.heap.size, 0, none⟩ = some (.int .u64 p.id) := fun x => (cell_over (w := w2.drewN nq) hs2).trans z0
  have y1 : ∀ x, (World.over (w2.drewN nq) x).cell? ⟨w.heap.size, 1, none⟩ = some (.int .i64 p.cls) := fun x => (cell_over (w := w2.drewN nq) hs2).trans z1
  have y2 : ∀ x, (World.over (w2.drewN nq) x).cell? ⟨w.heap.size, 2, none⟩ = some (.int .i64 p.len) := fun x => (cell_over (w := w2.drewN nq) hs2).trans z2
  have y3 : ∀ x, (World.over (w2.drewN nq) x).cell? ⟨w.heap.size, 3, none⟩ = some (.int .u64 p.at_) := fun x => (cell_over (w := w2.drewN nq) hs2).trans z3
  refine wp_region_looks 1 6 7 (by kernel_rfl) (by kernel_rfl) ?_ ?_
  · exact fun _ _ _ _ _ h => h
  simp only [List.take_succ_cons, List.take_zero, List.drop_succ_cons, List.drop_zero]
  iterate 6 (refine wpYield_step (fun K hK => ?_); go_simp; (try (simp only [o2, y0, y1, y2, y3]; go_simp)); refine hK _ ?_; clear hK K)
  refine wpYield_nil ?_
  intro _ hw'
  obtain ⟨xo, hw''⟩ := hw'
  subst hw''
  simp only [wpMakes]
  have hb := Chg.trans' ((Chg.refl NoChg w2).drewN nq) (Chg.ofBelow (S := NoChg) (below_over (w2.drewN nq) xo))
  generalize World.over (w2.drewN nq) xo = w3 at hb ⊢
  have H3 := hide (H2.out.keep hb (fun h => h) (fun _ _ h => h))
  have HB := hide hb
  clear hb o2 y0 y1 y2 y3
  go_wp2
  have hbb := (HB.out.alloc (.cells #[.int .u64 p.id, .int .i64 p.cls, .int .i64 p.len, .int .u64 p.at_] 32)).toBelow (Nat.le_refl _) fun _ h => h.elim
  refine ⟨(over_of_below (w := w2.drewN nq) ⟨hbb.os, hbb.tape, hbb.output, hbb.size, hbb.block⟩).imp fun _ h => h, ?_⟩
  clear hbb
  have hs4 := HB.out.size
  go_wp2_with (at_builtin; refine wpList_append_rec pktT rfl (.tmp 34) (.tmp 36) rfl _ l rfl ?a1 (some ⟨w3.heap.size, 0, none⟩) 1 [p] rfl ?a2 ?a3 ?a4 ?a5 ?a6)
  case a1 => exact H3.out.own.keep ((Chg.refl NoChg w3).alloc _) (fun _ _ h => h)
  case a2 => intro h; cases h
  case a3 => exact RowBlk.row Pkt.cells_length (l := [p]) (Blk.new' _ _ rfl)
  case a4 => simp [maxLen]; omega
  case a5 => simp; omega
  case a6 =>
    intro v' w5 hown1 hc1 hv1
    obtain ⟨a', cap', hv', _, _, _⟩ := hown1.row Pkt.cells_length
    subst hv'
    have hob : ∀ j, (Value.slice a l.length cap).ownBlock = some j → j ≠ d := H3.out.ne
    have K1 : Chg (fun k => (Value.slice a l.length cap).ownBlock = some k) w w5 := (((HC.out.trans' HB.out).alloc (.cells #[.int .u64 p.id, .int .i64 p.cls, .int .i64 p.len, .int .u64 p.at_] 32)).mono fun _ h => h.elim).trans' hc1
    have K0 : Chg (fun k => (Value.slice a l.length cap).ownBlock = some k) w3 w5 := (((Chg.refl NoChg w3).alloc (.cells #[.int .u64 p.id, .int .i64 p.cls, .int .i64 p.len, .int .u64 p.at_] 32)).mono fun _ h => h.elim).trans' hc1
    have B5 := K0.blk H3.out.blk (fun h => hob d h rfl)
    have K2 : (Value.slice a' (l ++ [p]).length cap').ownBlock = (Value.slice a l.length cap).ownBlock ∨ ∃ g, (Value.slice a' (l ++ [p]).length cap').ownBlock = some g ∧ w.heap.size ≤ g := hv1.imp id fun h => ⟨w3.heap.size + 1, h, by omega⟩
    have K3 : ∀ j, (Value.slice a' (l ++ [p]).length cap').ownBlock = some j → j ≠ d := by
      intro j hj
      rcases K2 with h | ⟨g, h, hg⟩
      · exact hob j (h ▸ hj)
      · rw [h] at hj
        have := Option.some.inj hj
        omega
    have e5 := B5.cell 2
    have f5 := B5.frozen 2
    simp at e5
    have HK := hide (And.intro hown1 (And.intro K1 (And.intro K2 (And.intro K3 (And.intro B5 H3)))))
    clear hown1 hc1 hv1 hob K1 K0 K2 K3 B5
    go_wp2
    go_ret
    obtain ⟨h1, h2, h3, h4, h5, h6⟩ := HK.out
    have el : (l ++ [p]).length = l.length + 1 := by simp
    simp only [el] at h1 h3 h4 h5
    refine ⟨rfl, _, ⟨h5.set 2 _, h1.keep (S := fun k => k = d) ((Chg.refl _ _).setCell _ (.inl rfl)) (fun j hj => h4 j hj), h4, by simp; omega, ?_, ?_, h6.out.pk2, h6.out.bt2⟩, ?_, h3⟩
    · rw [sumLen_snoc]
      omega
    · intro q hq
      rcases List.mem_append.1 hq with hq | hq
      · exact h6.out.good q hq
      · rw [List.mem_singleton.1 hq]
        exact ⟨hp, hp'⟩
    · exact (h2.mono fun k hk => .inl (.inr hk)).setCell _ (.inl (.inl rfl))
end Go.Proofs.Ytbghddmjoampiaa
