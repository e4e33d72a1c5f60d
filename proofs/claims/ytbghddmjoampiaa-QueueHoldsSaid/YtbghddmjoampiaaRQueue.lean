/- The document's queue, a row: what each of its functions does, over memory. -/
import Derived.Test.YtbghddmjoampiaaQueueDo
import Derived.Test.YtbghddmjoampiaaHeld
namespace Go.Proofs.Ytbghddmjoampiaa
set_option linter.unusedVariables false
open Go.RowKit

attribute [local go_sem] yieldC cell_over frozen_over

/-- At block d lies the document's queue; v is its row. -/
structure RQueueIs (w : World) (d : Nat) (v : Value) (pk bt : Nat) (l : List Pkt) : Prop where
  blk : Blk w d #[.int .i64 (pk : Int), .int .i64 (bt : Int), v] 62
  own : Own Pkt.cells 4 32 w v l
  ne : ∀ j, v.ownBlock = some j → j ≠ d
  many : l.length ≤ pk
  held : sumLen l ≤ bt
  good : ∀ p ∈ l, goodLen p
  pk2 : pk ≤ 4096
  bt2 : bt ≤ 16777216

theorem RQueueIs.keep {w w1 : World} {d pk bt : Nat} {v : Value} {l : List Pkt} {S : Nat → Prop} (h : RQueueIs w d v pk bt l) (hc : Chg S w w1) (hd : ¬ S d) (hv : ∀ j, v.ownBlock = some j → ¬ S j) : RQueueIs w1 d v pk bt l :=
  ⟨hc.blk h.blk hd, h.own.keep hc hv, h.ne, h.many, h.held, h.good, h.pk2, h.bt2⟩

theorem rNew_nil (pk bt : Int) (w : World) (h : pk < 1 ∨ 4096 < pk ∨ bt < 1 ∨ 16777216 < bt) :
    Calls Try.prog 23 #[.int .i64 pk, .int .i64 bt] w fun e w' => e = .returned (.pointer none) ∧ w = w' := by
  by_cases h1 : pk < 1
  · go_enter Try.func23, Try.ntmps23
    go_wp2
    go_ret
    exact ⟨rfl, rfl⟩
  · by_cases h2 : 4096 < pk
    · go_enter Try.func23, Try.ntmps23
      go_wp2
      go_ret
      exact ⟨rfl, rfl⟩
    · by_cases h3 : bt < 1
      · go_enter Try.func23, Try.ntmps23
        go_wp2
        go_ret
        exact ⟨rfl, rfl⟩
      · have h4 : 16777216 < bt := by omega
        go_enter Try.func23, Try.ntmps23
        go_wp2
        go_ret
        exact ⟨rfl, rfl⟩

theorem rNew_ok (pk bt : Nat) (w : World) (h1 : 1 ≤ pk) (h2 : pk ≤ 4096) (h3 : 1 ≤ bt) (h4 : bt ≤ 16777216) :
    Calls Try.prog 23 #[.int .i64 (pk : Int), .int .i64 (bt : Int)] w fun e w' => e = .returned (.pointer (some ⟨w.heap.size, 0, none⟩)) ∧ RQueueIs w' w.heap.size (.slice none 0 0) pk bt [] ∧ Chg NoChg w w' := by
  have i1 : (1 : Int) ≤ (pk : Int) := by omega
  have i2 : (pk : Int) ≤ 4096 := by omega
  have i3 : (1 : Int) ≤ (bt : Int) := by omega
  have i4 : (bt : Int) ≤ 16777216 := by omega
  go_enter Try.func23, Try.ntmps23
  go_wp2
  go_ret
  exact ⟨rfl, ⟨Blk.new _ _ _, Own.nil _ _ _ _, fun j hj => by simp [Value.ownBlock] at hj, by simp, by simp [sumLen], by simp, h2, h4⟩, (Chg.refl _ _).alloc _⟩

theorem rLen_any {w : World} {d pk bt : Nat} {v : Value} {l : List Pkt} (h : RQueueIs w d v pk bt l) :
    Calls Try.prog 33 #[.pointer (some ⟨d, 0, none⟩)] w fun e w' => e = .returned (.int .i64 (l.length : Int)) ∧ w = w' := by
  obtain ⟨a, cap, rfl, _, _, _⟩ := h.own.row Pkt.cells_length
  have c2 := h.blk.cell 2
  simp at c2
  clear h
  go_enter Try.func33, Try.ntmps33
  go_wp2
  go_ret
  exact ⟨rfl, rfl⟩

theorem rBytes_any {w : World} {d pk bt : Nat} {v : Value} {l : List Pkt} (h : RQueueIs w d v pk bt l) :
    Calls Try.prog 34 #[.pointer (some ⟨d, 0, none⟩)] w fun e w' => e = .returned (.int .i64 (sumLen l)) ∧ w = w' := by
  obtain ⟨a, cap, rfl, _, _, hrow⟩ := h.own.row Pkt.cells_length
  have c2 := h.blk.cell 2
  simp at c2
  have m1 := h.held
  have m2 := h.bt2
  have m3 := h.many
  have m4 := h.pk2
  have ml := hide (sumLen_bounds l h.good)
  have HR := hide hrow
  clear h hrow
  go_enter Try.func34, Try.ntmps34
  go_wp2
  go_loop [3, 4] (fun s i => ∃ k : Nat, k ≤ l.length ∧ i = .int .i64 k ∧ s = .int .i64 (sumLen (l.take k))) (fun _ i => l.length - (intOf i).toNat)
  case atStart => exact ⟨0, by omega, rfl, rfl⟩
  case round =>
    obtain ⟨k, hk, rfl, rfl⟩ := hrel
    by_cases hlt : k < l.length
    · obtain ⟨g, o, rfl, hj⟩ := HR.out k hlt
      have j2 := hj 2 _ rfl
      have n1 := ml.out k
      have n2 := ml.out (k + 1)
      have es : sumLen (l.take (k + 1)) = sumLen (l.take k) + l[k].len := by
        rw [List.take_succ_eq_append_getElem hlt, sumLen_append]
        simp [sumLen]
      rw [es] at n2
      have ES := hide es
      generalize sumLen (l.take k) = s at *
      generalize l[k] = pq at *
      obtain ⟨n1a, n1b⟩ := n1
      obtain ⟨n2a, n2b⟩ := n2
      have k0 : (0 : Int) ≤ (k : Int) := by omega
      have k1 : (k : Int) < (l.length : Int) := by omega
      clear hj es
      go_wp2
      go_round
      case rel => exact ⟨k + 1, by omega, by go_num, by rw [ES.out]⟩
      case measure => simp [intOf]; omega
    · have hkl : k = l.length := by omega
      have et : sumLen (l.take k) = sumLen l := by rw [hkl, List.take_length]
      rw [et]
      clear hkl et
      go_wp2
      go_ret
      exact ⟨rfl, rfl⟩

theorem rHead_none {w : World} {d pk bt : Nat} {v : Value} (h : RQueueIs w d v pk bt []) :
    Calls Try.prog 32 #[.pointer (some ⟨d, 0, none⟩)] w fun e w' => e = .returned (.tuple #[.agg #[.int .u64 0, .int .i64 0, .int .i64 0, .int .u64 0], .bool false]) ∧ Chg NoChg w w' := by
  obtain ⟨a, cap, rfl, _, _, hrow⟩ := h.own.row Pkt.cells_length
  have hd := h.blk.lt
  have c2 := h.blk.cell 2
  simp at c2
  clear h hrow
  go_enter Try.func32, Try.ntmps32
  go_wp2
  refine bodyPost_ret (v := .tuple #[.agg #[.int .u64 0, .int .i64 0, .int .i64 0, .int .u64 0], .bool false]) (by simp [results, Try.results32, go_sem]) rfl ⟨rfl, ?_⟩
  (repeat' (first | (with_reducible exact Chg.refl _ _) | (with_reducible assumption) | (with_reducible refine Chg.alloc ?_ _) | (with_reducible refine Chg.drewN ?_ _) | (with_reducible refine Chg.drew ?_) | (with_reducible refine Chg.setCell ?_ _ ?_) | (apply Or.inl; with_reducible rfl) | (apply Or.inl; simp; done) | (apply Or.inr; simp; done) | (apply Or.inr; simp; omega)))

theorem rHead_some {w : World} {d pk bt : Nat} {v : Value} {p : Pkt} {l : List Pkt} (h : RQueueIs w d v pk bt (p :: l)) :
    Calls Try.prog 32 #[.pointer (some ⟨d, 0, none⟩)] w fun e w' => e = .returned (.tuple #[.agg #[.int .u64 p.id, .int .i64 p.cls, .int .i64 p.len, .int .u64 p.at_], .bool true]) ∧ Chg NoChg w w' := by
  obtain ⟨a, cap, rfl, _, _, hrow⟩ := h.own.row Pkt.cells_length
  have hd := h.blk.lt
  have c2 := h.blk.cell 2
  have n0 : ((l.length : Int) + 1 == 0) = false := by rw [beq_eq_false_iff_ne]; omega
  have n2 := h.many
  have n3 := h.pk2
  obtain ⟨g, o, rfl, hj⟩ := hrow 0 (by simp)
  have j0 := hj 0 _ rfl
  have j1 := hj 1 _ rfl
  have j2 := hj 2 _ rfl
  have j3 := hj 3 _ rfl
  have hg := cell_lt j0
  simp at c2 n2 j0 j1 j2 j3 hg
  have n4 : (l.length : Int) + 1 ≤ 4096 := by omega
  clear h hrow hj n2
  go_enter Try.func32, Try.ntmps32
  go_wp2
  refine bodyPost_ret (v := .tuple #[.agg #[.int .u64 p.id, .int .i64 p.cls, .int .i64 p.len, .int .u64 p.at_], .bool true]) (by simp [results, Try.results32, go_sem]) rfl ⟨rfl, ?_⟩
  (repeat' (first | (with_reducible exact Chg.refl _ _) | (with_reducible assumption) | (with_reducible refine Chg.alloc ?_ _) | (with_reducible refine Chg.drewN ?_ _) | (with_reducible refine Chg.drew ?_) | (with_reducible refine Chg.setCell ?_ _ ?_) | (apply Or.inl; with_reducible rfl) | (apply Or.inl; simp; done) | (apply Or.inr; simp; done) | (apply Or.inr; simp; omega)))

theorem rPop_none {w : World} {d pk bt : Nat} {v : Value} (h : RQueueIs w d v pk bt []) :
    Calls Try.prog 25 #[.pointer (some ⟨d, 0, none⟩)] w fun e w' => e = .returned (.tuple #[.agg #[.int .u64 0, .int .i64 0, .int .i64 0, .int .u64 0], .bool false]) ∧ Chg NoChg w w' := by
  have N := hide (fun o => rHead_none (h.keep ((Chg.refl NoChg w).alloc o) (fun h => h) (fun _ _ h => h)))
  clear h
  go_enter Try.func25, Try.ntmps25
  go_wp2_with fail
  refine (N.out _).mono ?_
  rintro e w1 ⟨rfl, hc⟩
  have hs : w.heap.size < w1.heap.size := by have := hc.size; simp at this; omega
  have q0 := (Blk.new w #[.int .u64 0, .int .i64 0, .int .i64 0, .int .u64 0] 32)
  have q1 := hc.blk q0 (fun h => h)
  have k0 := q1.cell 0
  have k1 := q1.cell 1
  have k2 := q1.cell 2
  have k3 := q1.cell 3
  have z := q1.frozen
  simp at k0 k1 k2 k3
  have HC := hide hc
  clear hc q0 q1
  go_wp2
  refine bodyPost_ret (v := .tuple #[.agg #[.int .u64 0, .int .i64 0, .int .i64 0, .int .u64 0], .bool false]) (by simp [results, Try.results25, go_sem, hs, k0, k1, k2, k3]) rfl ⟨rfl, ?_⟩
  have HC := HC.out
  refine ((((Chg.refl NoChg w).alloc _).trans' HC)) |> fun h => ?_
  (repeat' (first | (with_reducible exact Chg.refl _ _) | (with_reducible assumption) | (with_reducible refine Chg.alloc ?_ _) | (with_reducible refine Chg.drewN ?_ _) | (with_reducible refine Chg.drew ?_) | (with_reducible refine Chg.setCell ?_ _ ?_) | (apply Or.inl; with_reducible rfl) | (apply Or.inl; simp; done) | (apply Or.inr; simp; done) | (apply Or.inr; simp; omega)))

theorem own_empty {w : World} {g : Nat} (h : Blk w g #[] 32) : Own Pkt.cells 4 32 w (.slice (some ⟨g, 0, none⟩) 0 0) ([] : List Pkt) :=
  ⟨by simp [flatC], .inr ⟨g, 0, #[], rfl, Nat.zero_le _, h, Nat.le_refl _, Nat.zero_le _, by simp, by simp [flatC]⟩⟩

set_option maxHeartbeats 1000000 in
theorem rPop_some {w : World} {d pk bt : Nat} {v : Value} {p : Pkt} {l : List Pkt} (h : RQueueIs w d v pk bt (p :: l)) :
    Calls Try.prog 25 #[.pointer (some ⟨d, 0, none⟩)] w fun e w' => e = .returned (.tuple #[.agg #[.int .u64 p.id, .int .i64 p.cls, .int .i64 p.len, .int .u64 p.at_], .bool true]) ∧ ∃ v', RQueueIs w' d v' pk bt l ∧ Chg (fun k => k = d) w w' ∧ ∀ j, v'.ownBlock = some j → w.heap.size ≤ j := by
  have N := hide (fun o => rHead_some (h.keep ((Chg.refl NoChg w).alloc o) (fun h => h) (fun _ _ h => h)))
  have hd := h.blk.lt
  have HH := hide h
  obtain ⟨a, cap, rfl, hcap, hn, hrow⟩ := h.own.row Pkt.cells_length
  have n2 := h.many
  have n3 := h.pk2
  simp at n2 hcap
  have n4 : (l.length : Int) + 1 ≤ 4096 := by omega
  have n5 : (1 : Int) ≤ (cap : Int) := by omega
  obtain ⟨g, o, rfl, _⟩ := hrow 0 (by simp)
  have HR := hide hrow
  clear h hn hrow n2
  go_enter Try.func25, Try.ntmps25
  go_wp2_with fail
  refine (N.out _).mono ?_
  rintro e w1 ⟨rfl, hc⟩
  have hc0 := ((Chg.refl NoChg w).alloc (.cells #[.int .u64 0, .int .i64 0, .int .i64 0, .int .u64 0] 32)).trans' hc
  have hs : w.heap.size < w1.heap.size := by have := hc.size; simp at this; omega
  have q0 := (Blk.new w #[.int .u64 0, .int .i64 0, .int .i64 0, .int .u64 0] 32)
  have q1 := hc.blk q0 (fun h => h)
  have B1 := hc0.blk HH.out.blk (fun h => h)
  have k0 := q1.cell 0
  have k1 := q1.cell 1
  have k2 := q1.cell 2
  have k3 := q1.cell 3
  have z := q1.frozen
  have d2 := B1.cell 2
  have dz := B1.frozen
  have hd1 : d < w1.heap.size := by omega
  have hdw : ¬ d = w.heap.size := by omega
  have hdw2 : ¬ w.heap.size = d := by omega
  simp at k0 k1 k2 k3 d2
  have HC := hide (And.intro hc0 (And.intro q1 B1))
  clear hc hc0 q0 q1 B1
  by_cases hc1 : cap = 1
  · subst hc1
    have hl0 : l = [] := by
      cases l with
      | nil => rfl
      | cons x y => simp at hcap
    subst hl0
    go_wp2_with (at_builtin; refine wpList_append_rec pktT rfl (.tmp 13) (.tmp 18) rfl _ ([] : List Pkt) rfl (own_empty (Blk.new' _ _ (by simp))) _ _ ([] : List Pkt) rfl ?a1 ?a2 ?a3 ?a4 ?a5)
    case a2 => intro i hi; exact absurd hi (by simp)
    case a3 => simp [maxLen]
    case a4 => simp
    case a5 =>
      intro v' w2 hown hcc hv
      have hcc0 : Chg NoChg w1 w2 := ((((Chg.refl NoChg w1).alloc (.cells #[.int .u64 p.id, .int .i64 p.cls, .int .i64 p.len, .int .u64 p.at_] 32)).alloc (.cells #[] 32)).trans hcc (fun j hj => .inr (by simp [Value.ownBlock] at hj; omega)))
      have hvb : ∀ j, v'.ownBlock = some j → w1.heap.size ≤ j := by
        intro j hj
        rcases hv with h | h
        · rw [h] at hj
          simp [Value.ownBlock] at hj
          omega
        · rw [h] at hj
          have := Option.some.inj hj
          omega
      have B2 := hcc0.blk HC.out.2.2 (fun h => h)
      have Z2 := hcc0.blk HC.out.2.1 (fun h => h)
      have X2 := hcc.blk ((Blk.new w1 #[.int .u64 p.id, .int .i64 p.cls, .int .i64 p.len, .int .u64 p.at_] 32).alloc (.cells #[] 32)) (fun h => by simp [Value.ownBlock] at h)
      have x0 := X2.cell 0
      have x1 := X2.cell 1
      have x2 := X2.cell 2
      have x3 := X2.cell 3
      have y0 := Z2.cell 0
      have y1 := Z2.cell 1
      have y2 := Z2.cell 2
      have y3 := Z2.cell 3
      have yz := Z2.frozen
      have e2 := B2.cell 2
      have ez := B2.frozen
      have hs2 : w1.heap.size < w2.heap.size := X2.lt
      have hs3 : d < w2.heap.size := by omega
      have hs4 : w.heap.size < w2.heap.size := by omega
      have hd3 : ¬ d = w1.heap.size := by omega
      have hd4 : ¬ w1.heap.size = d := by omega
      have hd5 : ¬ w.heap.size = w1.heap.size := by omega
      have hd6 : ¬ w1.heap.size = w.heap.size := by omega
      simp at x0 x1 x2 x3 y0 y1 y2 y3 e2
      have HE := hide (And.intro hown (And.intro hcc0 (And.intro hvb (And.intro B2 Z2))))
      obtain ⟨av, capv, rfl, _, _, _⟩ := hown.row Pkt.cells_length
      clear hown hcc hv hcc0 hvb B2 Z2 X2
      go_wp2
      refine bodyPost_ret (v := .tuple #[.agg #[.int .u64 p.id, .int .i64 p.cls, .int .i64 p.len, .int .u64 p.at_], .bool true]) (by simp [results, Try.results25, go_sem, y0, y1, y2, y3]) rfl ⟨rfl, .slice av 0 capv, ?_, ?_, fun j hj => Nat.le_trans (by omega) (HE.out.2.2.1 j hj)⟩
      · have hn : ¬ ((⟨w.heap.size, 0, none⟩ : Addr).block = d) := fun h => hdw h.symm
        have B := Blk.other (Blk.other (Blk.other (Blk.other (Blk.set HE.out.2.2.2.1 2 (.slice av 0 capv)) (a := ⟨w.heap.size, 0, none⟩) (.int .u64 p.id) hn) (a := ⟨w.heap.size, 1, none⟩) (.int .i64 p.cls) hn) (a := ⟨w.heap.size, 2, none⟩) (.int .i64 p.len) hn) (a := ⟨w.heap.size, 3, none⟩) (.int .u64 p.at_) hn
        have gl := HH.out.good
        have gm := HH.out.many
        have gh := HH.out.held
        have g1 := gl p (by simp)
        simp only [sumLen] at gh
        simp at gm
        have g2 := g1.1
        refine ⟨by simpa using B, HE.out.1.keep (S := fun k => k = d ∨ k = w.heap.size) (by (repeat' (first | (with_reducible exact Chg.refl _ _) | (with_reducible assumption) | (with_reducible refine Chg.alloc ?_ _) | (with_reducible refine Chg.drewN ?_ _) | (with_reducible refine Chg.drew ?_) | (with_reducible refine Chg.setCell ?_ _ ?_) | (apply Or.inl; with_reducible rfl) | (apply Or.inl; simp; done) | (apply Or.inr; simp; done) | (apply Or.inr; simp; omega)))) (fun j hj h => ?_), fun j hj => ?_, by first | omega | (simp; done) | (simp; omega), by first | omega | (simp [sumLen]; done) | (simp [sumLen]; omega), fun q hq => gl q (List.mem_cons_of_mem _ hq), HH.out.pk2, HH.out.bt2⟩
        · have := HE.out.2.2.1 j hj
          rcases h with h | h <;> omega
        · have := HE.out.2.2.1 j hj
          omega
      · have c9 : Chg (fun k => k = d) w w2 := (HC.out.1.trans' HE.out.2.1).mono (fun _ h => h.elim)
        (repeat' (first | (with_reducible exact Chg.refl _ _) | (with_reducible assumption) | (with_reducible refine Chg.alloc ?_ _) | (with_reducible refine Chg.drewN ?_ _) | (with_reducible refine Chg.drew ?_) | (with_reducible refine Chg.setCell ?_ _ ?_) | (apply Or.inl; with_reducible rfl) | (apply Or.inl; simp; done) | (apply Or.inr; simp; done) | (apply Or.inr; simp; omega)))
  · go_wp2_with (at_builtin; refine wpList_append_rec pktT rfl (.tmp 13) (.tmp 18) rfl _ ([] : List Pkt) rfl (own_empty (Blk.new' _ _ (by simp))) _ _ l rfl ?b1 ?b2 ?b3 ?b4 ?b5)
    case b1 => intro h; cases h
    case b2 =>
      have := ((HR.out.keep HC.out.1 (fun _ _ h => h)).keep (((Chg.refl NoChg w1).alloc (.cells #[.int .u64 p.id, .int .i64 p.cls, .int .i64 p.len, .int .u64 p.at_] 32)).alloc (.cells #[] 32)) (fun _ _ h => h)).drop 1
      simpa using this
    case b3 => simp [maxLen]; omega
    case b4 => simp; omega
    case b5 =>
      intro v' w2 hown hcc hv
      have hcc0 : Chg NoChg w1 w2 := ((((Chg.refl NoChg w1).alloc (.cells #[.int .u64 p.id, .int .i64 p.cls, .int .i64 p.len, .int .u64 p.at_] 32)).alloc (.cells #[] 32)).trans hcc (fun j hj => .inr (by simp [Value.ownBlock] at hj; omega)))
      have hvb : ∀ j, v'.ownBlock = some j → w1.heap.size ≤ j := by
        intro j hj
        rcases hv with h | h
        · rw [h] at hj
          simp [Value.ownBlock] at hj
          omega
        · rw [h] at hj
          have := Option.some.inj hj
          omega
      have B2 := hcc0.blk HC.out.2.2 (fun h => h)
      have Z2 := hcc0.blk HC.out.2.1 (fun h => h)
      have X2 := hcc.blk ((Blk.new w1 #[.int .u64 p.id, .int .i64 p.cls, .int .i64 p.len, .int .u64 p.at_] 32).alloc (.cells #[] 32)) (fun h => by simp [Value.ownBlock] at h)
      have x0 := X2.cell 0
      have x1 := X2.cell 1
      have x2 := X2.cell 2
      have x3 := X2.cell 3
      have y0 := Z2.cell 0
      have y1 := Z2.cell 1
      have y2 := Z2.cell 2
      have y3 := Z2.cell 3
      have yz := Z2.frozen
      have e2 := B2.cell 2
      have ez := B2.frozen
      have hs2 : w1.heap.size < w2.heap.size := X2.lt
      have hs3 : d < w2.heap.size := by omega
      have hs4 : w.heap.size < w2.heap.size := by omega
      have hd3 : ¬ d = w1.heap.size := by omega
      have hd4 : ¬ w1.heap.size = d := by omega
      have hd5 : ¬ w.heap.size = w1.heap.size := by omega
      have hd6 : ¬ w1.heap.size = w.heap.size := by omega
      simp at x0 x1 x2 x3 y0 y1 y2 y3 e2
      have HE := hide (And.intro hown (And.intro hcc0 (And.intro hvb (And.intro B2 Z2))))
      obtain ⟨av, capv, rfl, _, _, _⟩ := hown.row Pkt.cells_length
      clear hown hcc hv hcc0 hvb B2 Z2 X2
      go_wp2
      refine bodyPost_ret (v := .tuple #[.agg #[.int .u64 p.id, .int .i64 p.cls, .int .i64 p.len, .int .u64 p.at_], .bool true]) (by simp [results, Try.results25, go_sem, y0, y1, y2, y3]) rfl ⟨rfl, .slice av l.length capv, ?_, ?_, fun j hj => Nat.le_trans (by omega) (HE.out.2.2.1 j hj)⟩
      · have hn : ¬ ((⟨w.heap.size, 0, none⟩ : Addr).block = d) := fun h => hdw h.symm
        have B := Blk.other (Blk.other (Blk.other (Blk.other (Blk.set HE.out.2.2.2.1 2 (.slice av l.length capv)) (a := ⟨w.heap.size, 0, none⟩) (.int .u64 p.id) hn) (a := ⟨w.heap.size, 1, none⟩) (.int .i64 p.cls) hn) (a := ⟨w.heap.size, 2, none⟩) (.int .i64 p.len) hn) (a := ⟨w.heap.size, 3, none⟩) (.int .u64 p.at_) hn
        have gl := HH.out.good
        have gm := HH.out.many
        have gh := HH.out.held
        have g1 := gl p (by simp)
        simp only [sumLen] at gh
        simp at gm
        have g2 := g1.1
        refine ⟨by simpa using B, HE.out.1.keep (S := fun k => k = d ∨ k = w.heap.size) (by (repeat' (first | (with_reducible exact Chg.refl _ _) | (with_reducible assumption) | (with_reducible refine Chg.alloc ?_ _) | (with_reducible refine Chg.drewN ?_ _) | (with_reducible refine Chg.drew ?_) | (with_reducible refine Chg.setCell ?_ _ ?_) | (apply Or.inl; with_reducible rfl) | (apply Or.inl; simp; done) | (apply Or.inr; simp; done) | (apply Or.inr; simp; omega)))) (fun j hj h => ?_), fun j hj => ?_, by first | omega | (simp; done) | (simp; omega), by first | omega | (simp [sumLen]; done) | (simp [sumLen]; omega), fun q hq => gl q (List.mem_cons_of_mem _ hq), HH.out.pk2, HH.out.bt2⟩
        · have := HE.out.2.2.1 j hj
          rcases h with h | h <;> omega
        · have := HE.out.2.2.1 j hj
          omega
      · have c9 : Chg (fun k => k = d) w w2 := (HC.out.1.trans' HE.out.2.1).mono (fun _ h => h.elim)
        (repeat' (first | (with_reducible exact Chg.refl _ _) | (with_reducible assumption) | (with_reducible refine Chg.alloc ?_ _) | (with_reducible refine Chg.drewN ?_ _) | (with_reducible refine Chg.drew ?_) | (with_reducible refine Chg.setCell ?_ _ ?_) | (apply Or.inl; with_reducible rfl) | (apply Or.inl; simp; done) | (apply Or.inr; simp; done) | (apply Or.inr; simp; omega)))
end Go.Proofs.Ytbghddmjoampiaa
