/- The queue of packets, more: May, Head, Pop, New. -/
import Derived.Test.YtbghddmjoampiaaQueue
namespace Go.Proofs.Ytbghddmjoampiaa
set_option linter.unusedVariables false
open Go.RowKit

/-- packet.May's answer. -/
def mayN (p : Pkt) (most : Int) : Int := if most < 1 ∨ 65536 ≤ most then 2 else if p.len < 1 ∨ most < p.len then 100 else 0

theorem pMay_any (p : Pkt) (most : Int) (w : World) :
    Calls Try.prog 30 #[.agg #[.int .u64 p.id, .int .i64 p.cls, .int .i64 p.len, .int .u64 p.at_], .int .i64 most] w fun e w' => e = .returned (.int .i64 (mayN p most)) ∧ Chg NoChg w w' := by
  obtain ⟨id, cls, len, at_⟩ := p
  by_cases h1 : most < 1
  · have E := hide (show mayN ⟨id, cls, len, at_⟩ most = 2 from if_pos (.inl h1))
    go_enter Try.func30, Try.ntmps30
    go_wp2
    go_ret
    exact ⟨by rw [E.out]; rfl, (Chg.refl _ _).alloc _⟩
  · by_cases h2 : 65536 ≤ most
    · have E := hide (show mayN ⟨id, cls, len, at_⟩ most = 2 from if_pos (.inr h2))
      go_enter Try.func30, Try.ntmps30
      go_wp2
      go_ret
      exact ⟨by rw [E.out]; rfl, (Chg.refl _ _).alloc _⟩
    · have E0 : mayN ⟨id, cls, len, at_⟩ most = if len < 1 ∨ most < len then 100 else 0 := if_neg (by omega)
      by_cases h3 : len < 1
      · have E := hide (E0.trans (if_pos (.inl h3)))
        clear E0
        go_enter Try.func30, Try.ntmps30
        go_wp2
        go_ret
        exact ⟨by rw [E.out]; rfl, (Chg.refl _ _).alloc _⟩
      · by_cases h4 : most < len
        · have E := hide (E0.trans (if_pos (.inr h4)))
          clear E0
          go_enter Try.func30, Try.ntmps30
          go_wp2
          go_ret
          exact ⟨by rw [E.out]; rfl, (Chg.refl _ _).alloc _⟩
        · have E := hide (E0.trans (if_neg (by omega)))
          clear E0
          go_enter Try.func30, Try.ntmps30
          go_wp2
          go_ret
          exact ⟨by rw [E.out]; rfl, (Chg.refl _ _).alloc _⟩

def pktV (p : Pkt) : Value := .agg #[.int .u64 p.id, .int .i64 p.cls, .int .i64 p.len, .int .u64 p.at_]

theorem qHead_none {w : World} {b r pk bt : Nat} (h : QueueIs w b r pk bt []) :
    Calls Try.prog 20 #[.pointer (some ⟨b, 0, none⟩)] w fun e w' => e = .returned (.tuple #[.agg #[.int .u64 0, .int .i64 0, .int .i64 0, .int .u64 0], .bool false]) ∧ Chg NoChg w w' := by
  have hlt := h.lt
  obtain ⟨_, p1, p2, _, _, _, _, _, L, f, q1, _⟩ := h
  have c0 := q1.cell 0
  have c4 := q1.cell 4
  simp at c0 c4
  have N := hide (fun o => qNone_made b pk (w.alloc o) (by rw [World.cell?_alloc_past _ _ _ hlt.1]; exact c0) (by omega))
  have hb := hlt.1
  clear q1 hlt
  go_enter Try.func20, Try.ntmps20
  go_wp2_with fail
  refine (N.out _).mono ?_
  rintro e w1 ⟨rfl, rfl⟩
  go_wp2
  refine bodyPost_ret (v := .tuple #[.agg #[.int .u64 0, .int .i64 0, .int .i64 0, .int .u64 0], .bool false]) (by simp [results, Try.results20, go_sem]) rfl ⟨rfl, ?_⟩
  (repeat' (first | (with_reducible exact Chg.refl _ _) | (with_reducible assumption) | (with_reducible refine Chg.alloc ?_ _) | (with_reducible refine Chg.drewN ?_ _) | (with_reducible refine Chg.drew ?_) | (with_reducible refine Chg.setCell ?_ _ ?_) | (apply Or.inl; with_reducible rfl) | (apply Or.inl; simp; done) | (apply Or.inr; simp; done) | (apply Or.inr; simp; omega)))

theorem qHead_some {w : World} {b r pk bt : Nat} {p : Pkt} {l : List Pkt} (h : QueueIs w b r pk bt (p :: l)) :
    Calls Try.prog 20 #[.pointer (some ⟨b, 0, none⟩)] w fun e w' => e = .returned (.tuple #[.agg #[.int .u64 p.id, .int .i64 p.cls, .int .i64 p.len, .int .u64 p.at_], .bool true]) ∧ Chg NoChg w w' := by
  have hlt := h.lt
  obtain ⟨_, p1, p2, _, _, m1, _, _, L, f, q1, q2, hf, hl, hL, hr⟩ := h
  have hLf : L[f]? = some p := by
    have := hr 0 (by simp)
    rw [Nat.add_zero, Nat.mod_eq_of_lt hf] at this
    simpa using this
  have hp : L[f] = p := by
    rw [List.getElem?_eq_getElem hf] at hLf
    exact Option.some.inj hLf
  have c0 := q1.cell 0
  have c2 := q1.cell 2
  have c3 := q1.cell 3
  have c4 := q1.cell 4
  have r0 := q2.cellAt Pkt.cells_length f hf 0 _ (by rw [hp]; rfl)
  have r1 := q2.cellAt Pkt.cells_length f hf 1 _ (by rw [hp]; rfl)
  have r2 := q2.cellAt Pkt.cells_length f hf 2 _ (by rw [hp]; rfl)
  have r3 := q2.cellAt Pkt.cells_length f hf 3 _ (by rw [hp]; rfl)
  simp at c0 c2 c3 c4 r0 r1 r2 r3
  have N := hide (fun o => qNone_made b pk (w.alloc o) (by rw [World.cell?_alloc_past _ _ _ hlt.1]; exact c0) (by omega))
  have hb := hlt.1
  have hbr := hlt.2
  have f0 : (0 : Int) ≤ (f : Int) := by omega
  have f1 : (f : Int) < (L.length : Int) := by omega
  have n0 : ((l.length : Int) + 1 == 0) = false := by rw [beq_eq_false_iff_ne]; omega
  clear q1 q2 hlt hr hLf hp
  go_enter Try.func20, Try.ntmps20
  go_wp2_with fail
  refine (N.out _).mono ?_
  rintro e w1 ⟨rfl, rfl⟩
  go_wp2
  refine wp_region_planq 0 10 (by kernel_rfl) (by kernel_rfl) ?_ ?_
  · exact fun _ _ _ _ _ h => h
  simp only [List.take_succ_cons, List.take_zero, List.drop_succ_cons, List.drop_zero]
  repeat (quiet_step ((fail)))
  refine wpQuiet_nil ?_
  intro _ hw'
  obtain ⟨nq, hw''⟩ := hw'
  subst hw''
  go_wp2
  refine bodyPost_ret (v := .tuple #[.agg #[.int .u64 p.id, .int .i64 p.cls, .int .i64 p.len, .int .u64 p.at_], .bool true]) (by simp [results, Try.results20, go_sem]) rfl ⟨rfl, ?_⟩
  (repeat' (first | (with_reducible exact Chg.refl _ _) | (with_reducible assumption) | (with_reducible refine Chg.alloc ?_ _) | (with_reducible refine Chg.drewN ?_ _) | (with_reducible refine Chg.drew ?_) | (with_reducible refine Chg.setCell ?_ _ ?_) | (apply Or.inl; with_reducible rfl) | (apply Or.inl; simp; done) | (apply Or.inr; simp; done) | (apply Or.inr; simp; omega)))

theorem ringHas_tail {L : List Pkt} {f : Nat} {p : Pkt} {l : List Pkt} (h : ringHas L f (p :: l)) : ringHas L ((f + 1) % L.length) l := by
  intro i hi
  have := h (i + 1) (by simpa using hi)
  rw [Nat.mod_add_mod, show f + 1 + i = f + (i + 1) by omega]
  simpa using this

theorem qPop_none {w : World} {b r pk bt : Nat} (h : QueueIs w b r pk bt []) :
    Calls Try.prog 15 #[.pointer (some ⟨b, 0, none⟩)] w fun e w' => e = .returned (.tuple #[.agg #[.int .u64 0, .int .i64 0, .int .i64 0, .int .u64 0], .bool false]) ∧ Chg NoChg w w' := by
  have N := hide (fun o => qHead_none (h.keep ((Chg.refl NoChg w).alloc o) (fun h => h) (fun h => h)))
  clear h
  go_enter Try.func15, Try.ntmps15
  go_wp2_with fail
  refine (N.out _).mono ?_
  rintro e w1 ⟨rfl, hc⟩
  have hs : w.heap.size < w1.heap.size := by have := hc.size; simp at this; omega
  have q0 := (Blk.new w #[.int .u64 0, .int .i64 0, .int .i64 0, .int .u64 0] 32)
  have q1 := hc.blk q0 (fun h => h)
  have k0 := q1.cell 0
  have k1 := q1.cell 1
  have k2 := q1.cell 2
  have k3 := q1.cell 3
  have z := q1.frozen
  simp at k0 k1 k2 k3
  have HC := hide hc
  clear hc q0 q1
  go_wp2
  refine bodyPost_ret (v := .tuple #[.agg #[.int .u64 0, .int .i64 0, .int .i64 0, .int .u64 0], .bool false]) (by simp [results, Try.results15, go_sem, hs, k0, k1, k2, k3]) rfl ⟨rfl, ?_⟩
  have HC := HC.out
  refine ((((Chg.refl NoChg w).alloc _).trans' HC)) |> fun h => ?_
  (repeat' (first | (with_reducible exact Chg.refl _ _) | (with_reducible assumption) | (with_reducible refine Chg.alloc ?_ _) | (with_reducible refine Chg.drewN ?_ _) | (with_reducible refine Chg.drew ?_) | (with_reducible refine Chg.setCell ?_ _ ?_) | (apply Or.inl; with_reducible rfl) | (apply Or.inl; simp; done) | (apply Or.inr; simp; done) | (apply Or.inr; simp; omega)))

set_option maxHeartbeats 1000000 in
theorem qPop_some {w : World} {b r pk bt : Nat} {p : Pkt} {l : List Pkt} (h : QueueIs w b r pk bt (p :: l)) :
    Calls Try.prog 15 #[.pointer (some ⟨b, 0, none⟩)] w fun e w' => e = .returned (.tuple #[.agg #[.int .u64 p.id, .int .i64 p.cls, .int .i64 p.len, .int .u64 p.at_], .bool true]) ∧
      QueueIs w' b r pk bt l ∧ Chg (fun k => k = b) w w' := by
  have N := hide (fun o => qHead_some (h.keep ((Chg.refl NoChg w).alloc o) (fun h => h) (fun h => h)))
  have hlt := h.lt
  obtain ⟨ne, p1, p2, b1, b2, m1, s1, g1, L, f, q1, q2, hf, hl, hL, hr⟩ := h
  have gp := g1 p (by simp)
  have s0 := sumLen_nonneg l (fun q hq => g1 q (by simp [hq]))
  obtain ⟨gp1, gp2⟩ := gp
  have hm : l.length < pk := by simp at m1; omega
  have hl' : l.length + 1 ≤ L.length := by simpa using hl
  have es : sumLen (p :: l) = p.len + sumLen l := rfl
  rw [es] at s1 q1
  simp only [List.length_cons] at q1
  have FIN := hide (fun (W : World) (cs : Array Value) (ecs : cs = #[.int .i64 (pk : Int), .int .i64 (bt : Int), .slice (some ⟨r, 0, none⟩) L.length L.length, .int .i64 (((f : Int) + 1) % (L.length : Int)), .int .i64 (l.length : Int), .int .i64 (p.len + sumLen l - p.len)])
      (B : Blk W b cs 46) (R : RowBlk Pkt.cells W r L 32) => show QueueIs W b r pk bt l by
    have e1 : ((f : Int) + 1) % (L.length : Int) = (((f + 1) % L.length : Nat) : Int) := by simp
    have e2 : p.len + sumLen l - p.len = sumLen l := by omega
    rw [e1, e2] at ecs
    subst ecs
    exact ⟨ne, p1, p2, b1, b2, by omega, by omega, fun q hq => g1 q (by simp [hq]), L, (f + 1) % L.length, B, R, Nat.mod_lt _ (by omega), by omega, hL, ringHas_tail hr⟩)
  go_enter Try.func15, Try.ntmps15
  go_wp2_with fail
  refine (N.out _).mono ?_
  rintro e w1 ⟨rfl, hc0⟩
  have hc := ((Chg.refl NoChg w).alloc (.cells #[.int .u64 0, .int .i64 0, .int .i64 0, .int .u64 0] 32)).trans' hc0
  have hs : w.heap.size < w1.heap.size := by have := hc0.size; simp at this; omega
  have z0 := hc0.blk (Blk.new w #[.int .u64 0, .int .i64 0, .int .i64 0, .int .u64 0] 32) (fun h => h)
  have k0 := z0.cell 0
  have k1 := z0.cell 1
  have k2 := z0.cell 2
  have k3 := z0.cell 3
  have z := z0.frozen
  have q1' := hc.blk q1 (fun h => h)
  have q2' := hc.blk q2 (fun h => h)
  have d2 := q1'.cell 2
  have d3 := q1'.cell 3
  have d4 := q1'.cell 4
  have d5 := q1'.cell 5
  have dz := q1'.frozen
  simp at k0 k1 k2 k3 d2 d3 d4 d5
  have hb1 : b < w1.heap.size := by omega
  have hbne : ¬ w.heap.size = b := by omega
  have hbne' : ¬ w1.heap.size = b := by omega
  have hbne2 : ¬ b = w.heap.size := by omega
  have hbne3 : ¬ b = w1.heap.size := by omega
  have P := hide (fun W (h2 : W.cell? ⟨b, 2, none⟩ = w1.cell? ⟨b, 2, none⟩) (h3 : W.cell? ⟨b, 3, none⟩ = w1.cell? ⟨b, 3, none⟩) => qPlace_any b f 1 (some ⟨r, 0, none⟩) L.length L.length W (h2.trans d2) (h3.trans d3) (by omega) (by omega) (by omega) (by omega) (by omega) (by omega))
  have HC := hide (And.intro hc (And.intro hc0 (And.intro q1' q2')))
  have HR := hide hr
  have HG := hide g1
  have HQ := hide (And.intro q1 (And.intro q2 hl))
  clear hc hc0 z0 q1' q2' hr g1 q1 q2 hl m1 es
  go_wp2_with fail
  refine (P.out _ (by go_simp) (by go_simp)).mono ?_
  rintro e w2 ⟨rfl, k, rfl⟩
  go_wp2
  refine wp_region_planq 0 9 (by kernel_rfl) (by kernel_rfl) ?_ ?_
  · exact fun _ _ _ _ _ h => h
  simp only [List.take_succ_cons, List.take_zero, List.drop_succ_cons, List.drop_zero]
  repeat (quiet_step ((fail)))
  refine wpQuiet_nil ?_
  intro _ hw'
  obtain ⟨nq, hw''⟩ := hw'
  subst hw''
  go_wp2
  refine bodyPost_ret (v := .tuple #[.agg #[.int .u64 p.id, .int .i64 p.cls, .int .i64 p.len, .int .u64 p.at_], .bool true]) (by simp [results, Try.results15, go_sem, hs, k0, k1, k2, k3]) rfl ⟨rfl, ?_, ?_⟩
  · have hn : ¬ ((⟨w.heap.size, 0, none⟩ : Addr).block = b) := fun h => by simp at h; omega
    have B := ((((((((((HC.out.2.2.1.alloc (.cells #[.int .u64 p.id, .int .i64 p.cls, .int .i64 p.len, .int .u64 p.at_] 32)).drewN k).set 3 (.int .i64 (((f : Int) + 1) % (L.length : Int)))).set 4 (.int .i64 (l.length : Int))).drewN nq).set 5 (.int .i64 (p.len + sumLen l - p.len))).other (a := ⟨w.heap.size, 0, none⟩) (.int .u64 p.id) hn).other (a := ⟨w.heap.size, 1, none⟩) (.int .i64 p.cls) hn).other (a := ⟨w.heap.size, 2, none⟩) (.int .i64 p.len) hn).other (a := ⟨w.heap.size, 3, none⟩) (.int .u64 p.at_) hn)
    have hnr : ¬ ((⟨w.heap.size, 0, none⟩ : Addr).block = r) := fun h => by simp at h; omega
    have hbr : ¬ ((⟨b, 0, none⟩ : Addr).block = r) := ne
    have R := ((((((((((HC.out.2.2.2.alloc (.cells #[.int .u64 p.id, .int .i64 p.cls, .int .i64 p.len, .int .u64 p.at_] 32)).drewN k).other (a := ⟨b, 3, none⟩) (.int .i64 (((f : Int) + 1) % (L.length : Int))) hbr).other (a := ⟨b, 4, none⟩) (.int .i64 (l.length : Int)) hbr).drewN nq).other (a := ⟨b, 5, none⟩) (.int .i64 (p.len + sumLen l - p.len)) hbr).other (a := ⟨w.heap.size, 0, none⟩) (.int .u64 p.id) hnr).other (a := ⟨w.heap.size, 1, none⟩) (.int .i64 p.cls) hnr).other (a := ⟨w.heap.size, 2, none⟩) (.int .i64 p.len) hnr).other (a := ⟨w.heap.size, 3, none⟩) (.int .u64 p.at_) hnr)
    exact FIN.out _ _ (by simp) B R
  · have hc' : Chg (fun k => k = b) w w1 := HC.out.1.mono fun _ h => h.elim
    (repeat' (first | (with_reducible exact Chg.refl _ _) | (with_reducible assumption) | (with_reducible refine Chg.alloc ?_ _) | (with_reducible refine Chg.drewN ?_ _) | (with_reducible refine Chg.drew ?_) | (with_reducible refine Chg.setCell ?_ _ ?_) | (apply Or.inl; with_reducible rfl) | (apply Or.inl; simp; done) | (apply Or.inr; simp; done) | (apply Or.inr; simp; omega)))
end Go.Proofs.Ytbghddmjoampiaa
