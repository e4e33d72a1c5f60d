/- The queue of packets, more: Push where there is room. -/
import Derived.Test.YtbghddmjoampiaaQueue4
namespace Go.Proofs.Ytbghddmjoampiaa
set_option linter.unusedVariables false
open Go.RowKit

theorem ringHas_push {L : List Pkt} {f : Nat} {l : List Pkt} (h : ringHas L f l) (p : Pkt) (hl : l.length < L.length) : ringHas (L.set ((f + l.length) % L.length) p) f (l ++ [p]) := by
  intro i hi
  have hL : 0 < L.length := by omega
  rw [List.length_set]
  by_cases hil : i = l.length
  · subst hil
    rw [List.getElem?_set_self (Nat.mod_lt _ hL)]
    simp
  · have hi' : i < l.length := by simp at hi; omega
    rw [List.getElem?_append_left hi', List.getElem?_set_ne, h i hi']
    intro he
    have h1 := Nat.div_add_mod (f + l.length) L.length
    have h2 := Nat.div_add_mod (f + i) L.length
    rw [he] at h1
    have h3 : L.length * ((f + l.length) / L.length) = L.length * ((f + i) / L.length) + (l.length - i) := by omega
    have h4 : L.length * ((f + l.length) / L.length - (f + i) / L.length) = l.length - i := by rw [Nat.mul_sub]; omega
    rcases Nat.eq_zero_or_pos ((f + l.length) / L.length - (f + i) / L.length) with h5 | h5
    · rw [h5] at h4; omega
    · have : L.length * 1 ≤ L.length * ((f + l.length) / L.length - (f + i) / L.length) := Nat.mul_le_mul_left _ h5
      omega

theorem pkt_store {w : World} {r : Nat} {L : List Pkt} {t : TypeId} (h : RowBlk Pkt.cells w r L t) (i : Nat) (hi : i < L.length) (p : Pkt) :
    RowBlk Pkt.cells ((((w.setCell ⟨r, i * 4, none⟩ (.int .u64 p.id)).setCell ⟨r, i * 4 + 1, none⟩ (.int .i64 p.cls)).setCell ⟨r, i * 4 + 2, none⟩ (.int .i64 p.len)).setCell ⟨r, i * 4 + 3, none⟩ (.int .u64 p.at_)) r (L.set i p) t :=
  RowBlk.store Pkt.cells_length h i hi p

/-- How the queue stands when a packet has been stored behind the last one. -/
theorem push_end {W : World} {b r pk bt : Nat} {l : List Pkt} {L : List Pkt} {f : Nat} {p : Pkt} (ne : b ≠ r) (p1 : 1 ≤ pk) (p2 : pk ≤ 4096) (b1 : 1 ≤ bt) (b2 : bt ≤ 16777216) (hg : ∀ q ∈ l, goodLen q)
    (hf : f < L.length) (hl : l.length < L.length) (hL : L.length ≤ 8192) (hr : ringHas L f l) (hm : l.length < pk) (hp : 1 ≤ p.len) (hp' : p.len ≤ 65535) (hs : p.len ≤ bt - sumLen l)
    (cs : Array Value) (ecs : cs = #[.int .i64 (pk : Int), .int .i64 (bt : Int), .slice (some ⟨r, 0, none⟩) L.length L.length, .int .i64 (f : Int), .int .i64 ((l.length : Int) + 1), .int .i64 (sumLen l + p.len)])
    (B : Blk W b cs 46) (R : RowBlk Pkt.cells W r (L.set ((f + l.length) % L.length) p) 32) : QueueIs W b r pk bt (l ++ [p]) := by
  have e1 : sumLen (l ++ [p]) = sumLen l + p.len := by rw [sumLen_append]; simp [sumLen]
  have e2 : (((l ++ [p]).length : Nat) : Int) = (l.length : Int) + 1 := by simp
  subst ecs
  refine ⟨ne, p1, p2, b1, b2, by simp; omega, by rw [e1]; omega, ?_, _, f, ?_, R, by simpa using hf, by simp; omega, by simpa using hL, ringHas_push hr p hl⟩
  · intro q hq
    rcases List.mem_append.1 hq with h | h
    · exact hg q h
    · have : q = p := by simpa using h
      subst this
      exact ⟨hp, hp'⟩
  · rw [e1, e2, List.length_set]
    exact B

set_option maxHeartbeats 2000000 in
theorem qPush_room {w : World} {b r pk bt : Nat} {l : List Pkt} {L : List Pkt} {f : Nat} (p : Pkt) (ne : b ≠ r) (p1 : 1 ≤ pk) (p2 : pk ≤ 4096) (b1 : 1 ≤ bt) (b2 : bt ≤ 16777216) (hg : ∀ q ∈ l, goodLen q)
    (hf : f < L.length) (hl : l.length < L.length) (hL : L.length ≤ 8192) (hr : ringHas L f l) (hm : l.length < pk) (hp : 1 ≤ p.len) (hp' : p.len ≤ 65535) (hs : p.len ≤ bt - sumLen l)
    (q1 : Blk w b #[.int .i64 (pk : Int), .int .i64 (bt : Int), .slice (some ⟨r, 0, none⟩) L.length L.length, .int .i64 (f : Int), .int .i64 (l.length : Int), .int .i64 (sumLen l)] 46)
    (q2 : RowBlk Pkt.cells w r L 32) :
    Calls Try.prog 16 #[.pointer (some ⟨b, 0, none⟩), .agg #[.int .u64 p.id, .int .i64 p.cls, .int .i64 p.len, .int .u64 p.at_]] w fun e w' => e = .returned (.int .i64 0) ∧ QueueIs w' b r pk bt (l ++ [p]) ∧ Chg (fun k => k = b ∨ k = r) w w' := by
  have hm0 : mayN p 65535 = 0 := by
    unfold mayN
    rw [if_neg (by omega), if_neg (by omega)]
  have FIN := hide (fun W cs ecs B R => push_end (W := W) (p := p) ne p1 p2 b1 b2 hg hf hl hL hr hm hp hp' hs cs ecs B R)
  have s0 := sumLen_nonneg l hg
  have hb := q1.lt
  have hrr := q2.lt
  have c0 := q1.cell 0
  simp at c0
  have N := hide (fun o => qNone_made b pk (w.alloc o) (by rw [World.cell?_alloc_past _ _ _ hb]; exact c0) (by omega))
  have M := hide (fun w => pMay_any p 65535 w)
  rw [hm0] at M
  have HH := hide (And.intro (Blk.new w #[.int .u64 p.id, .int .i64 p.cls, .int .i64 p.len, .int .u64 p.at_] 32) (And.intro (q1.alloc (.cells #[.int .u64 p.id, .int .i64 p.cls, .int .i64 p.len, .int .u64 p.at_] 32)) (q2.alloc (.cells #[.int .u64 p.id, .int .i64 p.cls, .int .i64 p.len, .int .u64 p.at_] 32))))
  clear q1 q2 hm0 hg hr c0
  go_enter Try.func16, Try.ntmps16
  go_wp2_with fail
  refine (N.out _).mono ?_
  rintro e w1 ⟨rfl, rfl⟩
  go_wp2_with fail
  refine (M.out _).mono ?_
  rintro e w2 ⟨rfl, hc⟩
  have Z2 := hc.blk HH.out.1 (fun h => h)
  have Q2 := hc.blk HH.out.2.1 (fun h => h)
  have R2 : RowBlk Pkt.cells w2 r L 32 := hc.blk HH.out.2.2 (fun h => h)
  have hs2 : w.heap.size < w2.heap.size := by have := hc.size; simp at this; omega
  have z0 := Z2.cell 0
  have z1 := Z2.cell 1
  have z2 := Z2.cell 2
  have z3 := Z2.cell 3
  have k0 := Q2.cell 0
  have k1 := Q2.cell 1
  have k2 := Q2.cell 2
  have k3 := Q2.cell 3
  have k4 := Q2.cell 4
  have k5 := Q2.cell 5
  have kz := Q2.frozen
  have rz := Blk.frozen R2
  simp at z0 z1 z2 z3 k0 k1 k2 k3 k4 k5
  have PL := hide (fun n => qPlace_any b f (l.length : Int) (some ⟨r, 0, none⟩) L.length L.length (w2.drewN n) k2 k3 (by omega) (by omega) (by omega) (by omega) (by omega) (by omega))
  obtain ⟨pos, hpos⟩ : ∃ pos, pos = (f + l.length) % L.length := ⟨_, rfl⟩
  have epos : ((f : Int) + (l.length : Int)) % (L.length : Int) = (pos : Int) := by rw [hpos]; simp
  rw [epos] at PL
  have hposL : pos < L.length := by rw [hpos]; exact Nat.mod_lt _ (by omega)
  have g1 : ((l.length : Int) == (pk : Int)) = false := by simp; omega
  have g2 : decide ((bt : Int) - sumLen l < p.len) = false := by simp; omega
  have g3 : ((l.length : Int) == (L.length : Int)) = false := by simp; omega
  have n0 : (0 : Int) ≤ (pos : Int) := by omega
  have n1 : (pos : Int) < (L.length : Int) := by omega
  have nb : ¬ r = b := fun h => ne h.symm
  have HC := hide (And.intro hc (And.intro Q2 R2))
  have RC := hide (fun i (h : i < L.length) j u hu => R2.cellAt Pkt.cells_length i h j u hu)
  have s0' := RC.out pos hposL 0 _ rfl
  have s1' := RC.out pos hposL 1 _ rfl
  have s2' := RC.out pos hposL 2 _ rfl
  have s3' := RC.out pos hposL 3 _ rfl
  simp only [Nat.add_zero] at s0'
  have HP := hide hpos
  clear hc Z2 Q2 R2 hpos epos
  go_wp2
  go_quiet (fail)
  go_wp2
  go_quiet (fail)
  go_wp2
  refine wp_region_planq 0 12 (by kernel_rfl) (by kernel_rfl) ?_ ?_
  · exact fun _ _ _ _ _ h => h
  simp only [List.take_succ_cons, List.take_zero, List.drop_succ_cons, List.drop_zero]
  repeat (quiet_step ((go_at_call 28; exact quiet_add (PL.out _))))
  refine wpQuiet_nil ?_
  intro _ hw'
  obtain ⟨nq, hw''⟩ := hw'
  subst hw''
  go_wp2
  refine wp_region_planq 0 9 (by kernel_rfl) (by kernel_rfl) ?_ ?_
  · exact fun _ _ _ _ _ h => h
  simp only [List.take_succ_cons, List.take_zero, List.drop_succ_cons, List.drop_zero]
  repeat (quiet_step ((fail)))
  refine wpQuiet_nil ?_
  intro _ hw'
  obtain ⟨nq, hw''⟩ := hw'
  subst hw''
  go_wp2
  go_ret
  refine ⟨rfl, ?_, ?_⟩
  · have e := HP.out
    rw [e] at hposL
    subst e
    exact FIN.out _ _ (by simp) (Blk.set (Blk.drewN (Blk.set (Blk.other (Blk.other (Blk.other (Blk.other (Blk.drewN HC.out.2.1 _) _ nb) _ nb) _ nb) _ nb) 4 _) _) 5 _)
      (Blk.other (Blk.drewN (Blk.other (pkt_store (Blk.drewN HC.out.2.2 _) _ hposL p) _ ne) _) _ ne)
  · have h1 := HC.out.1
    have h2 : Chg (fun k => k = b ∨ k = r) w w2 := (((Chg.refl _ w).alloc (.cells #[.int .u64 p.id, .int .i64 p.cls, .int .i64 p.len, .int .u64 p.at_] 32)).trans h1 fun k h => h.elim)
    (repeat' (first | (with_reducible exact Chg.refl _ _) | (with_reducible assumption) | (with_reducible refine Chg.alloc ?_ _) | (with_reducible refine Chg.drewN ?_ _) | (with_reducible refine Chg.drew ?_) | (with_reducible refine Chg.setCell ?_ _ ?_) | (apply Or.inl; with_reducible rfl) | (apply Or.inl; simp; done) | (apply Or.inr; simp; done) | (apply Or.inr; simp; omega)))

theorem ringHas_grow {L : List Pkt} {f : Nat} {l : List Pkt} (h : ringHas L f l) (hf : f < L.length) (hl : l.length = L.length) (z : Pkt) :
    ringHas (L.drop f ++ L.take f ++ List.replicate L.length z) 0 l := by
  intro i hi
  have hlen : (L.drop f ++ L.take f ++ List.replicate L.length z).length = 2 * L.length := by simp; omega
  have hi' : i < L.length := by omega
  rw [hlen, Nat.zero_add, Nat.mod_eq_of_lt (by omega), List.getElem?_append_left (by simp; omega), ← h i hi]
  by_cases hc : i < L.length - f
  · rw [List.getElem?_append_left (by simp; omega), List.getElem?_drop, Nat.mod_eq_of_lt (by omega)]
  · rw [List.getElem?_append_right (by simp; omega), List.getElem?_take, if_pos (by simp; omega)]
    congr 1
    rw [show f + i = (f + i - L.length) + L.length by omega, Nat.add_mod_right, Nat.mod_eq_of_lt (by omega)]
    simp
    omega

set_option maxHeartbeats 2000000 in
theorem qPush_grows {w : World} {b r pk bt : Nat} {l : List Pkt} {L : List Pkt} {f : Nat} (p : Pkt) (ne : b ≠ r) (p1 : 1 ≤ pk) (p2 : pk ≤ 4096) (b1 : 1 ≤ bt) (b2 : bt ≤ 16777216) (hg : ∀ q ∈ l, goodLen q)
    (hf : f < L.length) (hl : l.length = L.length) (hL : L.length ≤ 8192) (hr : ringHas L f l) (hm : l.length < pk) (hp : 1 ≤ p.len) (hp' : p.len ≤ 65535) (hs : p.len ≤ bt - sumLen l)
    (q1 : Blk w b #[.int .i64 (pk : Int), .int .i64 (bt : Int), .slice (some ⟨r, 0, none⟩) L.length L.length, .int .i64 (f : Int), .int .i64 (l.length : Int), .int .i64 (sumLen l)] 46)
    (q2 : RowBlk Pkt.cells w r L 32) :
    Calls Try.prog 16 #[.pointer (some ⟨b, 0, none⟩), .agg #[.int .u64 p.id, .int .i64 p.cls, .int .i64 p.len, .int .u64 p.at_]] w fun e w' => e = .returned (.int .i64 0) ∧ ∃ r', w.heap.size ≤ r' ∧ QueueIs w' b r' pk bt (l ++ [p]) ∧ Chg (fun k => k = b ∨ k = r) w w' := by
  have hm0 : mayN p 65535 = 0 := by
    unfold mayN
    rw [if_neg (by omega), if_neg (by omega)]
  obtain ⟨L2, hL2⟩ : ∃ L2, L2 = L.drop f ++ L.take f ++ List.replicate L.length Pkt.zero := ⟨_, rfl⟩
  have hlen2 : L2.length = 2 * L.length := by rw [hL2]; simp; omega
  have hr2 : ringHas L2 0 l := by rw [hL2]; exact ringHas_grow hr hf hl _
  have FIN := hide (fun W r' (ne' : b ≠ r') cs ecs B R => push_end (W := W) (r := r') (L := L2) (f := 0) (p := p) ne' p1 p2 b1 b2 hg (by omega) (by omega) (by omega) hr2 hm hp hp' hs cs ecs B R)
  have s0 := sumLen_nonneg l hg
  have hb := q1.lt
  have hrr := q2.lt
  have c0 := q1.cell 0
  simp at c0
  have N := hide (fun o => qNone_made b pk (w.alloc o) (by rw [World.cell?_alloc_past _ _ _ hb]; exact c0) (by omega))
  have M := hide (fun w => pMay_any p 65535 w)
  rw [hm0] at M
  have HH := hide (And.intro (Blk.new w #[.int .u64 p.id, .int .i64 p.cls, .int .i64 p.len, .int .u64 p.at_] 32) (And.intro (q1.alloc (.cells #[.int .u64 p.id, .int .i64 p.cls, .int .i64 p.len, .int .u64 p.at_] 32)) (q2.alloc (.cells #[.int .u64 p.id, .int .i64 p.cls, .int .i64 p.len, .int .u64 p.at_] 32))))
  have G := hide (fun (W : World) (q1 : Blk W b #[.int .i64 (pk : Int), .int .i64 (bt : Int), .slice (some ⟨r, 0, none⟩) L.length L.length, .int .i64 (f : Int), .int .i64 (l.length : Int), .int .i64 (sumLen l)] 46)
    (q2 : RowBlk Pkt.cells W r L 32) => qGrow_any _ _ _ _ L f hf (by omega) ne q1 q2)
  rw [← hL2] at G
  have g1 : ((l.length : Int) == (pk : Int)) = false := by simp; omega
  have g2 : decide ((bt : Int) - sumLen l < p.len) = false := by simp; omega
  have g3 : ((l.length : Int) == (L.length : Int)) = true := by simp; omega
  have i1 : l.length ≤ L.length := by omega
  have i2 : L.length ≤ l.length := by omega
  have HL := hide (And.intro hl (And.intro hlen2 hL2))
  clear q1 q2 hm0 hg hr c0 hl hlen2 hL2 hr2
  go_enter Try.func16, Try.ntmps16
  go_wp2_with fail
  refine (N.out _).mono ?_
  rintro e w1 ⟨rfl, rfl⟩
  go_wp2_with fail
  refine (M.out _).mono ?_
  rintro e w2 ⟨rfl, hc⟩
  have Z2 := hc.blk HH.out.1 (fun h => h)
  have Q2 := hc.blk HH.out.2.1 (fun h => h)
  have R2 : RowBlk Pkt.cells w2 r L 32 := hc.blk HH.out.2.2 (fun h => h)
  have hs2 : w.heap.size < w2.heap.size := by have := hc.size; simp at this; omega
  have z2 := Z2.cell 2
  have k0 := Q2.cell 0
  have k1 := Q2.cell 1
  have k2 := Q2.cell 2
  have k4 := Q2.cell 4
  have k5 := Q2.cell 5
  simp at z2 k0 k1 k2 k4 k5
  have HC := hide (And.intro hc (And.intro Q2 (And.intro R2 Z2)))
  clear hc Z2 Q2 R2
  go_wp2
  go_quiet (fail)
  go_wp2
  go_quiet (fail)
  go_wp2_with fail
  refine (G.out _ (HC.out.2.1.drewN _) (Blk.drewN HC.out.2.2.1 _)).mono ?_
  rintro e w3 ⟨rfl, B3, R3, C3⟩
  simp only [World.heap_drewN] at B3 R3
  have hs3 : w2.heap.size < w3.heap.size := Blk.lt R3
  clear z2 k0 k1 k2 k4 k5
  have hcl : Chg (fun k => k = b ∨ k = r) w w3 := ((((Chg.refl _ w).alloc (.cells #[.int .u64 p.id, .int .i64 p.cls, .int .i64 p.len, .int .u64 p.at_] 32)).trans HC.out.1 (fun k h => h.elim)).drewN _).trans C3 (fun k h => .inl (.inl h))
  have Z3 : Blk w3 w.heap.size #[.int .u64 p.id, .int .i64 p.cls, .int .i64 p.len, .int .u64 p.at_] 32 := C3.blk (HC.out.2.2.2.drewN _) (by omega)
  have z0 := Z3.cell 0
  have z1 := Z3.cell 1
  have z2 := Z3.cell 2
  have z3 := Z3.cell 3
  have k2 := B3.cell 2
  have k3 := B3.cell 3
  have k4 := B3.cell 4
  have k5 := B3.cell 5
  have kz := B3.frozen
  have rz := Blk.frozen R3
  simp at z0 z1 z2 z3 k2 k3 k4 k5
  have hlen2 := HL.out.2.1
  rw [← hlen2] at k2
  have PL := hide (fun n => qPlace_any b 0 (l.length : Int) (some ⟨w2.heap.size, 0, none⟩) L2.length L2.length (w3.drewN n) k2 k3 (by omega) (by omega) (by omega) (by omega) (by omega) (by omega))
  obtain ⟨pos, hpos⟩ : ∃ pos, pos = (0 + l.length) % L2.length := ⟨_, rfl⟩
  have epos : ((0 : Int) + (l.length : Int)) % (L2.length : Int) = (pos : Int) := by rw [hpos]; simp
  rw [epos] at PL
  have hposL : pos < L2.length := by rw [hpos]; exact Nat.mod_lt _ (by omega)
  have n0 : (0 : Int) ≤ (pos : Int) := by omega
  have n1 : (pos : Int) < (L2.length : Int) := by omega
  have nb' : b ≠ w2.heap.size := by omega
  have nb : ¬ w2.heap.size = b := fun h => nb' h.symm
  have RC := hide (fun i (h : i < L2.length) j u hu => R3.cellAt Pkt.cells_length i h j u hu)
  have s0' := RC.out pos hposL 0 _ rfl
  have s1' := RC.out pos hposL 1 _ rfl
  have s2' := RC.out pos hposL 2 _ rfl
  have s3' := RC.out pos hposL 3 _ rfl
  simp only [Nat.add_zero] at s0'
  have HP := hide hpos
  have HC3 := hide (And.intro hcl (And.intro B3 R3))
  have H2 := hide hlen2
  clear B3 R3 C3 hcl Z3 hpos epos hlen2
  go_wp2
  refine wp_region_planq 0 12 (by kernel_rfl) (by kernel_rfl) ?_ ?_
  · exact fun _ _ _ _ _ h => h
  simp only [List.take_succ_cons, List.take_zero, List.drop_succ_cons, List.drop_zero]
  repeat (quiet_step ((go_at_call 28; exact Calls.quiet_of (PL.out _))))
  refine wpQuiet_nil ?_
  intro _ hw'
  obtain ⟨nq, hw''⟩ := hw'
  subst hw''
  go_wp2
  refine wp_region_planq 0 9 (by kernel_rfl) (by kernel_rfl) ?_ ?_
  · exact fun _ _ _ _ _ h => h
  simp only [List.take_succ_cons, List.take_zero, List.drop_succ_cons, List.drop_zero]
  repeat (quiet_step ((fail)))
  refine wpQuiet_nil ?_
  intro _ hw'
  obtain ⟨nq, hw''⟩ := hw'
  subst hw''
  go_wp2
  go_ret
  refine ⟨rfl, w2.heap.size, by omega, ?_, ?_⟩
  · have e := HP.out
    rw [e] at hposL
    subst e
    exact FIN.out _ _ nb' _ (by simp [H2.out]) (Blk.set (Blk.drewN (Blk.set (Blk.other (Blk.other (Blk.other (Blk.other (Blk.drewN HC3.out.2.1 _) _ nb) _ nb) _ nb) _ nb) 4 _) _) 5 _)
      (Blk.other (Blk.drewN (Blk.other (pkt_store (Blk.drewN HC3.out.2.2 _) _ hposL p) _ nb') _) _ nb')
  · have h1 := HC3.out.1
    (repeat' (first | (with_reducible exact Chg.refl _ _) | (with_reducible assumption) | (with_reducible refine Chg.alloc ?_ _) | (with_reducible refine Chg.drewN ?_ _) | (with_reducible refine Chg.drew ?_) | (with_reducible refine Chg.setCell ?_ _ ?_) | (apply Or.inl; with_reducible rfl) | (apply Or.inl; simp; done) | (apply Or.inr; simp; done) | (apply Or.inr; simp; omega)))
end Go.Proofs.Ytbghddmjoampiaa
