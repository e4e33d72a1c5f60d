/- The document's Parse of a packet. Condition: at most 1000 bytes. -/
import Derived.Test.YtofgajlpdnokdaaDoorRWords
import Derived.RegionTactic
import Derived.ChangeAlike
namespace Go.Proofs.YtofgajlpdnokdaaDoor
set_option linter.unusedVariables false
open Go.Shelf Go.RowKit Go.Sort Go.Lib

def pkAgg (i c n t : Nat) : Value := .agg #[.int .u64 (i : Int), .int .i64 (c : Int), .int .i64 (n : Int), .int .u64 (t : Int)]
/-- Bytes, and what Parse tells of them: the packet whose text they are; or that they are none's. -/
def PkIs (l : List UInt8) (e : Ending) : Prop :=
  (∃ i c n t : Nat, IsPk l i c n t ∧ e = .returned (.tuple #[.agg #[.int .u64 (i : Int), .int .i64 (c : Int), .int .i64 (n : Int), .int .u64 (t : Int)], .int .i64 0])) ∨ (NoPk l ∧ e = .returned (.tuple #[.agg #[.int .u64 0, .int .i64 0, .int .i64 0, .int .u64 0], .int .i64 2]))

def numC (u : Nat) : List Value := [.int .u64 (u : Int)]
theorem numR : RecT Tryd.prog numC 1 84 22 8 0 :=
  ⟨Tryd.underlying84, info_rec (by kernel_rfl), by omega, fun _ => rfl, fun x u hu => by
    simp only [numC, List.mem_singleton] at hu
    subst hu
    rfl⟩
theorem Blk.rowN (w : World) (n : Nat) (e : TypeId) : RowAt numC 1 (w.alloc (.cells #[.int .u64 (n : Int)] e)) (some ⟨w.heap.size, 0, none⟩) [n] := by
  intro i hi
  obtain rfl : i = 0 := by simpa using hi
  refine ⟨w.heap.size, 0, rfl, fun j u hu => ?_⟩
  simp only [List.getElem_cons_zero, numC] at hu
  have hj : j = 0 := by
    have := (List.getElem?_eq_some_iff.1 hu).1
    simpa using this
  subst hj
  rw [(Blk.new w #[.int .u64 (n : Int)] e).cell]
  simpa using hu

theorem NoPk.words {l : List UInt8} (h : (pieces 32 l).length ≠ 4) : NoPk l := by
  intro i c n t hp
  rw [hp.1, pkText_pieces] at h
  exact h rfl
/-- A word that is no number of the right size: no packet's text. -/
theorem NoPk.word {l : List UInt8} {ws : List (List UInt8)} (hw : pieces 32 l = ws) (k : Nat) (x : List UInt8) (hx : ws[k]? = some x) (hk : k < 4) (h : ∀ u : Nat, u < 18446744073709551616 → (k = 1 ∨ k = 2 → u < 9223372036854775808) → x ≠ Lib.decDigits u) : NoPk l := by
  intro i c n t ⟨e, hi, hc, hn, ht⟩
  rw [e, pkText_pieces] at hw
  subst hw
  match k, hk with
  | 0, _ => exact h i hi (fun h => by omega) (by simpa using hx.symm)
  | 1, _ => exact h c (by omega) (fun _ => hc) (by simpa using hx.symm)
  | 2, _ => exact h n (by omega) (fun _ => hn) (by simpa using hx.symm)
  | 3, _ => exact h t ht (fun h => by omega) (by simpa using hx.symm)
theorem IsPk.mk {l : List UInt8} {i c n t : Nat} (hw : pieces 32 l = [Lib.decDigits i, Lib.decDigits c, Lib.decDigits n, Lib.decDigits t]) (hi : i < 18446744073709551616) (hc : c < 9223372036854775808) (hn : n < 9223372036854775808) (ht : t < 18446744073709551616) : IsPk l i c n t := by
  refine ⟨?_, hi, hc, hn, ht⟩
  rw [← join_pieces 32 l, hw]
  rfl

/-- A slice of texts that the call made: where each lies. -/
theorem own_cell {w : World} {v : Value} {l : List ByteArray} (h : Own strC 1 9 w v l) : ∃ a cap, v = .slice a l.length cap ∧ (0 < l.length → ∃ g o, a = some ⟨g, o, none⟩ ∧ ∀ (j : Nat) (hj : j < l.length), w.cell? ⟨g, o + j, none⟩ = some (.string l[j])) := by
  obtain ⟨a, cap, rfl, hcap, -, hrow⟩ := Own.row (sz := 1) (cells := strC) (fun _ => rfl) h
  refine ⟨a, cap, rfl, fun hpos => ?_⟩
  obtain ⟨g, o, rfl, h0⟩ := hrow 0 hpos
  refine ⟨g, o, rfl, fun j hj => ?_⟩
  obtain ⟨g', o', he, hc⟩ := hrow j hj
  obtain ⟨rfl, rfl⟩ : g = g' ∧ o = o' := by simpa using he
  have := hc 0 (.string l[j]) (by rfl)
  simpa using this
theorem chg_same {w w' : World} (hc : Chg NoChg w w') {ad : Addr} {u : Value} (h : w.cell? ad = some u) : w'.cell? ad = some u := (hc.cell (cell_lt h) (fun h => h)).trans h
theorem word_size (s x : ByteArray) (h : x.data.toList ∈ pieces 32 s.data.toList) (hs : s.size ≤ 1000) : x.size ≤ 9223372036854775807 := by
  have := piece_length 32 s.data.toList _ h
  simp at this
  omega
/-- Numbers in a slice of the call's own. -/
structure NS (w1 wk : World) (v : Value) (ns : List Nat) : Prop where
  chg : Chg NoChg w1 wk
  own : Own numC 1 22 wk v ns
  lt : ∀ g, v.ownBlock = some g → w1.heap.size ≤ g
theorem NS.start (w1 : World) : NS w1 w1 (.slice none 0 0) [] := ⟨Chg.refl _ _, Own.nil _ _ _ _, fun g h => by cases h⟩
theorem NS.step {w1 wk wb w2 : World} {v v' : Value} {l : List Nat} {x : Nat} {o : Obj} (h : NS w1 wk v l) (cb : Chg NoChg wk wb) (hown : Own numC 1 22 w2 v' (l ++ [x]))
    (hc : Chg (fun k => v.ownBlock = some k) (wb.alloc o) w2) (hv : v'.ownBlock = v.ownBlock ∨ v'.ownBlock = some (wb.heap.size + 1)) : NS w1 w2 v' (l ++ [x]) :=
  ⟨((h.chg.trans' cb).alloc o).trans hc (fun k hk => .inr (h.lt k hk)), hown, own_next (h.chg.trans' cb) h.lt hv⟩
theorem own_cellN {w : World} {v : Value} {l : List Nat} (h : Own numC 1 22 w v l) : ∃ a cap, v = .slice a l.length cap ∧ (0 < l.length → ∃ g o, a = some ⟨g, o, none⟩ ∧ ∀ (j : Nat) (hj : j < l.length), w.cell? ⟨g, o + j, none⟩ = some (.int .u64 (l[j] : Int))) := by
  obtain ⟨a, cap, rfl, hcap, -, hrow⟩ := Own.row (sz := 1) (cells := numC) (fun _ => rfl) h
  refine ⟨a, cap, rfl, fun hpos => ?_⟩
  obtain ⟨g, o, rfl, h0⟩ := hrow 0 hpos
  refine ⟨g, o, rfl, fun j hj => ?_⟩
  obtain ⟨g', o', he, hc⟩ := hrow j hj
  obtain ⟨rfl, rfl⟩ : g = g' ∧ o = o' := by simpa using he
  have := hc 0 (.int .u64 (l[j] : Int)) (by rfl)
  simpa using this

set_option maxRecDepth 100000 in
set_option maxHeartbeats 4000000 in
theorem r10Parse_any (s : ByteArray) (w : World) (hs : s.size ≤ 1000) : Calls Tryd.prog 12 #[.string s] w fun e w' => PkIs s.data.toList e ∧ Chg NoChg w w' := by
  have C0 := hide ((Chg.refl NoChg w).alloc (.cells #[.int .u64 0, .int .i64 0, .int .i64 0, .int .u64 0] 24))
  have B0 := hide (Blk.new w #[.int .u64 0, .int .i64 0, .int .i64 0, .int .u64 0] 24)
  have HW := hide (r10Words_any s (w.alloc (.cells #[.int .u64 0, .int .i64 0, .int .i64 0, .int .u64 0] 24)) hs)
  go_enter Tryd.func12, Tryd.ntmps12
  go_wp2_with fail
  refine HW.out.mono ?_
  rintro e w1 ⟨v, l, rfl, hl, hown, hg, hc⟩
  obtain ⟨a, cap, rfl, hcell⟩ := own_cell hown
  have hll : l.length = (pieces 32 s.data.toList).length := by rw [← hl]; simp
  have C1 := hide (C0.out.trans' hc)
  have B1 := hide (hc.blk B0.out (fun h => h))
  have HL := hide hl
  have HCELL := hide hcell
  have HOWN := hide hown
  clear hown hcell hl hc C0 B0 HW hg
  by_cases h4 : l.length = 4
  · have h4' : ((l.length : Int) != 4) = false := by simp; omega
    clear hll
    obtain ⟨x0, x1, x2, x3, rfl⟩ : ∃ x0 x1 x2 x3, l = [x0, x1, x2, x3] := by
      match l, h4 with
      | [x0, x1, x2, x3], _ => exact ⟨x0, x1, x2, x3, rfl⟩
    obtain ⟨g, o, rfl, hcell⟩ := HCELL.out (by simp)
    have HC := hide hcell
    have T0 := hide (NS.start w1)
    clear hcell HCELL h4
    have q0 : w1.cell? ⟨g, o, none⟩ = some (.string x0) := HC.out 0 (by simp)
    go_wp2
    refine wp_loop_rounds 5 ?_
    rw [rounds_succ]
    go_wp2_with fail
    refine (r10Digits_any x0 _ (word_size s x0 (by rw [← HL.out]; simp) hs)).mono ?_
    rintro e wa0 ⟨hd, ca⟩
    have CA0 := hide (T0.out.chg.trans' ca)
    have CB0 := hide ca
    clear ca q0
    rcases hd with ⟨u0, hu, hx, rfl⟩ | ⟨hno, m, hm, rfl⟩
    rotate_left
    · clear hm
      have HN := hide (NoPk.word HL.out.symm 0 _ rfl (by omega) (fun u hu _ => hno u hu))
      obtain ⟨b0, b1, b2, b3⟩ := Pkt.cells4 (w' := wa0) (c := 0) (i := 0) (n := 0) (t := 0) B1.out CA0.out
      have zz : w.heap.size < wa0.heap.size := (Chg.blk CA0.out B1.out (fun h => h)).lt
      have f0 := Blk.frozen (Chg.blk CA0.out B1.out (fun h => h)) 0
      have f1 := Blk.frozen (Chg.blk CA0.out B1.out (fun h => h)) 1
      have f2 := Blk.frozen (Chg.blk CA0.out B1.out (fun h => h)) 2
      have f3 := Blk.frozen (Chg.blk CA0.out B1.out (fun h => h)) 3
      clear hno
      go_wp2
      refine bodyPost_ret (v := .tuple #[.agg #[.int .u64 0, .int .i64 0, .int .i64 0, .int .u64 0], .int .i64 2]) (by simp [results, Tryd.results12, go_sem, b0, b1, b2, b3]) rfl ⟨.inr ⟨HN.out, rfl⟩, ?_⟩
      have C2 := C1.out.trans' CA0.out
      (repeat' (first | (with_reducible exact Chg.refl _ _) | (with_reducible assumption) | (with_reducible refine Chg.alloc ?_ _) | (with_reducible refine Chg.drewN ?_ _) | (with_reducible refine Chg.drew ?_) | (with_reducible refine Chg.setCell ?_ _ ?_) | (apply Or.inl; with_reducible rfl) | (apply Or.inl; simp; done) | (apply Or.inr; simp; done) | (apply Or.inr; simp; omega)))
    have U0 := hide hu
    have X0 := hide hx
    clear hu hx
    go_wp2_with (at_builtin; refine wpList_append_rec numR rfl (.tmp 42) (.tmp 44) rfl _ ([] : List Nat) rfl ((T0.out.own.keep CB0.out (fun _ _ h => h)).keep ((Chg.refl NoChg wa0).alloc _) (fun _ _ h => h)) _ _ [u0] rfl ?a01 ?a02 ?a03 ?a04 ?a05)
    case a01 => intro h; cases h
    case a02 => exact Blk.rowN wa0 _ 22
    case a03 => simp [maxLen]
    case a04 => simp
    intro v1 wk1 hown hcc hv
    have T1 := hide (T0.out.step CB0.out hown hcc hv)
    clear hown hcc hv
    simp only [List.nil_append] at T1
    clear CA0 CB0 T0
    have q1 : wk1.cell? ⟨g, o + 1, none⟩ = some (.string x1) := chg_same T1.out.chg (HC.out 1 (by simp))
    go_wp2
    rw [rounds_succ]
    go_wp2_with fail
    refine (r10Digits_any x1 _ (word_size s x1 (by rw [← HL.out]; simp) hs)).mono ?_
    rintro e wa1 ⟨hd, ca⟩
    have CA1 := hide (T1.out.chg.trans' ca)
    have CB1 := hide ca
    clear ca q1
    rcases hd with ⟨u1, hu, hx, rfl⟩ | ⟨hno, m, hm, rfl⟩
    rotate_left
    · clear hm
      have HN := hide (NoPk.word HL.out.symm 1 _ rfl (by omega) (fun u hu _ => hno u hu))
      obtain ⟨b0, b1, b2, b3⟩ := Pkt.cells4 (w' := wa1) (c := 0) (i := 0) (n := 0) (t := 0) B1.out CA1.out
      have zz : w.heap.size < wa1.heap.size := (Chg.blk CA1.out B1.out (fun h => h)).lt
      have f0 := Blk.frozen (Chg.blk CA1.out B1.out (fun h => h)) 0
      have f1 := Blk.frozen (Chg.blk CA1.out B1.out (fun h => h)) 1
      have f2 := Blk.frozen (Chg.blk CA1.out B1.out (fun h => h)) 2
      have f3 := Blk.frozen (Chg.blk CA1.out B1.out (fun h => h)) 3
      clear hno
      go_wp2
      refine bodyPost_ret (v := .tuple #[.agg #[.int .u64 0, .int .i64 0, .int .i64 0, .int .u64 0], .int .i64 2]) (by simp [results, Tryd.results12, go_sem, b0, b1, b2, b3]) rfl ⟨.inr ⟨HN.out, rfl⟩, ?_⟩
      have C2 := C1.out.trans' CA1.out
      (repeat' (first | (with_reducible exact Chg.refl _ _) | (with_reducible assumption) | (with_reducible refine Chg.alloc ?_ _) | (with_reducible refine Chg.drewN ?_ _) | (with_reducible refine Chg.drew ?_) | (with_reducible refine Chg.setCell ?_ _ ?_) | (apply Or.inl; with_reducible rfl) | (apply Or.inl; simp; done) | (apply Or.inr; simp; done) | (apply Or.inr; simp; omega)))
    have U1 := hide hu
    have X1 := hide hx
    clear hu hx
    by_cases hbig : ¬ u1 < 9223372036854775808
    · have hb1 : (9223372036854775807 : Int) < (u1 : Int) := by omega
      have HN := hide (NoPk.word HL.out.symm 1 _ rfl (by omega) (fun u hu h e => hbig (by have := h (by omega); rw [dec_inj (X1.out.symm.trans e)]; exact this)))
      obtain ⟨b0, b1, b2, b3⟩ := Pkt.cells4 (w' := wa1) (c := 0) (i := 0) (n := 0) (t := 0) B1.out CA1.out
      have zz : w.heap.size < wa1.heap.size := (Chg.blk CA1.out B1.out (fun h => h)).lt
      have f0 := Blk.frozen (Chg.blk CA1.out B1.out (fun h => h)) 0
      have f1 := Blk.frozen (Chg.blk CA1.out B1.out (fun h => h)) 1
      have f2 := Blk.frozen (Chg.blk CA1.out B1.out (fun h => h)) 2
      have f3 := Blk.frozen (Chg.blk CA1.out B1.out (fun h => h)) 3
      clear hbig
      go_wp2
      refine bodyPost_ret (v := .tuple #[.agg #[.int .u64 0, .int .i64 0, .int .i64 0, .int .u64 0], .int .i64 2]) (by simp [results, Tryd.results12, go_sem, b0, b1, b2, b3]) rfl ⟨.inr ⟨HN.out, rfl⟩, ?_⟩
      have C2 := C1.out.trans' CA1.out
      (repeat' (first | (with_reducible exact Chg.refl _ _) | (with_reducible assumption) | (with_reducible refine Chg.alloc ?_ _) | (with_reducible refine Chg.drewN ?_ _) | (with_reducible refine Chg.drew ?_) | (with_reducible refine Chg.setCell ?_ _ ?_) | (apply Or.inl; with_reducible rfl) | (apply Or.inl; simp; done) | (apply Or.inr; simp; done) | (apply Or.inr; simp; omega)))
    have hb1 : ¬ (9223372036854775807 : Int) < (u1 : Int) := by omega
    have S1 := hide (Nat.not_le.1 (fun h => hbig (by omega)) : u1 < 9223372036854775808)
    clear hbig
    go_wp2_with (at_builtin; refine wpList_append_rec numR rfl (.tmp 42) (.tmp 44) rfl _ ([u0] : List Nat) rfl ((T1.out.own.keep CB1.out (fun _ _ h => h)).keep ((Chg.refl NoChg wa1).alloc _) (fun _ _ h => h)) _ _ [u1] rfl ?a11 ?a12 ?a13 ?a14 ?a15)
    case a11 => intro h; cases h
    case a12 => exact Blk.rowN wa1 _ 22
    case a13 => simp [maxLen]
    case a14 => simp
    intro v2 wk2 hown hcc hv
    have T2 := hide (T1.out.step CB1.out hown hcc hv)
    clear hown hcc hv
    simp only [List.nil_append, List.cons_append] at T2
    clear CA1 CB1 T1
    clear hb1
    have q2 : wk2.cell? ⟨g, o + 2, none⟩ = some (.string x2) := chg_same T2.out.chg (HC.out 2 (by simp))
    go_wp2
    rw [rounds_succ]
    go_wp2_with fail
    refine (r10Digits_any x2 _ (word_size s x2 (by rw [← HL.out]; simp) hs)).mono ?_
    rintro e wa2 ⟨hd, ca⟩
    have CA2 := hide (T2.out.chg.trans' ca)
    have CB2 := hide ca
    clear ca q2
    rcases hd with ⟨u2, hu, hx, rfl⟩ | ⟨hno, m, hm, rfl⟩
    rotate_left
    · clear hm
      have HN := hide (NoPk.word HL.out.symm 2 _ rfl (by omega) (fun u hu _ => hno u hu))
      obtain ⟨b0, b1, b2, b3⟩ := Pkt.cells4 (w' := wa2) (c := 0) (i := 0) (n := 0) (t := 0) B1.out CA2.out
      have zz : w.heap.size < wa2.heap.size := (Chg.blk CA2.out B1.out (fun h => h)).lt
      have f0 := Blk.frozen (Chg.blk CA2.out B1.out (fun h => h)) 0
      have f1 := Blk.frozen (Chg.blk CA2.out B1.out (fun h => h)) 1
      have f2 := Blk.frozen (Chg.blk CA2.out B1.out (fun h => h)) 2
      have f3 := Blk.frozen (Chg.blk CA2.out B1.out (fun h => h)) 3
      clear hno
      go_wp2
      refine bodyPost_ret (v := .tuple #[.agg #[.int .u64 0, .int .i64 0, .int .i64 0, .int .u64 0], .int .i64 2]) (by simp [results, Tryd.results12, go_sem, b0, b1, b2, b3]) rfl ⟨.inr ⟨HN.out, rfl⟩, ?_⟩
      have C2 := C1.out.trans' CA2.out
      (repeat' (first | (with_reducible exact Chg.refl _ _) | (with_reducible assumption) | (with_reducible refine Chg.alloc ?_ _) | (with_reducible refine Chg.drewN ?_ _) | (with_reducible refine Chg.drew ?_) | (with_reducible refine Chg.setCell ?_ _ ?_) | (apply Or.inl; with_reducible rfl) | (apply Or.inl; simp; done) | (apply Or.inr; simp; done) | (apply Or.inr; simp; omega)))
    have U2 := hide hu
    have X2 := hide hx
    clear hu hx
    by_cases hbig : ¬ u2 < 9223372036854775808
    · have hb1 : (9223372036854775807 : Int) < (u2 : Int) := by omega
      have HN := hide (NoPk.word HL.out.symm 2 _ rfl (by omega) (fun u hu h e => hbig (by have := h (by omega); rw [dec_inj (X2.out.symm.trans e)]; exact this)))
      obtain ⟨b0, b1, b2, b3⟩ := Pkt.cells4 (w' := wa2) (c := 0) (i := 0) (n := 0) (t := 0) B1.out CA2.out
      have zz : w.heap.size < wa2.heap.size := (Chg.blk CA2.out B1.out (fun h => h)).lt
      have f0 := Blk.frozen (Chg.blk CA2.out B1.out (fun h => h)) 0
      have f1 := Blk.frozen (Chg.blk CA2.out B1.out (fun h => h)) 1
      have f2 := Blk.frozen (Chg.blk CA2.out B1.out (fun h => h)) 2
      have f3 := Blk.frozen (Chg.blk CA2.out B1.out (fun h => h)) 3
      clear hbig
      go_wp2
      refine bodyPost_ret (v := .tuple #[.agg #[.int .u64 0, .int .i64 0, .int .i64 0, .int .u64 0], .int .i64 2]) (by simp [results, Tryd.results12, go_sem, b0, b1, b2, b3]) rfl ⟨.inr ⟨HN.out, rfl⟩, ?_⟩
      have C2 := C1.out.trans' CA2.out
      (repeat' (first | (with_reducible exact Chg.refl _ _) | (with_reducible assumption) | (with_reducible refine Chg.alloc ?_ _) | (with_reducible refine Chg.drewN ?_ _) | (with_reducible refine Chg.drew ?_) | (with_reducible refine Chg.setCell ?_ _ ?_) | (apply Or.inl; with_reducible rfl) | (apply Or.inl; simp; done) | (apply Or.inr; simp; done) | (apply Or.inr; simp; omega)))
    have hb1 : ¬ (9223372036854775807 : Int) < (u2 : Int) := by omega
    have S2 := hide (Nat.not_le.1 (fun h => hbig (by omega)) : u2 < 9223372036854775808)
    clear hbig
    go_wp2_with (at_builtin; refine wpList_append_rec numR rfl (.tmp 42) (.tmp 44) rfl _ ([u0, u1] : List Nat) rfl ((T2.out.own.keep CB2.out (fun _ _ h => h)).keep ((Chg.refl NoChg wa2).alloc _) (fun _ _ h => h)) _ _ [u2] rfl ?a21 ?a22 ?a23 ?a24 ?a25)
    case a21 => intro h; cases h
    case a22 => exact Blk.rowN wa2 _ 22
    case a23 => simp [maxLen]
    case a24 => simp
    intro v3 wk3 hown hcc hv
    have T3 := hide (T2.out.step CB2.out hown hcc hv)
    clear hown hcc hv
    simp only [List.nil_append, List.cons_append] at T3
    clear CA2 CB2 T2
    clear hb1
    have q3 : wk3.cell? ⟨g, o + 3, none⟩ = some (.string x3) := chg_same T3.out.chg (HC.out 3 (by simp))
    go_wp2
    rw [rounds_succ]
    go_wp2_with fail
    refine (r10Digits_any x3 _ (word_size s x3 (by rw [← HL.out]; simp) hs)).mono ?_
    rintro e wa3 ⟨hd, ca⟩
    have CA3 := hide (T3.out.chg.trans' ca)
    have CB3 := hide ca
    clear ca q3
    rcases hd with ⟨u3, hu, hx, rfl⟩ | ⟨hno, m, hm, rfl⟩
    rotate_left
    · clear hm
      have HN := hide (NoPk.word HL.out.symm 3 _ rfl (by omega) (fun u hu _ => hno u hu))
      obtain ⟨b0, b1, b2, b3⟩ := Pkt.cells4 (w' := wa3) (c := 0) (i := 0) (n := 0) (t := 0) B1.out CA3.out
      have zz : w.heap.size < wa3.heap.size := (Chg.blk CA3.out B1.out (fun h => h)).lt
      have f0 := Blk.frozen (Chg.blk CA3.out B1.out (fun h => h)) 0
      have f1 := Blk.frozen (Chg.blk CA3.out B1.out (fun h => h)) 1
      have f2 := Blk.frozen (Chg.blk CA3.out B1.out (fun h => h)) 2
      have f3 := Blk.frozen (Chg.blk CA3.out B1.out (fun h => h)) 3
      clear hno
      go_wp2
      refine bodyPost_ret (v := .tuple #[.agg #[.int .u64 0, .int .i64 0, .int .i64 0, .int .u64 0], .int .i64 2]) (by simp [results, Tryd.results12, go_sem, b0, b1, b2, b3]) rfl ⟨.inr ⟨HN.out, rfl⟩, ?_⟩
      have C2 := C1.out.trans' CA3.out
      (repeat' (first | (with_reducible exact Chg.refl _ _) | (with_reducible assumption) | (with_reducible refine Chg.alloc ?_ _) | (with_reducible refine Chg.drewN ?_ _) | (with_reducible refine Chg.drew ?_) | (with_reducible refine Chg.setCell ?_ _ ?_) | (apply Or.inl; with_reducible rfl) | (apply Or.inl; simp; done) | (apply Or.inr; simp; done) | (apply Or.inr; simp; omega)))
    have U3 := hide hu
    have X3 := hide hx
    clear hu hx
    go_wp2_with (at_builtin; refine wpList_append_rec numR rfl (.tmp 42) (.tmp 44) rfl _ ([u0, u1, u2] : List Nat) rfl ((T3.out.own.keep CB3.out (fun _ _ h => h)).keep ((Chg.refl NoChg wa3).alloc _) (fun _ _ h => h)) _ _ [u3] rfl ?a31 ?a32 ?a33 ?a34 ?a35)
    case a31 => intro h; cases h
    case a32 => exact Blk.rowN wa3 _ 22
    case a33 => simp [maxLen]
    case a34 => simp
    intro v4 wk4 hown hcc hv
    have T4 := hide (T3.out.step CB3.out hown hcc hv)
    clear hown hcc hv
    simp only [List.nil_append, List.cons_append] at T4
    clear CA3 CB3 T3
    go_wp2
    rw [rounds_succ]
    obtain ⟨a4, cap4, hv4, hcell4⟩ := own_cellN T4.out.own
    simp only [List.length_cons, List.length_nil, Nat.zero_add, Nat.reduceAdd] at hv4
    subst hv4
    obtain ⟨g4, o4, rfl, hc4⟩ := hcell4 (by simp)
    have n0 : wk4.cell? ⟨g4, o4, none⟩ = some (.int .u64 (u0 : Int)) := hc4 0 (by simp)
    have n1 : wk4.cell? ⟨g4, o4 + 1, none⟩ = some (.int .u64 (u1 : Int)) := hc4 1 (by simp)
    have n2 : wk4.cell? ⟨g4, o4 + 2, none⟩ = some (.int .u64 (u2 : Int)) := hc4 2 (by simp)
    have n3 : wk4.cell? ⟨g4, o4 + 3, none⟩ = some (.int .u64 (u3 : Int)) := hc4 3 (by simp)
    have HP := hide (IsPk.mk (l := s.data.toList) (i := u0) (c := u1) (n := u2) (t := u3) (by rw [← HL.out]; simp [X0.out, X1.out, X2.out, X3.out]) U0.out S1.out S2.out U3.out)
    have e1 : IntKind.i64.wrap (u1 : Int) = (u1 : Int) := IntWalk.i64_in _ (by have := S1.out; omega)
    have e2 : IntKind.i64.wrap (u2 : Int) = (u2 : Int) := IntWalk.i64_in _ (by have := S2.out; omega)
    obtain ⟨b0, b1, b2, b3⟩ := Pkt.cells4 (w' := wk4) (c := 0) (i := 0) (n := 0) (t := 0) B1.out T4.out.chg
    have zz : w.heap.size < wk4.heap.size := (Chg.blk T4.out.chg B1.out (fun h => h)).lt
    have f0 := Blk.frozen (Chg.blk T4.out.chg B1.out (fun h => h)) 0
    have f1 := Blk.frozen (Chg.blk T4.out.chg B1.out (fun h => h)) 1
    have f2 := Blk.frozen (Chg.blk T4.out.chg B1.out (fun h => h)) 2
    have f3 := Blk.frozen (Chg.blk T4.out.chg B1.out (fun h => h)) 3
    have CC := hide (C1.out.trans' T4.out.chg)
    clear hcell4 hc4 T4
    go_wp2
    go_region
    all_goals go_wp2
    all_goals refine bodyPost_ret (v := .tuple #[.agg #[.int .u64 (u0 : Int), .int .i64 (u1 : Int), .int .i64 (u2 : Int), .int .u64 (u3 : Int)], .int .i64 0]) (by simp [results, Tryd.results12, go_sem, b0, b1, b2, b3]) rfl ⟨.inl ⟨u0, u1, u2, u3, HP.out, rfl⟩, ?_⟩
    all_goals
      have C2 := CC.out
      (repeat' (first | (with_reducible exact Chg.refl _ _) | (with_reducible assumption) | (with_reducible refine Chg.alloc ?_ _) | (with_reducible refine Chg.drewN ?_ _) | (with_reducible refine Chg.drew ?_) | (with_reducible refine Chg.setCell ?_ _ ?_) | (apply Or.inl; with_reducible rfl) | (apply Or.inl; simp; done) | (apply Or.inr; simp; done) | (apply Or.inr; simp; omega)))
  · have HN := hide (NoPk.words (l := s.data.toList) (by omega))
    have h4' : ((l.length : Int) != 4) = true := by simp; omega
    have z1 := B1.out.lt
    obtain ⟨b0, b1, b2, b3⟩ := Pkt.cells4 (w' := w1) (c := 0) (i := 0) (n := 0) (t := 0) B1.out (Chg.refl _ _)
    have f0 := Blk.frozen B1.out 0
    have f1 := Blk.frozen B1.out 1
    have f2 := Blk.frozen B1.out 2
    have f3 := Blk.frozen B1.out 3
    clear hll h4
    go_wp2
    refine bodyPost_ret (v := .tuple #[.agg #[.int .u64 0, .int .i64 0, .int .i64 0, .int .u64 0], .int .i64 2]) (by simp [results, Tryd.results12, go_sem, b0, b1, b2, b3]) rfl ⟨.inr ⟨HN.out, rfl⟩, ?_⟩
    have C2 := C1.out
    (repeat' (first | (with_reducible exact Chg.refl _ _) | (with_reducible assumption) | (with_reducible refine Chg.alloc ?_ _) | (with_reducible refine Chg.drewN ?_ _) | (with_reducible refine Chg.drew ?_) | (with_reducible refine Chg.setCell ?_ _ ?_) | (apply Or.inl; with_reducible rfl) | (apply Or.inl; simp; done) | (apply Or.inr; simp; done) | (apply Or.inr; simp; omega)))
end Go.Proofs.YtofgajlpdnokdaaDoor
