/- Specs parsed: what the document's Parse tells. Condition: at most 1000 bytes. -/
import Derived.Test.YtofgajlpdnokdaaDoorSIs
import Derived.BigRegion
namespace Go.Proofs.YtofgajlpdnokdaaDoor
set_option linter.unusedVariables false
open Go.Shelf Go.RowKit Go.Sort Go.Lib
attribute [local go_sem] yieldC

def intC (n : Int) : List Value := [.int .i64 n]
theorem intR : RecT Tryd.prog intC 1 94 3 8 0 :=
  ⟨Tryd.underlying94, info_rec (by kernel_rfl), by omega, fun _ => rfl, fun x u hu => by
    simp only [intC, List.mem_singleton] at hu
    subst hu
    rfl⟩
theorem Blk.rowI (w : World) (n : Int) (e : TypeId) : RowAt intC 1 (w.alloc (.cells #[.int .i64 n] e)) (some ⟨w.heap.size, 0, none⟩) [n] := by
  intro i hi
  obtain rfl : i = 0 := by simpa using hi
  refine ⟨w.heap.size, 0, rfl, fun j u hu => ?_⟩
  simp only [List.getElem_cons_zero, intC] at hu
  have hj : j = 0 := by
    have := (List.getElem?_eq_some_iff.1 hu).1
    simpa using this
  subst hj
  rw [(Blk.new w #[.int .i64 n] e).cell]
  simpa using hu
theorem own_cellI {w : World} {v : Value} {l : List Int} (h : Own intC 1 3 w v l) : ∃ a cap, v = .slice a l.length cap ∧ (0 < l.length → ∃ g o, a = some ⟨g, o, none⟩ ∧ ∀ (j : Nat) (hj : j < l.length), w.cell? ⟨g, o + j, none⟩ = some (.int .i64 l[j])) := by
  obtain ⟨a, cap, rfl, hcap, -, hrow⟩ := Own.row (sz := 1) (cells := intC) (fun _ => rfl) h
  refine ⟨a, cap, rfl, fun hpos => ?_⟩
  obtain ⟨g, o, rfl, h0⟩ := hrow 0 hpos
  refine ⟨g, o, rfl, fun j hj => ?_⟩
  obtain ⟨g', o', he, hc⟩ := hrow j hj
  obtain ⟨rfl, rfl⟩ : g = g' ∧ o = o' := by simpa using he
  have := hc 0 (.int .i64 l[j]) (by rfl)
  simpa using this
/-- Numbers in a slice of the call's own. -/
structure IS (w1 wk : World) (v : Value) (ns : List Int) : Prop where
  chg : Chg NoChg w1 wk
  own : Own intC 1 3 wk v ns
  lt : ∀ g, v.ownBlock = some g → w1.heap.size ≤ g
theorem IS.step {w1 wk wb w2 : World} {v v' : Value} {l : List Int} {x : Int} {o : Obj} (h : IS w1 wk v l) (cb : Chg NoChg wk wb) (hown : Own intC 1 3 w2 v' (l ++ [x]))
    (hc : Chg (fun k => v.ownBlock = some k) (wb.alloc o) w2) (hv : v'.ownBlock = v.ownBlock ∨ v'.ownBlock = some (wb.heap.size + 1)) : IS w1 w2 v' (l ++ [x]) :=
  ⟨((h.chg.trans' cb).alloc o).trans hc (fun k hk => .inr (h.lt k hk)), hown, own_next (h.chg.trans' cb) h.lt hv⟩

set_option maxRecDepth 100000 in
set_option maxHeartbeats 16000000 in
theorem r13Parse_other (s : ByteArray) (w : World) (hs : s.size ≤ 1000) (hno : ∀ b, ¬ ((pieces 32 s.data.toList).length = 8 ∧ (pieces 32 s.data.toList)[0]? = some (kindW b))) : Calls Tryd.prog 18 #[.string s] w fun e w' => SpIs s.data.toList e ∧ Chg NoChg w w' := by
  have HYP := hide hno
  clear hno
  have C0 := hide ((Chg.refl NoChg w).alloc (.cells #[.int .i64 0, .int .i64 0, .bool false, .int .u64 0, .int .u64 0, .int .u64 0, .int .u64 0, .int .u64 0, .int .u64 0, .int .u64 0, .int .u64 0, .int .u64 0, .int .i64 0, .int .i64 0] 41))
  have B0 := hide (Blk.new w #[.int .i64 0, .int .i64 0, .bool false, .int .u64 0, .int .u64 0, .int .u64 0, .int .u64 0, .int .u64 0, .int .u64 0, .int .u64 0, .int .u64 0, .int .u64 0, .int .i64 0, .int .i64 0] 41)
  have HW := hide (r10Words_any s (w.alloc (.cells #[.int .i64 0, .int .i64 0, .bool false, .int .u64 0, .int .u64 0, .int .u64 0, .int .u64 0, .int .u64 0, .int .u64 0, .int .u64 0, .int .u64 0, .int .u64 0, .int .i64 0, .int .i64 0] 41)) hs)
  go_enter Tryd.func18, Tryd.ntmps18
  go_wp2_with fail
  refine HW.out.mono ?_
  rintro e w1 ⟨v, l, rfl, hl, hown, hg, hc⟩
  obtain ⟨a, cap, rfl, hcell⟩ := own_cell hown
  have hll : l.length = (pieces 32 s.data.toList).length := by rw [← hl]; simp
  have C1 := hide (C0.out.trans' hc)
  have B1 := hide (hc.blk B0.out (fun h => h))
  have HL := hide hl
  have HCELL := hide hcell
  clear hown hcell hl hc C0 B0 HW hg
  by_cases h8 : l.length = 8
  · have h8' : ((l.length : Int) != 8) = false := by simp; omega
    clear hll
    obtain ⟨x0, x1, x2, x3, x4, x5, x6, x7, rfl⟩ : ∃ x0 x1 x2 x3 x4 x5 x6 x7, l = [x0, x1, x2, x3, x4, x5, x6, x7] := by
      match l, h8 with
      | [x0, x1, x2, x3, x4, x5, x6, x7], _ => exact ⟨x0, x1, x2, x3, x4, x5, x6, x7, rfl⟩
    obtain ⟨g, o, rfl, hcell⟩ := HCELL.out (by simp)
    have HC := hide hcell
    clear hcell HCELL h8
    have q0 : w1.cell? ⟨g, o, none⟩ = some (.string x0) := HC.out 0 (by simp)
    have hk : ¬ (x0.data.toList = kindW true ∨ x0.data.toList = kindW false) := fun h => by
      have h0 : (pieces 32 s.data.toList)[0]? = some x0.data.toList := by rw [← HL.out]; rfl
      rcases h with h | h
      · exact HYP.out true ⟨by rw [← HL.out]; simp, by rw [h0, h]⟩
      · exact HYP.out false ⟨by rw [← HL.out]; simp, by rw [h0, h]⟩
    have e1 : (x0.toList == [108, 101, 97, 102]) = false := by rw [ByteArray.toList_eq]; simpa [kindW] using fun h => hk (.inl h)
    have e2 : (x0.toList == [105, 110, 110, 101, 114]) = false := by rw [ByteArray.toList_eq]; simpa [kindW] using fun h => hk (.inr h)
    have HN := hide (NoSp.kind HL.out.symm _ rfl (fun b e => hk (by cases b; exact .inr e; exact .inl e)))
    clear hk
    obtain ⟨b0, b1, b2, b3, b4, b5, b6, b7, b8, b9, b10, b11, b12, b13⟩ := spc_cells0 (Chg.blk (Chg.refl NoChg w1) B1.out (fun h => h))
    have f0 := fun i => Blk.frozen (Chg.blk (Chg.refl NoChg w1) B1.out (fun h => h)) i
    have f00 := f0 0
    have f01 := f0 1
    have f02 := f0 2
    have f03 := f0 3
    have f04 := f0 4
    have f05 := f0 5
    have f06 := f0 6
    have f07 := f0 7
    have f08 := f0 8
    have f09 := f0 9
    have f010 := f0 10
    have f011 := f0 11
    have f012 := f0 12
    have f013 := f0 13
    have zz : w.heap.size < w1.heap.size := (Chg.blk (Chg.refl NoChg w1) B1.out (fun h => h)).lt
    clear f0
    go_wp2
    refine bodyPost_ret (v := .tuple #[.agg #[.int .i64 0, .int .i64 0, .bool false, .int .u64 0, .int .u64 0, .int .u64 0, .int .u64 0, .int .u64 0, .int .u64 0, .int .u64 0, .int .u64 0, .int .u64 0, .int .i64 0, .int .i64 0], .int .i64 2]) (by simp [results, Tryd.results18, go_sem, b0, b1, b2, b3, b4, b5, b6, b7, b8, b9, b10, b11, b12, b13]) rfl ⟨.inr ⟨HN.out, rfl⟩, ?_⟩
    have C2 := C1.out.trans' (Chg.refl NoChg w1)
    (repeat' (first | (with_reducible exact Chg.refl _ _) | (with_reducible assumption) | (with_reducible refine Chg.alloc ?_ _) | (with_reducible refine Chg.drewN ?_ _) | (with_reducible refine Chg.drew ?_) | (with_reducible refine Chg.setCell ?_ _ ?_) | (apply Or.inl; with_reducible rfl) | (apply Or.inl; simp; done) | (apply Or.inr; simp; done) | (apply Or.inr; simp; omega)))
  · have h8' : ((l.length : Int) != 8) = true := by simp; omega
    have HN := hide (NoSp.words (l := s.data.toList) (by omega))
    clear hll h8
    obtain ⟨b0, b1, b2, b3, b4, b5, b6, b7, b8, b9, b10, b11, b12, b13⟩ := spc_cells0 (Chg.blk (Chg.refl NoChg w1) B1.out (fun h => h))
    have f0 := fun i => Blk.frozen (Chg.blk (Chg.refl NoChg w1) B1.out (fun h => h)) i
    have f00 := f0 0
    have f01 := f0 1
    have f02 := f0 2
    have f03 := f0 3
    have f04 := f0 4
    have f05 := f0 5
    have f06 := f0 6
    have f07 := f0 7
    have f08 := f0 8
    have f09 := f0 9
    have f010 := f0 10
    have f011 := f0 11
    have f012 := f0 12
    have f013 := f0 13
    have zz : w.heap.size < w1.heap.size := (Chg.blk (Chg.refl NoChg w1) B1.out (fun h => h)).lt
    clear f0
    go_wp2
    refine bodyPost_ret (v := .tuple #[.agg #[.int .i64 0, .int .i64 0, .bool false, .int .u64 0, .int .u64 0, .int .u64 0, .int .u64 0, .int .u64 0, .int .u64 0, .int .u64 0, .int .u64 0, .int .u64 0, .int .i64 0, .int .i64 0], .int .i64 2]) (by simp [results, Tryd.results18, go_sem, b0, b1, b2, b3, b4, b5, b6, b7, b8, b9, b10, b11, b12, b13]) rfl ⟨.inr ⟨HN.out, rfl⟩, ?_⟩
    have C2 := C1.out.trans' (Chg.refl NoChg w1)
    (repeat' (first | (with_reducible exact Chg.refl _ _) | (with_reducible assumption) | (with_reducible refine Chg.alloc ?_ _) | (with_reducible refine Chg.drewN ?_ _) | (with_reducible refine Chg.drew ?_) | (with_reducible refine Chg.setCell ?_ _ ?_) | (apply Or.inl; with_reducible rfl) | (apply Or.inl; simp; done) | (apply Or.inr; simp; done) | (apply Or.inr; simp; omega)))

set_option maxRecDepth 100000 in
set_option maxHeartbeats 16000000 in
theorem r13Parse_true (s : ByteArray) (w : World) (hs : s.size ≤ 1000) (hyp : (pieces 32 s.data.toList).length = 8 ∧ (pieces 32 s.data.toList)[0]? = some (kindW true)) : Calls Tryd.prog 18 #[.string s] w fun e w' => SpIs s.data.toList e ∧ Chg NoChg w w' := by
  have HYP := hide hyp
  clear hyp
  have C0 := hide ((Chg.refl NoChg w).alloc (.cells #[.int .i64 0, .int .i64 0, .bool false, .int .u64 0, .int .u64 0, .int .u64 0, .int .u64 0, .int .u64 0, .int .u64 0, .int .u64 0, .int .u64 0, .int .u64 0, .int .i64 0, .int .i64 0] 41))
  have B0 := hide (Blk.new w #[.int .i64 0, .int .i64 0, .bool false, .int .u64 0, .int .u64 0, .int .u64 0, .int .u64 0, .int .u64 0, .int .u64 0, .int .u64 0, .int .u64 0, .int .u64 0, .int .i64 0, .int .i64 0] 41)
  have HW := hide (r10Words_any s (w.alloc (.cells #[.int .i64 0, .int .i64 0, .bool false, .int .u64 0, .int .u64 0, .int .u64 0, .int .u64 0, .int .u64 0, .int .u64 0, .int .u64 0, .int .u64 0, .int .u64 0, .int .i64 0, .int .i64 0] 41)) hs)
  go_enter Tryd.func18, Tryd.ntmps18
  go_wp2_with fail
  refine HW.out.mono ?_
  rintro e w1 ⟨v, l, rfl, hl, hown, hg, hc⟩
  obtain ⟨a, cap, rfl, hcell⟩ := own_cell hown
  have hll : l.length = (pieces 32 s.data.toList).length := by rw [← hl]; simp
  have C1 := hide (C0.out.trans' hc)
  have B1 := hide (hc.blk B0.out (fun h => h))
  have HL := hide hl
  have HCELL := hide hcell
  clear hown hcell hl hc C0 B0 HW hg
  have h8 : l.length = 8 := by rw [hll]; exact HYP.out.1
  have h8' : ((l.length : Int) != 8) = false := by simp; omega
  clear hll
  obtain ⟨x0, x1, x2, x3, x4, x5, x6, x7, rfl⟩ : ∃ x0 x1 x2 x3 x4 x5 x6 x7, l = [x0, x1, x2, x3, x4, x5, x6, x7] := by
    match l, h8 with
    | [x0, x1, x2, x3, x4, x5, x6, x7], _ => exact ⟨x0, x1, x2, x3, x4, x5, x6, x7, rfl⟩
  obtain ⟨g, o, rfl, hcell⟩ := HCELL.out (by simp)
  have HC := hide hcell
  clear hcell HCELL h8
  have q0 : w1.cell? ⟨g, o, none⟩ = some (.string x0) := HC.out 0 (by simp)

  have hk : x0.data.toList = kindW true := by
    have h0 : (pieces 32 s.data.toList)[0]? = some x0.data.toList := by rw [← HL.out]; rfl
    rw [HYP.out.2] at h0
    exact (Option.some.inj h0).symm
  have e1 : (x0.toList == [108, 101, 97, 102]) = true := by rw [ByteArray.toList_eq, hk]; rfl
  have HK := hide hk
  have BA := hide (Blk.new w1 #[.int .i64 1, .int .i64 2, .int .i64 6, .int .i64 7] 3)
  have CA0 := hide ((Chg.refl NoChg w1).alloc (.cells #[.int .i64 1, .int .i64 2, .int .i64 6, .int .i64 7] 3))
  have T0 : Hid (IS (w1.alloc (.cells #[.int .i64 1, .int .i64 2, .int .i64 6, .int .i64 7] 3)) (w1.alloc (.cells #[.int .i64 1, .int .i64 2, .int .i64 6, .int .i64 7] 3)) (.slice none 0 0) []) := hide ⟨Chg.refl _ _, Own.nil _ _ _ _, fun g h => by cases h⟩
  clear hk
  have qq1 : (w1.alloc (.cells #[.int .i64 1, .int .i64 2, .int .i64 6, .int .i64 7] 3)).cell? ⟨g, o + 1, none⟩ = some (.string x1) := chg_same CA0.out (HC.out 1 (by simp))
  go_wp2
  refine wp_loop_rounds 5 ?_
  rw [rounds_succ]
  go_wp2_with fail
  refine (r10Digits_any x1 _ (word_size s x1 (by rw [← HL.out]; simp) hs)).mono ?_
  rintro e wa0 ⟨hd, ca⟩
  have CW0 := hide (CA0.out.trans' (T0.out.chg.trans' ca))
  have CB0 := hide ca
  clear ca q0 qq1
  rcases hd with ⟨u0, hu, hx, rfl⟩ | ⟨hno, m, hm, rfl⟩
  rotate_left
  · have HN := hide (NoSp.num HL.out.symm 1 _ rfl (by omega) (fun u hu => hno u (by omega)))
    clear hm hno
    obtain ⟨b0, b1, b2, b3, b4, b5, b6, b7, b8, b9, b10, b11, b12, b13⟩ := spc_cells0 (Chg.blk CW0.out B1.out (fun h => h))
    have f0 := fun i => Blk.frozen (Chg.blk CW0.out B1.out (fun h => h)) i
    have f00 := f0 0
    have f01 := f0 1
    have f02 := f0 2
    have f03 := f0 3
    have f04 := f0 4
    have f05 := f0 5
    have f06 := f0 6
    have f07 := f0 7
    have f08 := f0 8
    have f09 := f0 9
    have f010 := f0 10
    have f011 := f0 11
    have f012 := f0 12
    have f013 := f0 13
    have zz : w.heap.size < wa0.heap.size := (Chg.blk CW0.out B1.out (fun h => h)).lt
    clear f0
    go_wp2
    refine bodyPost_ret (v := .tuple #[.agg #[.int .i64 0, .int .i64 0, .bool false, .int .u64 0, .int .u64 0, .int .u64 0, .int .u64 0, .int .u64 0, .int .u64 0, .int .u64 0, .int .u64 0, .int .u64 0, .int .i64 0, .int .i64 0], .int .i64 2]) (by simp [results, Tryd.results18, go_sem, b0, b1, b2, b3, b4, b5, b6, b7, b8, b9, b10, b11, b12, b13]) rfl ⟨.inr ⟨HN.out, rfl⟩, ?_⟩
    have C2 := C1.out.trans' CW0.out
    (repeat' (first | (with_reducible exact Chg.refl _ _) | (with_reducible assumption) | (with_reducible refine Chg.alloc ?_ _) | (with_reducible refine Chg.drewN ?_ _) | (with_reducible refine Chg.drew ?_) | (with_reducible refine Chg.setCell ?_ _ ?_) | (apply Or.inl; with_reducible rfl) | (apply Or.inl; simp; done) | (apply Or.inr; simp; done) | (apply Or.inr; simp; omega)))
  have U0 := hide hu
  have X0 := hide hx
  clear hu hx
  by_cases hbig : ¬ u0 < 9223372036854775808
  · have hb1 : (9223372036854775807 : Int) < (u0 : Int) := by omega
    have HN := hide (NoSp.num HL.out.symm 1 _ rfl (by omega) (fun u hu e => hbig (by rw [dec_inj (X0.out.symm.trans e)]; exact hu)))
    clear hbig
    obtain ⟨b0, b1, b2, b3, b4, b5, b6, b7, b8, b9, b10, b11, b12, b13⟩ := spc_cells0 (Chg.blk CW0.out B1.out (fun h => h))
    have f0 := fun i => Blk.frozen (Chg.blk CW0.out B1.out (fun h => h)) i
    have f00 := f0 0
    have f01 := f0 1
    have f02 := f0 2
    have f03 := f0 3
    have f04 := f0 4
    have f05 := f0 5
    have f06 := f0 6
    have f07 := f0 7
    have f08 := f0 8
    have f09 := f0 9
    have f010 := f0 10
    have f011 := f0 11
    have f012 := f0 12
    have f013 := f0 13
    have zz : w.heap.size < wa0.heap.size := (Chg.blk CW0.out B1.out (fun h => h)).lt
    clear f0
    go_wp2
    refine bodyPost_ret (v := .tuple #[.agg #[.int .i64 0, .int .i64 0, .bool false, .int .u64 0, .int .u64 0, .int .u64 0, .int .u64 0, .int .u64 0, .int .u64 0, .int .u64 0, .int .u64 0, .int .u64 0, .int .i64 0, .int .i64 0], .int .i64 2]) (by simp [results, Tryd.results18, go_sem, b0, b1, b2, b3, b4, b5, b6, b7, b8, b9, b10, b11, b12, b13]) rfl ⟨.inr ⟨HN.out, rfl⟩, ?_⟩
    have C2 := C1.out.trans' CW0.out
    (repeat' (first | (with_reducible exact Chg.refl _ _) | (with_reducible assumption) | (with_reducible refine Chg.alloc ?_ _) | (with_reducible refine Chg.drewN ?_ _) | (with_reducible refine Chg.drew ?_) | (with_reducible refine Chg.setCell ?_ _ ?_) | (apply Or.inl; with_reducible rfl) | (apply Or.inl; simp; done) | (apply Or.inr; simp; done) | (apply Or.inr; simp; omega)))
  have hb1 : ¬ (9223372036854775807 : Int) < (u0 : Int) := by omega
  have S0 := hide (Nat.not_le.1 (fun h => hbig (by omega)) : u0 < 9223372036854775808)
  have hw1 : IntKind.i64.wrap (u0 : Int) = (u0 : Int) := IntWalk.i64_in _ (by omega)
  clear hbig
  go_wp2_with (at_builtin; refine wpList_append_rec intR rfl (.tmp 57) (.tmp 60) rfl _ ([] : List Int) rfl ((T0.out.own.keep CB0.out (fun _ _ h => h)).keep ((Chg.refl NoChg wa0).alloc _) (fun _ _ h => h)) _ _ [(u0 : Int)] rfl ?ta01 ?ta02 ?ta03 ?ta04 ?ta05)
  try (case ta01 => intro h; cases h)
  case ta02 => exact Blk.rowI wa0 _ 3
  case ta03 => simp [maxLen]
  case ta04 => simp
  intro v1 wk1 hown hcc hv
  have T1 := hide (T0.out.step CB0.out hown hcc hv)
  clear hown hcc hv
  simp only [List.nil_append] at T1
  clear CW0 CB0 T0 hb1 hw1
  have qq2 : wk1.cell? ⟨g, o + 2, none⟩ = some (.string x2) := chg_same (CA0.out.trans' T1.out.chg) (HC.out 2 (by simp))
  have at1 := (T1.out.chg.blk BA.out (fun h => h)).cell 1
  have za1 := (T1.out.chg.blk BA.out (fun h => h)).lt
  simp at at1
  go_wp2
  rw [rounds_succ]
  go_wp2_with fail
  refine (r10Digits_any x2 _ (word_size s x2 (by rw [← HL.out]; simp) hs)).mono ?_
  rintro e wa1 ⟨hd, ca⟩
  have CW1 := hide (CA0.out.trans' (T1.out.chg.trans' ca))
  have CB1 := hide ca
  clear ca qq2 at1 za1
  rcases hd with ⟨u1, hu, hx, rfl⟩ | ⟨hno, m, hm, rfl⟩
  rotate_left
  · have HN := hide (NoSp.num HL.out.symm 2 _ rfl (by omega) (fun u hu => hno u (by omega)))
    clear hm hno
    obtain ⟨b0, b1, b2, b3, b4, b5, b6, b7, b8, b9, b10, b11, b12, b13⟩ := spc_cells0 (Chg.blk CW1.out B1.out (fun h => h))
    have f0 := fun i => Blk.frozen (Chg.blk CW1.out B1.out (fun h => h)) i
    have f00 := f0 0
    have f01 := f0 1
    have f02 := f0 2
    have f03 := f0 3
    have f04 := f0 4
    have f05 := f0 5
    have f06 := f0 6
    have f07 := f0 7
    have f08 := f0 8
    have f09 := f0 9
    have f010 := f0 10
    have f011 := f0 11
    have f012 := f0 12
    have f013 := f0 13
    have zz : w.heap.size < wa1.heap.size := (Chg.blk CW1.out B1.out (fun h => h)).lt
    clear f0
    go_wp2
    refine bodyPost_ret (v := .tuple #[.agg #[.int .i64 0, .int .i64 0, .bool false, .int .u64 0, .int .u64 0, .int .u64 0, .int .u64 0, .int .u64 0, .int .u64 0, .int .u64 0, .int .u64 0, .int .u64 0, .int .i64 0, .int .i64 0], .int .i64 2]) (by simp [results, Tryd.results18, go_sem, b0, b1, b2, b3, b4, b5, b6, b7, b8, b9, b10, b11, b12, b13]) rfl ⟨.inr ⟨HN.out, rfl⟩, ?_⟩
    have C2 := C1.out.trans' CW1.out
    (repeat' (first | (with_reducible exact Chg.refl _ _) | (with_reducible assumption) | (with_reducible refine Chg.alloc ?_ _) | (with_reducible refine Chg.drewN ?_ _) | (with_reducible refine Chg.drew ?_) | (with_reducible refine Chg.setCell ?_ _ ?_) | (apply Or.inl; with_reducible rfl) | (apply Or.inl; simp; done) | (apply Or.inr; simp; done) | (apply Or.inr; simp; omega)))
  have U1 := hide hu
  have X1 := hide hx
  clear hu hx
  by_cases hbig : ¬ u1 < 9223372036854775808
  · have hb1 : (9223372036854775807 : Int) < (u1 : Int) := by omega
    have HN := hide (NoSp.num HL.out.symm 2 _ rfl (by omega) (fun u hu e => hbig (by rw [dec_inj (X1.out.symm.trans e)]; exact hu)))
    clear hbig
    obtain ⟨b0, b1, b2, b3, b4, b5, b6, b7, b8, b9, b10, b11, b12, b13⟩ := spc_cells0 (Chg.blk CW1.out B1.out (fun h => h))
    have f0 := fun i => Blk.frozen (Chg.blk CW1.out B1.out (fun h => h)) i
    have f00 := f0 0
    have f01 := f0 1
    have f02 := f0 2
    have f03 := f0 3
    have f04 := f0 4
    have f05 := f0 5
    have f06 := f0 6
    have f07 := f0 7
    have f08 := f0 8
    have f09 := f0 9
    have f010 := f0 10
    have f011 := f0 11
    have f012 := f0 12
    have f013 := f0 13
    have zz : w.heap.size < wa1.heap.size := (Chg.blk CW1.out B1.out (fun h => h)).lt
    clear f0
    go_wp2
    refine bodyPost_ret (v := .tuple #[.agg #[.int .i64 0, .int .i64 0, .bool false, .int .u64 0, .int .u64 0, .int .u64 0, .int .u64 0, .int .u64 0, .int .u64 0, .int .u64 0, .int .u64 0, .int .u64 0, .int .i64 0, .int .i64 0], .int .i64 2]) (by simp [results, Tryd.results18, go_sem, b0, b1, b2, b3, b4, b5, b6, b7, b8, b9, b10, b11, b12, b13]) rfl ⟨.inr ⟨HN.out, rfl⟩, ?_⟩
    have C2 := C1.out.trans' CW1.out
    (repeat' (first | (with_reducible exact Chg.refl _ _) | (with_reducible assumption) | (with_reducible refine Chg.alloc ?_ _) | (with_reducible refine Chg.drewN ?_ _) | (with_reducible refine Chg.drew ?_) | (with_reducible refine Chg.setCell ?_ _ ?_) | (apply Or.inl; with_reducible rfl) | (apply Or.inl; simp; done) | (apply Or.inr; simp; done) | (apply Or.inr; simp; omega)))
  have hb1 : ¬ (9223372036854775807 : Int) < (u1 : Int) := by omega
  have S1 := hide (Nat.not_le.1 (fun h => hbig (by omega)) : u1 < 9223372036854775808)
  have hw1 : IntKind.i64.wrap (u1 : Int) = (u1 : Int) := IntWalk.i64_in _ (by omega)
  clear hbig
  go_wp2_with (at_builtin; refine wpList_append_rec intR rfl (.tmp 57) (.tmp 60) rfl _ ([(u0 : Int)] : List Int) rfl ((T1.out.own.keep CB1.out (fun _ _ h => h)).keep ((Chg.refl NoChg wa1).alloc _) (fun _ _ h => h)) _ _ [(u1 : Int)] rfl ?ta11 ?ta12 ?ta13 ?ta14 ?ta15)
  try (case ta11 => intro h; cases h)
  case ta12 => exact Blk.rowI wa1 _ 3
  case ta13 => simp [maxLen]
  case ta14 => simp
  intro v2 wk2 hown hcc hv
  have T2 := hide (T1.out.step CB1.out hown hcc hv)
  clear hown hcc hv
  simp only [List.nil_append, List.cons_append] at T2
  clear CW1 CB1 T1 hb1 hw1
  have qq6 : wk2.cell? ⟨g, o + 6, none⟩ = some (.string x6) := chg_same (CA0.out.trans' T2.out.chg) (HC.out 6 (by simp))
  have at2 := (T2.out.chg.blk BA.out (fun h => h)).cell 2
  have za2 := (T2.out.chg.blk BA.out (fun h => h)).lt
  simp at at2
  go_wp2
  rw [rounds_succ]
  go_wp2_with fail
  refine (r10Digits_any x6 _ (word_size s x6 (by rw [← HL.out]; simp) hs)).mono ?_
  rintro e wa2 ⟨hd, ca⟩
  have CW2 := hide (CA0.out.trans' (T2.out.chg.trans' ca))
  have CB2 := hide ca
  clear ca qq6 at2 za2
  rcases hd with ⟨u2, hu, hx, rfl⟩ | ⟨hno, m, hm, rfl⟩
  rotate_left
  · have HN := hide (NoSp.num HL.out.symm 6 _ rfl (by omega) (fun u hu => hno u (by omega)))
    clear hm hno
    obtain ⟨b0, b1, b2, b3, b4, b5, b6, b7, b8, b9, b10, b11, b12, b13⟩ := spc_cells0 (Chg.blk CW2.out B1.out (fun h => h))
    have f0 := fun i => Blk.frozen (Chg.blk CW2.out B1.out (fun h => h)) i
    have f00 := f0 0
    have f01 := f0 1
    have f02 := f0 2
    have f03 := f0 3
    have f04 := f0 4
    have f05 := f0 5
    have f06 := f0 6
    have f07 := f0 7
    have f08 := f0 8
    have f09 := f0 9
    have f010 := f0 10
    have f011 := f0 11
    have f012 := f0 12
    have f013 := f0 13
    have zz : w.heap.size < wa2.heap.size := (Chg.blk CW2.out B1.out (fun h => h)).lt
    clear f0
    go_wp2
    refine bodyPost_ret (v := .tuple #[.agg #[.int .i64 0, .int .i64 0, .bool false, .int .u64 0, .int .u64 0, .int .u64 0, .int .u64 0, .int .u64 0, .int .u64 0, .int .u64 0, .int .u64 0, .int .u64 0, .int .i64 0, .int .i64 0], .int .i64 2]) (by simp [results, Tryd.results18, go_sem, b0, b1, b2, b3, b4, b5, b6, b7, b8, b9, b10, b11, b12, b13]) rfl ⟨.inr ⟨HN.out, rfl⟩, ?_⟩
    have C2 := C1.out.trans' CW2.out
    (repeat' (first | (with_reducible exact Chg.refl _ _) | (with_reducible assumption) | (with_reducible refine Chg.alloc ?_ _) | (with_reducible refine Chg.drewN ?_ _) | (with_reducible refine Chg.drew ?_) | (with_reducible refine Chg.setCell ?_ _ ?_) | (apply Or.inl; with_reducible rfl) | (apply Or.inl; simp; done) | (apply Or.inr; simp; done) | (apply Or.inr; simp; omega)))
  have U2 := hide hu
  have X2 := hide hx
  clear hu hx
  by_cases hbig : ¬ u2 < 9223372036854775808
  · have hb1 : (9223372036854775807 : Int) < (u2 : Int) := by omega
    have HN := hide (NoSp.num HL.out.symm 6 _ rfl (by omega) (fun u hu e => hbig (by rw [dec_inj (X2.out.symm.trans e)]; exact hu)))
    clear hbig
    obtain ⟨b0, b1, b2, b3, b4, b5, b6, b7, b8, b9, b10, b11, b12, b13⟩ := spc_cells0 (Chg.blk CW2.out B1.out (fun h => h))
    have f0 := fun i => Blk.frozen (Chg.blk CW2.out B1.out (fun h => h)) i
    have f00 := f0 0
    have f01 := f0 1
    have f02 := f0 2
    have f03 := f0 3
    have f04 := f0 4
    have f05 := f0 5
    have f06 := f0 6
    have f07 := f0 7
    have f08 := f0 8
    have f09 := f0 9
    have f010 := f0 10
    have f011 := f0 11
    have f012 := f0 12
    have f013 := f0 13
    have zz : w.heap.size < wa2.heap.size := (Chg.blk CW2.out B1.out (fun h => h)).lt
    clear f0
    go_wp2
    refine bodyPost_ret (v := .tuple #[.agg #[.int .i64 0, .int .i64 0, .bool false, .int .u64 0, .int .u64 0, .int .u64 0, .int .u64 0, .int .u64 0, .int .u64 0, .int .u64 0, .int .u64 0, .int .u64 0, .int .i64 0, .int .i64 0], .int .i64 2]) (by simp [results, Tryd.results18, go_sem, b0, b1, b2, b3, b4, b5, b6, b7, b8, b9, b10, b11, b12, b13]) rfl ⟨.inr ⟨HN.out, rfl⟩, ?_⟩
    have C2 := C1.out.trans' CW2.out
    (repeat' (first | (with_reducible exact Chg.refl _ _) | (with_reducible assumption) | (with_reducible refine Chg.alloc ?_ _) | (with_reducible refine Chg.drewN ?_ _) | (with_reducible refine Chg.drew ?_) | (with_reducible refine Chg.setCell ?_ _ ?_) | (apply Or.inl; with_reducible rfl) | (apply Or.inl; simp; done) | (apply Or.inr; simp; done) | (apply Or.inr; simp; omega)))
  have hb1 : ¬ (9223372036854775807 : Int) < (u2 : Int) := by omega
  have S2 := hide (Nat.not_le.1 (fun h => hbig (by omega)) : u2 < 9223372036854775808)
  have hw1 : IntKind.i64.wrap (u2 : Int) = (u2 : Int) := IntWalk.i64_in _ (by omega)
  clear hbig
  go_wp2_with (at_builtin; refine wpList_append_rec intR rfl (.tmp 57) (.tmp 60) rfl _ ([(u0 : Int), (u1 : Int)] : List Int) rfl ((T2.out.own.keep CB2.out (fun _ _ h => h)).keep ((Chg.refl NoChg wa2).alloc _) (fun _ _ h => h)) _ _ [(u2 : Int)] rfl ?ta21 ?ta22 ?ta23 ?ta24 ?ta25)
  try (case ta21 => intro h; cases h)
  case ta22 => exact Blk.rowI wa2 _ 3
  case ta23 => simp [maxLen]
  case ta24 => simp
  intro v3 wk3 hown hcc hv
  have T3 := hide (T2.out.step CB2.out hown hcc hv)
  clear hown hcc hv
  simp only [List.nil_append, List.cons_append] at T3
  clear CW2 CB2 T2 hb1 hw1
  have qq7 : wk3.cell? ⟨g, o + 7, none⟩ = some (.string x7) := chg_same (CA0.out.trans' T3.out.chg) (HC.out 7 (by simp))
  have at3 := (T3.out.chg.blk BA.out (fun h => h)).cell 3
  have za3 := (T3.out.chg.blk BA.out (fun h => h)).lt
  simp at at3
  go_wp2
  rw [rounds_succ]
  go_wp2_with fail
  refine (r10Digits_any x7 _ (word_size s x7 (by rw [← HL.out]; simp) hs)).mono ?_
  rintro e wa3 ⟨hd, ca⟩
  have CW3 := hide (CA0.out.trans' (T3.out.chg.trans' ca))
  have CB3 := hide ca
  clear ca qq7 at3 za3
  rcases hd with ⟨u3, hu, hx, rfl⟩ | ⟨hno, m, hm, rfl⟩
  rotate_left
  · have HN := hide (NoSp.num HL.out.symm 7 _ rfl (by omega) (fun u hu => hno u (by omega)))
    clear hm hno
    obtain ⟨b0, b1, b2, b3, b4, b5, b6, b7, b8, b9, b10, b11, b12, b13⟩ := spc_cells0 (Chg.blk CW3.out B1.out (fun h => h))
    have f0 := fun i => Blk.frozen (Chg.blk CW3.out B1.out (fun h => h)) i
    have f00 := f0 0
    have f01 := f0 1
    have f02 := f0 2
    have f03 := f0 3
    have f04 := f0 4
    have f05 := f0 5
    have f06 := f0 6
    have f07 := f0 7
    have f08 := f0 8
    have f09 := f0 9
    have f010 := f0 10
    have f011 := f0 11
    have f012 := f0 12
    have f013 := f0 13
    have zz : w.heap.size < wa3.heap.size := (Chg.blk CW3.out B1.out (fun h => h)).lt
    clear f0
    go_wp2
    refine bodyPost_ret (v := .tuple #[.agg #[.int .i64 0, .int .i64 0, .bool false, .int .u64 0, .int .u64 0, .int .u64 0, .int .u64 0, .int .u64 0, .int .u64 0, .int .u64 0, .int .u64 0, .int .u64 0, .int .i64 0, .int .i64 0], .int .i64 2]) (by simp [results, Tryd.results18, go_sem, b0, b1, b2, b3, b4, b5, b6, b7, b8, b9, b10, b11, b12, b13]) rfl ⟨.inr ⟨HN.out, rfl⟩, ?_⟩
    have C2 := C1.out.trans' CW3.out
    (repeat' (first | (with_reducible exact Chg.refl _ _) | (with_reducible assumption) | (with_reducible refine Chg.alloc ?_ _) | (with_reducible refine Chg.drewN ?_ _) | (with_reducible refine Chg.drew ?_) | (with_reducible refine Chg.setCell ?_ _ ?_) | (apply Or.inl; with_reducible rfl) | (apply Or.inl; simp; done) | (apply Or.inr; simp; done) | (apply Or.inr; simp; omega)))
  have U3 := hide hu
  have X3 := hide hx
  clear hu hx
  by_cases hbig : ¬ u3 < 9223372036854775808
  · have hb1 : (9223372036854775807 : Int) < (u3 : Int) := by omega
    have HN := hide (NoSp.num HL.out.symm 7 _ rfl (by omega) (fun u hu e => hbig (by rw [dec_inj (X3.out.symm.trans e)]; exact hu)))
    clear hbig
    obtain ⟨b0, b1, b2, b3, b4, b5, b6, b7, b8, b9, b10, b11, b12, b13⟩ := spc_cells0 (Chg.blk CW3.out B1.out (fun h => h))
    have f0 := fun i => Blk.frozen (Chg.blk CW3.out B1.out (fun h => h)) i
    have f00 := f0 0
    have f01 := f0 1
    have f02 := f0 2
    have f03 := f0 3
    have f04 := f0 4
    have f05 := f0 5
    have f06 := f0 6
    have f07 := f0 7
    have f08 := f0 8
    have f09 := f0 9
    have f010 := f0 10
    have f011 := f0 11
    have f012 := f0 12
    have f013 := f0 13
    have zz : w.heap.size < wa3.heap.size := (Chg.blk CW3.out B1.out (fun h => h)).lt
    clear f0
    go_wp2
    refine bodyPost_ret (v := .tuple #[.agg #[.int .i64 0, .int .i64 0, .bool false, .int .u64 0, .int .u64 0, .int .u64 0, .int .u64 0, .int .u64 0, .int .u64 0, .int .u64 0, .int .u64 0, .int .u64 0, .int .i64 0, .int .i64 0], .int .i64 2]) (by simp [results, Tryd.results18, go_sem, b0, b1, b2, b3, b4, b5, b6, b7, b8, b9, b10, b11, b12, b13]) rfl ⟨.inr ⟨HN.out, rfl⟩, ?_⟩
    have C2 := C1.out.trans' CW3.out
    (repeat' (first | (with_reducible exact Chg.refl _ _) | (with_reducible assumption) | (with_reducible refine Chg.alloc ?_ _) | (with_reducible refine Chg.drewN ?_ _) | (with_reducible refine Chg.drew ?_) | (with_reducible refine Chg.setCell ?_ _ ?_) | (apply Or.inl; with_reducible rfl) | (apply Or.inl; simp; done) | (apply Or.inr; simp; done) | (apply Or.inr; simp; omega)))
  have hb1 : ¬ (9223372036854775807 : Int) < (u3 : Int) := by omega
  have S3 := hide (Nat.not_le.1 (fun h => hbig (by omega)) : u3 < 9223372036854775808)
  have hw1 : IntKind.i64.wrap (u3 : Int) = (u3 : Int) := IntWalk.i64_in _ (by omega)
  clear hbig
  go_wp2_with (at_builtin; refine wpList_append_rec intR rfl (.tmp 57) (.tmp 60) rfl _ ([(u0 : Int), (u1 : Int), (u2 : Int)] : List Int) rfl ((T3.out.own.keep CB3.out (fun _ _ h => h)).keep ((Chg.refl NoChg wa3).alloc _) (fun _ _ h => h)) _ _ [(u3 : Int)] rfl ?ta31 ?ta32 ?ta33 ?ta34 ?ta35)
  try (case ta31 => intro h; cases h)
  case ta32 => exact Blk.rowI wa3 _ 3
  case ta33 => simp [maxLen]
  case ta34 => simp
  intro v4 wk4 hown hcc hv
  have T4 := hide (T3.out.step CB3.out hown hcc hv)
  clear hown hcc hv
  simp only [List.nil_append, List.cons_append] at T4
  clear CW3 CB3 T3 hb1 hw1
  go_wp2
  rw [rounds_succ]
  have qq3 : wk4.cell? ⟨g, o + 3, none⟩ = some (.string x3) := chg_same (CA0.out.trans' T4.out.chg) (HC.out 3 (by simp))
  have CK4 := hide (CA0.out.trans' T4.out.chg)
  obtain ⟨c3, E3, hE3, hk3⟩ := crv_known x3.data.toList
  have HE3 := hide hE3
  have HK3 := hide hk3
  clear hE3 hk3
  obtain ⟨c4, E4, hE4, hk4⟩ := crv_known x4.data.toList
  have HE4 := hide hE4
  have HK4 := hide hk4
  clear hE4 hk4
  obtain ⟨c5, E5, hE5, hk5⟩ := crv_known x5.data.toList
  have HE5 := hide hE5
  have HK5 := hide hk5
  clear hE5 hk5
  go_wp2_with fail
  refine (r13Curve_any x3 _ (word_size2 s x3 (by rw [← HL.out]; simp) hs)).mono ?_
  rintro e y3 ⟨he, d3⟩
  obtain rfl := HE3.out e he
  have CK5 := hide ((CK4.out.trans' d3).alloc (.cells #[.int .u64 (c3.f : Int), .int .u64 (c3.l : Int), .int .u64 (c3.r : Int)] 39))
  have CT5 := hide (d3.alloc (.cells #[.int .u64 (c3.f : Int), .int .u64 (c3.l : Int), .int .u64 (c3.r : Int)] 39))
  have P3 := hide (Blk.new y3 #[.int .u64 (c3.f : Int), .int .u64 (c3.l : Int), .int .u64 (c3.r : Int)] 39)
  clear d3 he qq3
  have qq4 : (y3.alloc (.cells #[.int .u64 (c3.f : Int), .int .u64 (c3.l : Int), .int .u64 (c3.r : Int)] 39)).cell? ⟨g, o + 4, none⟩ = some (.string x4) := chg_same CK5.out (HC.out 4 (by simp))
  go_wp2_with fail
  refine (r13Curve_any x4 _ (word_size2 s x4 (by rw [← HL.out]; simp) hs)).mono ?_
  rintro e y4 ⟨he, d4⟩
  obtain rfl := HE4.out e he
  have CK6 := hide ((CK5.out.trans' d4).alloc (.cells #[.int .u64 (c4.f : Int), .int .u64 (c4.l : Int), .int .u64 (c4.r : Int)] 39))
  have CT6 := hide ((CT5.out.trans' d4).alloc (.cells #[.int .u64 (c4.f : Int), .int .u64 (c4.l : Int), .int .u64 (c4.r : Int)] 39))
  have P3b := hide ((d4.blk P3.out (fun h => h)).alloc (.cells #[.int .u64 (c4.f : Int), .int .u64 (c4.l : Int), .int .u64 (c4.r : Int)] 39))
  have P4 := hide (Blk.new y4 #[.int .u64 (c4.f : Int), .int .u64 (c4.l : Int), .int .u64 (c4.r : Int)] 39)
  clear d4 he qq4
  have qq5 : (y4.alloc (.cells #[.int .u64 (c4.f : Int), .int .u64 (c4.l : Int), .int .u64 (c4.r : Int)] 39)).cell? ⟨g, o + 5, none⟩ = some (.string x5) := chg_same CK6.out (HC.out 5 (by simp))
  go_wp2_with fail
  refine (r13Curve_any x5 _ (word_size2 s x5 (by rw [← HL.out]; simp) hs)).mono ?_
  rintro e y5 ⟨he, d5⟩
  obtain rfl := HE5.out e he
  have CK7 := hide ((CK6.out.trans' d5).alloc (.cells #[.int .u64 (c5.f : Int), .int .u64 (c5.l : Int), .int .u64 (c5.r : Int)] 39))
  have CT7 := hide ((CT6.out.trans' d5).alloc (.cells #[.int .u64 (c5.f : Int), .int .u64 (c5.l : Int), .int .u64 (c5.r : Int)] 39))
  have P3c := hide ((d5.blk P3b.out (fun h => h)).alloc (.cells #[.int .u64 (c5.f : Int), .int .u64 (c5.l : Int), .int .u64 (c5.r : Int)] 39))
  have P4c := hide ((d5.blk P4.out (fun h => h)).alloc (.cells #[.int .u64 (c5.f : Int), .int .u64 (c5.l : Int), .int .u64 (c5.r : Int)] 39))
  have P5c := hide (Blk.new y5 #[.int .u64 (c5.f : Int), .int .u64 (c5.l : Int), .int .u64 (c5.r : Int)] 39)
  clear d5 he qq5
  obtain ⟨a4, cap4, hv4, hcell4⟩ := own_cellI (T4.out.own.keep CT7.out (fun _ _ h => h))
  simp only [List.length_cons, List.length_nil, Nat.zero_add, Nat.reduceAdd] at hv4
  subst hv4
  obtain ⟨g4, o4, rfl, hc4⟩ := hcell4 (by simp)
  have HC4 := hide hc4
  clear hcell4 hc4
  rcases HK3.out with ⟨rfl, h3⟩ | ⟨rfl, h3⟩
  · have H3 := hide h3
    clear h3
    rcases HK4.out with ⟨rfl, h4⟩ | ⟨rfl, h4⟩
    · have H4 := hide h4
      clear h4
      rcases HK5.out with ⟨rfl, h5⟩ | ⟨rfl, h5⟩
      · have H5 := hide h5
        clear h5
        have HP := hide (IsSp.mk (l := s.data.toList) (s := ⟨(u0 : Int), (u1 : Int), true, c3, c4, c5, (u2 : Int), (u3 : Int)⟩) (by rw [← HL.out]; simp [sWords, HK.out, X0.out, X1.out, X2.out, X3.out, H3.out.1, H4.out.1, H5.out.1]) ⟨by dsimp only; omega, by dsimp only; omega, by dsimp only; omega, by dsimp only; omega⟩ ⟨by have := S0.out; dsimp only; omega, by have := S1.out; dsimp only; omega, by have := S2.out; dsimp only; omega, by have := S3.out; dsimp only; omega, H3.out.2, H4.out.2, H5.out.2⟩)
        have BB := hide (fun (W : World) (x : Chg NoChg (y5.alloc (.cells #[.int .u64 (c5.f : Int), .int .u64 (c5.l : Int), .int .u64 (c5.r : Int)] 39)) W) => (
          (⟨(chg_same x (HC4.out 0 (by simp))), (chg_same x (HC4.out 1 (by simp))), (chg_same x (HC4.out 2 (by simp))), (chg_same x (HC4.out 3 (by simp))), (chg_same (CK7.out.trans' x) (HC.out 0 (by simp))), (Crv.cells3 P3c.out x), (Crv.cells3 P4c.out x), (Crv.cells3 P5c.out x)⟩ :
          W.cell? ⟨g4, o4 + 0, none⟩ = some (.int .i64 (u0 : Int)) ∧ W.cell? ⟨g4, o4 + 1, none⟩ = some (.int .i64 (u1 : Int)) ∧ W.cell? ⟨g4, o4 + 2, none⟩ = some (.int .i64 (u2 : Int)) ∧ W.cell? ⟨g4, o4 + 3, none⟩ = some (.int .i64 (u3 : Int)) ∧ W.cell? ⟨g, o + 0, none⟩ = some (.string x0) ∧
          (W.cell? ⟨y3.heap.size, 0, none⟩ = some (.int .u64 (c3.f : Int)) ∧ W.cell? ⟨y3.heap.size, 1, none⟩ = some (.int .u64 (c3.l : Int)) ∧ W.cell? ⟨y3.heap.size, 2, none⟩ = some (.int .u64 (c3.r : Int))) ∧
          (W.cell? ⟨y4.heap.size, 0, none⟩ = some (.int .u64 (c4.f : Int)) ∧ W.cell? ⟨y4.heap.size, 1, none⟩ = some (.int .u64 (c4.l : Int)) ∧ W.cell? ⟨y4.heap.size, 2, none⟩ = some (.int .u64 (c4.r : Int))) ∧
          (W.cell? ⟨y5.heap.size, 0, none⟩ = some (.int .u64 (c5.f : Int)) ∧ W.cell? ⟨y5.heap.size, 1, none⟩ = some (.int .u64 (c5.l : Int)) ∧ W.cell? ⟨y5.heap.size, 2, none⟩ = some (.int .u64 (c5.r : Int))))))
        go_wp2
        have G0 := fun x => (BB.out _ (chg_graft NoChg (y5.alloc (.cells #[.int .u64 (c5.f : Int), .int .u64 (c5.l : Int), .int .u64 (c5.r : Int)] 39)) x)).1
        have G1 := fun x => (BB.out _ (chg_graft NoChg (y5.alloc (.cells #[.int .u64 (c5.f : Int), .int .u64 (c5.l : Int), .int .u64 (c5.r : Int)] 39)) x)).2.1
        have G2 := fun x => (BB.out _ (chg_graft NoChg (y5.alloc (.cells #[.int .u64 (c5.f : Int), .int .u64 (c5.l : Int), .int .u64 (c5.r : Int)] 39)) x)).2.2.1
        have G3 := fun x => (BB.out _ (chg_graft NoChg (y5.alloc (.cells #[.int .u64 (c5.f : Int), .int .u64 (c5.l : Int), .int .u64 (c5.r : Int)] 39)) x)).2.2.2.1
        have G4 := fun x => (BB.out _ (chg_graft NoChg (y5.alloc (.cells #[.int .u64 (c5.f : Int), .int .u64 (c5.l : Int), .int .u64 (c5.r : Int)] 39)) x)).2.2.2.2.1
        have G5 := fun x => (BB.out _ (chg_graft NoChg (y5.alloc (.cells #[.int .u64 (c5.f : Int), .int .u64 (c5.l : Int), .int .u64 (c5.r : Int)] 39)) x)).2.2.2.2.2.1.1
        have G6 := fun x => (BB.out _ (chg_graft NoChg (y5.alloc (.cells #[.int .u64 (c5.f : Int), .int .u64 (c5.l : Int), .int .u64 (c5.r : Int)] 39)) x)).2.2.2.2.2.1.2.1
        have G7 := fun x => (BB.out _ (chg_graft NoChg (y5.alloc (.cells #[.int .u64 (c5.f : Int), .int .u64 (c5.l : Int), .int .u64 (c5.r : Int)] 39)) x)).2.2.2.2.2.1.2.2
        have G8 := fun x => (BB.out _ (chg_graft NoChg (y5.alloc (.cells #[.int .u64 (c5.f : Int), .int .u64 (c5.l : Int), .int .u64 (c5.r : Int)] 39)) x)).2.2.2.2.2.2.1.1
        have G9 := fun x => (BB.out _ (chg_graft NoChg (y5.alloc (.cells #[.int .u64 (c5.f : Int), .int .u64 (c5.l : Int), .int .u64 (c5.r : Int)] 39)) x)).2.2.2.2.2.2.1.2.1
        have G10 := fun x => (BB.out _ (chg_graft NoChg (y5.alloc (.cells #[.int .u64 (c5.f : Int), .int .u64 (c5.l : Int), .int .u64 (c5.r : Int)] 39)) x)).2.2.2.2.2.2.1.2.2
        have G11 := fun x => (BB.out _ (chg_graft NoChg (y5.alloc (.cells #[.int .u64 (c5.f : Int), .int .u64 (c5.l : Int), .int .u64 (c5.r : Int)] 39)) x)).2.2.2.2.2.2.2.1
        have G12 := fun x => (BB.out _ (chg_graft NoChg (y5.alloc (.cells #[.int .u64 (c5.f : Int), .int .u64 (c5.l : Int), .int .u64 (c5.r : Int)] 39)) x)).2.2.2.2.2.2.2.2.1
        have G13 := fun x => (BB.out _ (chg_graft NoChg (y5.alloc (.cells #[.int .u64 (c5.f : Int), .int .u64 (c5.l : Int), .int .u64 (c5.r : Int)] 39)) x)).2.2.2.2.2.2.2.2.2
        simp only [Nat.add_zero] at G0 G4
        refine wp_region_ord [0, 3, 6, 13, 16] [1, 2, 4, 5, 7, 8, 9, 10, 11, 12, 14, 15, 17, 18, 19] [] [20, 21] (graft (NoChg) ((y5.alloc (.cells #[.int .u64 (c5.f : Int), .int .u64 (c5.l : Int), .int .u64 (c5.r : Int)] 39)))) (by kernel_rfl) (by kernel_rfl) ?_ (graft_of_chg (by (repeat' (first | (with_reducible exact Chg.refl _ _) | (with_reducible assumption) | (with_reducible refine Chg.alloc ?_ _) | (with_reducible refine Chg.drewN ?_ _) | (with_reducible refine Chg.drew ?_) | (with_reducible refine Chg.setCell ?_ _ ?_) | (apply Or.inl; with_reducible rfl) | (apply Or.inl; simp; done) | (apply Or.inr; simp; done) | (apply Or.inr; simp; omega))))) ?_
        · exact fun _ _ _ _ _ h => h
        simp only [pick, List.getElem?_toArray, List.getElem?_cons_zero, List.getElem?_cons_succ]
        iterate 5 (refine wpYield_step (fun K hK => ?_); go_simp; refine hK _ ?_; clear hK K)
        refine wpYield_nil ?_
        iterate 15 (refine wpYield_step (fun K hK => ?_); go_simp; refine hK _ ?_; clear hK K)
        refine wpYield_nil ?_
        intro _ hw'
        obtain ⟨xo, hw''⟩ := hw'
        subst hw''
        simp only [wpMakes]
        have c3x := chg_graft NoChg (y5.alloc (.cells #[.int .u64 (c5.f : Int), .int .u64 (c5.l : Int), .int .u64 (c5.r : Int)] 39)) xo
        generalize graft NoChg (y5.alloc (.cells #[.int .u64 (c5.f : Int), .int .u64 (c5.l : Int), .int .u64 (c5.r : Int)] 39)) xo = w9 at c3x ⊢
        have CK9 := hide (CK7.out.trans' c3x)
        clear G0 G1 G2 G3 G4 G5 G6 G7 G8 G9 G10 G11 G12 G13 c3x
        obtain ⟨b0, b1, b2, b3, b4, b5, b6, b7, b8, b9, b10, b11, b12, b13⟩ := spc_cells0 (Chg.blk CK9.out B1.out (fun h => h))
        have f0 := fun i => Blk.frozen (Chg.blk CK9.out B1.out (fun h => h)) i
        have f00 := f0 0
        have f01 := f0 1
        have f02 := f0 2
        have f03 := f0 3
        have f04 := f0 4
        have f05 := f0 5
        have f06 := f0 6
        have f07 := f0 7
        have f08 := f0 8
        have f09 := f0 9
        have f010 := f0 10
        have f011 := f0 11
        have f012 := f0 12
        have f013 := f0 13
        have zz : w.heap.size < w9.heap.size := (Chg.blk CK9.out B1.out (fun h => h)).lt
        clear f0
        go_wp2
        refine bodyPost_ret (v := .tuple #[.agg #[.int .i64 (u0 : Int), .int .i64 (u1 : Int), .bool true, .int .u64 (c3.f : Int), .int .u64 (c3.l : Int), .int .u64 (c3.r : Int), .int .u64 (c4.f : Int), .int .u64 (c4.l : Int), .int .u64 (c4.r : Int), .int .u64 (c5.f : Int), .int .u64 (c5.l : Int), .int .u64 (c5.r : Int), .int .i64 (u2 : Int), .int .i64 (u3 : Int)], .int .i64 0]) (by simp [results, Tryd.results18, go_sem, b0, b1, b2, b3, b4, b5, b6, b7, b8, b9, b10, b11, b12, b13]) rfl ⟨.inl ⟨_, HP.out, rfl⟩, ?_⟩
        have C2 := C1.out.trans' CK9.out
        (repeat' (first | (with_reducible exact Chg.refl _ _) | (with_reducible assumption) | (with_reducible refine Chg.alloc ?_ _) | (with_reducible refine Chg.drewN ?_ _) | (with_reducible refine Chg.drew ?_) | (with_reducible refine Chg.setCell ?_ _ ?_) | (apply Or.inl; with_reducible rfl) | (apply Or.inl; simp; done) | (apply Or.inr; simp; done) | (apply Or.inr; simp; omega)))
      · have HN := hide (NoSp.crv HL.out.symm 5 _ rfl (by omega) h5)
        clear h5
        obtain ⟨b0, b1, b2, b3, b4, b5, b6, b7, b8, b9, b10, b11, b12, b13⟩ := spc_cells0 (Chg.blk CK7.out B1.out (fun h => h))
        have f0 := fun i => Blk.frozen (Chg.blk CK7.out B1.out (fun h => h)) i
        have f00 := f0 0
        have f01 := f0 1
        have f02 := f0 2
        have f03 := f0 3
        have f04 := f0 4
        have f05 := f0 5
        have f06 := f0 6
        have f07 := f0 7
        have f08 := f0 8
        have f09 := f0 9
        have f010 := f0 10
        have f011 := f0 11
        have f012 := f0 12
        have f013 := f0 13
        have zz : w.heap.size < (y5.alloc (.cells #[.int .u64 (c5.f : Int), .int .u64 (c5.l : Int), .int .u64 (c5.r : Int)] 39)).heap.size := (Chg.blk CK7.out B1.out (fun h => h)).lt
        clear f0
        go_wp2
        refine bodyPost_ret (v := .tuple #[.agg #[.int .i64 0, .int .i64 0, .bool false, .int .u64 0, .int .u64 0, .int .u64 0, .int .u64 0, .int .u64 0, .int .u64 0, .int .u64 0, .int .u64 0, .int .u64 0, .int .i64 0, .int .i64 0], .int .i64 2]) (by simp [results, Tryd.results18, go_sem, b0, b1, b2, b3, b4, b5, b6, b7, b8, b9, b10, b11, b12, b13]) rfl ⟨.inr ⟨HN.out, rfl⟩, ?_⟩
        have C2 := C1.out.trans' CK7.out
        (repeat' (first | (with_reducible exact Chg.refl _ _) | (with_reducible assumption) | (with_reducible refine Chg.alloc ?_ _) | (with_reducible refine Chg.drewN ?_ _) | (with_reducible refine Chg.drew ?_) | (with_reducible refine Chg.setCell ?_ _ ?_) | (apply Or.inl; with_reducible rfl) | (apply Or.inl; simp; done) | (apply Or.inr; simp; done) | (apply Or.inr; simp; omega)))
    · have HN := hide (NoSp.crv HL.out.symm 4 _ rfl (by omega) h4)
      clear h4
      obtain ⟨b0, b1, b2, b3, b4, b5, b6, b7, b8, b9, b10, b11, b12, b13⟩ := spc_cells0 (Chg.blk CK7.out B1.out (fun h => h))
      have f0 := fun i => Blk.frozen (Chg.blk CK7.out B1.out (fun h => h)) i
      have f00 := f0 0
      have f01 := f0 1
      have f02 := f0 2
      have f03 := f0 3
      have f04 := f0 4
      have f05 := f0 5
      have f06 := f0 6
      have f07 := f0 7
      have f08 := f0 8
      have f09 := f0 9
      have f010 := f0 10
      have f011 := f0 11
      have f012 := f0 12
      have f013 := f0 13
      have zz : w.heap.size < (y5.alloc (.cells #[.int .u64 (c5.f : Int), .int .u64 (c5.l : Int), .int .u64 (c5.r : Int)] 39)).heap.size := (Chg.blk CK7.out B1.out (fun h => h)).lt
      clear f0
      go_wp2
      refine bodyPost_ret (v := .tuple #[.agg #[.int .i64 0, .int .i64 0, .bool false, .int .u64 0, .int .u64 0, .int .u64 0, .int .u64 0, .int .u64 0, .int .u64 0, .int .u64 0, .int .u64 0, .int .u64 0, .int .i64 0, .int .i64 0], .int .i64 2]) (by simp [results, Tryd.results18, go_sem, b0, b1, b2, b3, b4, b5, b6, b7, b8, b9, b10, b11, b12, b13]) rfl ⟨.inr ⟨HN.out, rfl⟩, ?_⟩
      have C2 := C1.out.trans' CK7.out
      (repeat' (first | (with_reducible exact Chg.refl _ _) | (with_reducible assumption) | (with_reducible refine Chg.alloc ?_ _) | (with_reducible refine Chg.drewN ?_ _) | (with_reducible refine Chg.drew ?_) | (with_reducible refine Chg.setCell ?_ _ ?_) | (apply Or.inl; with_reducible rfl) | (apply Or.inl; simp; done) | (apply Or.inr; simp; done) | (apply Or.inr; simp; omega)))
  · have HN := hide (NoSp.crv HL.out.symm 3 _ rfl (by omega) h3)
    clear h3
    obtain ⟨b0, b1, b2, b3, b4, b5, b6, b7, b8, b9, b10, b11, b12, b13⟩ := spc_cells0 (Chg.blk CK7.out B1.out (fun h => h))
    have f0 := fun i => Blk.frozen (Chg.blk CK7.out B1.out (fun h => h)) i
    have f00 := f0 0
    have f01 := f0 1
    have f02 := f0 2
    have f03 := f0 3
    have f04 := f0 4
    have f05 := f0 5
    have f06 := f0 6
    have f07 := f0 7
    have f08 := f0 8
    have f09 := f0 9
    have f010 := f0 10
    have f011 := f0 11
    have f012 := f0 12
    have f013 := f0 13
    have zz : w.heap.size < (y5.alloc (.cells #[.int .u64 (c5.f : Int), .int .u64 (c5.l : Int), .int .u64 (c5.r : Int)] 39)).heap.size := (Chg.blk CK7.out B1.out (fun h => h)).lt
    clear f0
    go_wp2
    refine bodyPost_ret (v := .tuple #[.agg #[.int .i64 0, .int .i64 0, .bool false, .int .u64 0, .int .u64 0, .int .u64 0, .int .u64 0, .int .u64 0, .int .u64 0, .int .u64 0, .int .u64 0, .int .u64 0, .int .i64 0, .int .i64 0], .int .i64 2]) (by simp [results, Tryd.results18, go_sem, b0, b1, b2, b3, b4, b5, b6, b7, b8, b9, b10, b11, b12, b13]) rfl ⟨.inr ⟨HN.out, rfl⟩, ?_⟩
    have C2 := C1.out.trans' CK7.out
    (repeat' (first | (with_reducible exact Chg.refl _ _) | (with_reducible assumption) | (with_reducible refine Chg.alloc ?_ _) | (with_reducible refine Chg.drewN ?_ _) | (with_reducible refine Chg.drew ?_) | (with_reducible refine Chg.setCell ?_ _ ?_) | (apply Or.inl; with_reducible rfl) | (apply Or.inl; simp; done) | (apply Or.inr; simp; done) | (apply Or.inr; simp; omega)))

set_option maxRecDepth 100000 in
set_option maxHeartbeats 16000000 in
theorem r13Parse_false (s : ByteArray) (w : World) (hs : s.size ≤ 1000) (hyp : (pieces 32 s.data.toList).length = 8 ∧ (pieces 32 s.data.toList)[0]? = some (kindW false)) : Calls Tryd.prog 18 #[.string s] w fun e w' => SpIs s.data.toList e ∧ Chg NoChg w w' := by
  have HYP := hide hyp
  clear hyp
  have C0 := hide ((Chg.refl NoChg w).alloc (.cells #[.int .i64 0, .int .i64 0, .bool false, .int .u64 0, .int .u64 0, .int .u64 0, .int .u64 0, .int .u64 0, .int .u64 0, .int .u64 0, .int .u64 0, .int .u64 0, .int .i64 0, .int .i64 0] 41))
  have B0 := hide (Blk.new w #[.int .i64 0, .int .i64 0, .bool false, .int .u64 0, .int .u64 0, .int .u64 0, .int .u64 0, .int .u64 0, .int .u64 0, .int .u64 0, .int .u64 0, .int .u64 0, .int .i64 0, .int .i64 0] 41)
  have HW := hide (r10Words_any s (w.alloc (.cells #[.int .i64 0, .int .i64 0, .bool false, .int .u64 0, .int .u64 0, .int .u64 0, .int .u64 0, .int .u64 0, .int .u64 0, .int .u64 0, .int .u64 0, .int .u64 0, .int .i64 0, .int .i64 0] 41)) hs)
  go_enter Tryd.func18, Tryd.ntmps18
  go_wp2_with fail
  refine HW.out.mono ?_
  rintro e w1 ⟨v, l, rfl, hl, hown, hg, hc⟩
  obtain ⟨a, cap, rfl, hcell⟩ := own_cell hown
  have hll : l.length = (pieces 32 s.data.toList).length := by rw [← hl]; simp
  have C1 := hide (C0.out.trans' hc)
  have B1 := hide (hc.blk B0.out (fun h => h))
  have HL := hide hl
  have HCELL := hide hcell
  clear hown hcell hl hc C0 B0 HW hg
  have h8 : l.length = 8 := by rw [hll]; exact HYP.out.1
  have h8' : ((l.length : Int) != 8) = false := by simp; omega
  clear hll
  obtain ⟨x0, x1, x2, x3, x4, x5, x6, x7, rfl⟩ : ∃ x0 x1 x2 x3 x4 x5 x6 x7, l = [x0, x1, x2, x3, x4, x5, x6, x7] := by
    match l, h8 with
    | [x0, x1, x2, x3, x4, x5, x6, x7], _ => exact ⟨x0, x1, x2, x3, x4, x5, x6, x7, rfl⟩
  obtain ⟨g, o, rfl, hcell⟩ := HCELL.out (by simp)
  have HC := hide hcell
  clear hcell HCELL h8
  have q0 : w1.cell? ⟨g, o, none⟩ = some (.string x0) := HC.out 0 (by simp)

  have hk : x0.data.toList = kindW false := by
    have h0 : (pieces 32 s.data.toList)[0]? = some x0.data.toList := by rw [← HL.out]; rfl
    rw [HYP.out.2] at h0
    exact (Option.some.inj h0).symm
  have e1 : (x0.toList == [108, 101, 97, 102]) = false := by rw [ByteArray.toList_eq, hk]; rfl
  have e2 : (x0.toList == [105, 110, 110, 101, 114]) = true := by rw [ByteArray.toList_eq, hk]; rfl
  have HK := hide hk
  have BA := hide (Blk.new w1 #[.int .i64 1, .int .i64 2, .int .i64 6, .int .i64 7] 3)
  have CA0 := hide ((Chg.refl NoChg w1).alloc (.cells #[.int .i64 1, .int .i64 2, .int .i64 6, .int .i64 7] 3))
  have T0 : Hid (IS (w1.alloc (.cells #[.int .i64 1, .int .i64 2, .int .i64 6, .int .i64 7] 3)) (w1.alloc (.cells #[.int .i64 1, .int .i64 2, .int .i64 6, .int .i64 7] 3)) (.slice none 0 0) []) := hide ⟨Chg.refl _ _, Own.nil _ _ _ _, fun g h => by cases h⟩
  clear hk
  have qq1 : (w1.alloc (.cells #[.int .i64 1, .int .i64 2, .int .i64 6, .int .i64 7] 3)).cell? ⟨g, o + 1, none⟩ = some (.string x1) := chg_same CA0.out (HC.out 1 (by simp))
  go_wp2
  refine wp_loop_rounds 5 ?_
  rw [rounds_succ]
  go_wp2_with fail
  refine (r10Digits_any x1 _ (word_size s x1 (by rw [← HL.out]; simp) hs)).mono ?_
  rintro e wa0 ⟨hd, ca⟩
  have CW0 := hide (CA0.out.trans' (T0.out.chg.trans' ca))
  have CB0 := hide ca
  clear ca q0 qq1
  rcases hd with ⟨u0, hu, hx, rfl⟩ | ⟨hno, m, hm, rfl⟩
  rotate_left
  · have HN := hide (NoSp.num HL.out.symm 1 _ rfl (by omega) (fun u hu => hno u (by omega)))
    clear hm hno
    obtain ⟨b0, b1, b2, b3, b4, b5, b6, b7, b8, b9, b10, b11, b12, b13⟩ := spc_cells0 (Chg.blk CW0.out B1.out (fun h => h))
    have f0 := fun i => Blk.frozen (Chg.blk CW0.out B1.out (fun h => h)) i
    have f00 := f0 0
    have f01 := f0 1
    have f02 := f0 2
    have f03 := f0 3
    have f04 := f0 4
    have f05 := f0 5
    have f06 := f0 6
    have f07 := f0 7
    have f08 := f0 8
    have f09 := f0 9
    have f010 := f0 10
    have f011 := f0 11
    have f012 := f0 12
    have f013 := f0 13
    have zz : w.heap.size < wa0.heap.size := (Chg.blk CW0.out B1.out (fun h => h)).lt
    clear f0
    go_wp2
    refine bodyPost_ret (v := .tuple #[.agg #[.int .i64 0, .int .i64 0, .bool false, .int .u64 0, .int .u64 0, .int .u64 0, .int .u64 0, .int .u64 0, .int .u64 0, .int .u64 0, .int .u64 0, .int .u64 0, .int .i64 0, .int .i64 0], .int .i64 2]) (by simp [results, Tryd.results18, go_sem, b0, b1, b2, b3, b4, b5, b6, b7, b8, b9, b10, b11, b12, b13]) rfl ⟨.inr ⟨HN.out, rfl⟩, ?_⟩
    have C2 := C1.out.trans' CW0.out
    (repeat' (first | (with_reducible exact Chg.refl _ _) | (with_reducible assumption) | (with_reducible refine Chg.alloc ?_ _) | (with_reducible refine Chg.drewN ?_ _) | (with_reducible refine Chg.drew ?_) | (with_reducible refine Chg.setCell ?_ _ ?_) | (apply Or.inl; with_reducible rfl) | (apply Or.inl; simp; done) | (apply Or.inr; simp; done) | (apply Or.inr; simp; omega)))
  have U0 := hide hu
  have X0 := hide hx
  clear hu hx
  by_cases hbig : ¬ u0 < 9223372036854775808
  · have hb1 : (9223372036854775807 : Int) < (u0 : Int) := by omega
    have HN := hide (NoSp.num HL.out.symm 1 _ rfl (by omega) (fun u hu e => hbig (by rw [dec_inj (X0.out.symm.trans e)]; exact hu)))
    clear hbig
    obtain ⟨b0, b1, b2, b3, b4, b5, b6, b7, b8, b9, b10, b11, b12, b13⟩ := spc_cells0 (Chg.blk CW0.out B1.out (fun h => h))
    have f0 := fun i => Blk.frozen (Chg.blk CW0.out B1.out (fun h => h)) i
    have f00 := f0 0
    have f01 := f0 1
    have f02 := f0 2
    have f03 := f0 3
    have f04 := f0 4
    have f05 := f0 5
    have f06 := f0 6
    have f07 := f0 7
    have f08 := f0 8
    have f09 := f0 9
    have f010 := f0 10
    have f011 := f0 11
    have f012 := f0 12
    have f013 := f0 13
    have zz : w.heap.size < wa0.heap.size := (Chg.blk CW0.out B1.out (fun h => h)).lt
    clear f0
    go_wp2
    refine bodyPost_ret (v := .tuple #[.agg #[.int .i64 0, .int .i64 0, .bool false, .int .u64 0, .int .u64 0, .int .u64 0, .int .u64 0, .int .u64 0, .int .u64 0, .int .u64 0, .int .u64 0, .int .u64 0, .int .i64 0, .int .i64 0], .int .i64 2]) (by simp [results, Tryd.results18, go_sem, b0, b1, b2, b3, b4, b5, b6, b7, b8, b9, b10, b11, b12, b13]) rfl ⟨.inr ⟨HN.out, rfl⟩, ?_⟩
    have C2 := C1.out.trans' CW0.out
    (repeat' (first | (with_reducible exact Chg.refl _ _) | (with_reducible assumption) | (with_reducible refine Chg.alloc ?_ _) | (with_reducible refine Chg.drewN ?_ _) | (with_reducible refine Chg.drew ?_) | (with_reducible refine Chg.setCell ?_ _ ?_) | (apply Or.inl; with_reducible rfl) | (apply Or.inl; simp; done) | (apply Or.inr; simp; done) | (apply Or.inr; simp; omega)))
  have hb1 : ¬ (9223372036854775807 : Int) < (u0 : Int) := by omega
  have S0 := hide (Nat.not_le.1 (fun h => hbig (by omega)) : u0 < 9223372036854775808)
  have hw1 : IntKind.i64.wrap (u0 : Int) = (u0 : Int) := IntWalk.i64_in _ (by omega)
  clear hbig
  go_wp2_with (at_builtin; refine wpList_append_rec intR rfl (.tmp 57) (.tmp 60) rfl _ ([] : List Int) rfl ((T0.out.own.keep CB0.out (fun _ _ h => h)).keep ((Chg.refl NoChg wa0).alloc _) (fun _ _ h => h)) _ _ [(u0 : Int)] rfl ?fa01 ?fa02 ?fa03 ?fa04 ?fa05)
  try (case fa01 => intro h; cases h)
  case fa02 => exact Blk.rowI wa0 _ 3
  case fa03 => simp [maxLen]
  case fa04 => simp
  intro v1 wk1 hown hcc hv
  have T1 := hide (T0.out.step CB0.out hown hcc hv)
  clear hown hcc hv
  simp only [List.nil_append] at T1
  clear CW0 CB0 T0 hb1 hw1
  have qq2 : wk1.cell? ⟨g, o + 2, none⟩ = some (.string x2) := chg_same (CA0.out.trans' T1.out.chg) (HC.out 2 (by simp))
  have at1 := (T1.out.chg.blk BA.out (fun h => h)).cell 1
  have za1 := (T1.out.chg.blk BA.out (fun h => h)).lt
  simp at at1
  go_wp2
  rw [rounds_succ]
  go_wp2_with fail
  refine (r10Digits_any x2 _ (word_size s x2 (by rw [← HL.out]; simp) hs)).mono ?_
  rintro e wa1 ⟨hd, ca⟩
  have CW1 := hide (CA0.out.trans' (T1.out.chg.trans' ca))
  have CB1 := hide ca
  clear ca qq2 at1 za1
  rcases hd with ⟨u1, hu, hx, rfl⟩ | ⟨hno, m, hm, rfl⟩
  rotate_left
  · have HN := hide (NoSp.num HL.out.symm 2 _ rfl (by omega) (fun u hu => hno u (by omega)))
    clear hm hno
    obtain ⟨b0, b1, b2, b3, b4, b5, b6, b7, b8, b9, b10, b11, b12, b13⟩ := spc_cells0 (Chg.blk CW1.out B1.out (fun h => h))
    have f0 := fun i => Blk.frozen (Chg.blk CW1.out B1.out (fun h => h)) i
    have f00 := f0 0
    have f01 := f0 1
    have f02 := f0 2
    have f03 := f0 3
    have f04 := f0 4
    have f05 := f0 5
    have f06 := f0 6
    have f07 := f0 7
    have f08 := f0 8
    have f09 := f0 9
    have f010 := f0 10
    have f011 := f0 11
    have f012 := f0 12
    have f013 := f0 13
    have zz : w.heap.size < wa1.heap.size := (Chg.blk CW1.out B1.out (fun h => h)).lt
    clear f0
    go_wp2
    refine bodyPost_ret (v := .tuple #[.agg #[.int .i64 0, .int .i64 0, .bool false, .int .u64 0, .int .u64 0, .int .u64 0, .int .u64 0, .int .u64 0, .int .u64 0, .int .u64 0, .int .u64 0, .int .u64 0, .int .i64 0, .int .i64 0], .int .i64 2]) (by simp [results, Tryd.results18, go_sem, b0, b1, b2, b3, b4, b5, b6, b7, b8, b9, b10, b11, b12, b13]) rfl ⟨.inr ⟨HN.out, rfl⟩, ?_⟩
    have C2 := C1.out.trans' CW1.out
    (repeat' (first | (with_reducible exact Chg.refl _ _) | (with_reducible assumption) | (with_reducible refine Chg.alloc ?_ _) | (with_reducible refine Chg.drewN ?_ _) | (with_reducible refine Chg.drew ?_) | (with_reducible refine Chg.setCell ?_ _ ?_) | (apply Or.inl; with_reducible rfl) | (apply Or.inl; simp; done) | (apply Or.inr; simp; done) | (apply Or.inr; simp; omega)))
  have U1 := hide hu
  have X1 := hide hx
  clear hu hx
  by_cases hbig : ¬ u1 < 9223372036854775808
  · have hb1 : (9223372036854775807 : Int) < (u1 : Int) := by omega
    have HN := hide (NoSp.num HL.out.symm 2 _ rfl (by omega) (fun u hu e => hbig (by rw [dec_inj (X1.out.symm.trans e)]; exact hu)))
    clear hbig
    obtain ⟨b0, b1, b2, b3, b4, b5, b6, b7, b8, b9, b10, b11, b12, b13⟩ := spc_cells0 (Chg.blk CW1.out B1.out (fun h => h))
    have f0 := fun i => Blk.frozen (Chg.blk CW1.out B1.out (fun h => h)) i
    have f00 := f0 0
    have f01 := f0 1
    have f02 := f0 2
    have f03 := f0 3
    have f04 := f0 4
    have f05 := f0 5
    have f06 := f0 6
    have f07 := f0 7
    have f08 := f0 8
    have f09 := f0 9
    have f010 := f0 10
    have f011 := f0 11
    have f012 := f0 12
    have f013 := f0 13
    have zz : w.heap.size < wa1.heap.size := (Chg.blk CW1.out B1.out (fun h => h)).lt
    clear f0
    go_wp2
    refine bodyPost_ret (v := .tuple #[.agg #[.int .i64 0, .int .i64 0, .bool false, .int .u64 0, .int .u64 0, .int .u64 0, .int .u64 0, .int .u64 0, .int .u64 0, .int .u64 0, .int .u64 0, .int .u64 0, .int .i64 0, .int .i64 0], .int .i64 2]) (by simp [results, Tryd.results18, go_sem, b0, b1, b2, b3, b4, b5, b6, b7, b8, b9, b10, b11, b12, b13]) rfl ⟨.inr ⟨HN.out, rfl⟩, ?_⟩
    have C2 := C1.out.trans' CW1.out
    (repeat' (first | (with_reducible exact Chg.refl _ _) | (with_reducible assumption) | (with_reducible refine Chg.alloc ?_ _) | (with_reducible refine Chg.drewN ?_ _) | (with_reducible refine Chg.drew ?_) | (with_reducible refine Chg.setCell ?_ _ ?_) | (apply Or.inl; with_reducible rfl) | (apply Or.inl; simp; done) | (apply Or.inr; simp; done) | (apply Or.inr; simp; omega)))
  have hb1 : ¬ (9223372036854775807 : Int) < (u1 : Int) := by omega
  have S1 := hide (Nat.not_le.1 (fun h => hbig (by omega)) : u1 < 9223372036854775808)
  have hw1 : IntKind.i64.wrap (u1 : Int) = (u1 : Int) := IntWalk.i64_in _ (by omega)
  clear hbig
  go_wp2_with (at_builtin; refine wpList_append_rec intR rfl (.tmp 57) (.tmp 60) rfl _ ([(u0 : Int)] : List Int) rfl ((T1.out.own.keep CB1.out (fun _ _ h => h)).keep ((Chg.refl NoChg wa1).alloc _) (fun _ _ h => h)) _ _ [(u1 : Int)] rfl ?fa11 ?fa12 ?fa13 ?fa14 ?fa15)
  try (case fa11 => intro h; cases h)
  case fa12 => exact Blk.rowI wa1 _ 3
  case fa13 => simp [maxLen]
  case fa14 => simp
  intro v2 wk2 hown hcc hv
  have T2 := hide (T1.out.step CB1.out hown hcc hv)
  clear hown hcc hv
  simp only [List.nil_append, List.cons_append] at T2
  clear CW1 CB1 T1 hb1 hw1
  have qq6 : wk2.cell? ⟨g, o + 6, none⟩ = some (.string x6) := chg_same (CA0.out.trans' T2.out.chg) (HC.out 6 (by simp))
  have at2 := (T2.out.chg.blk BA.out (fun h => h)).cell 2
  have za2 := (T2.out.chg.blk BA.out (fun h => h)).lt
  simp at at2
  go_wp2
  rw [rounds_succ]
  go_wp2_with fail
  refine (r10Digits_any x6 _ (word_size s x6 (by rw [← HL.out]; simp) hs)).mono ?_
  rintro e wa2 ⟨hd, ca⟩
  have CW2 := hide (CA0.out.trans' (T2.out.chg.trans' ca))
  have CB2 := hide ca
  clear ca qq6 at2 za2
  rcases hd with ⟨u2, hu, hx, rfl⟩ | ⟨hno, m, hm, rfl⟩
  rotate_left
  · have HN := hide (NoSp.num HL.out.symm 6 _ rfl (by omega) (fun u hu => hno u (by omega)))
    clear hm hno
    obtain ⟨b0, b1, b2, b3, b4, b5, b6, b7, b8, b9, b10, b11, b12, b13⟩ := spc_cells0 (Chg.blk CW2.out B1.out (fun h => h))
    have f0 := fun i => Blk.frozen (Chg.blk CW2.out B1.out (fun h => h)) i
    have f00 := f0 0
    have f01 := f0 1
    have f02 := f0 2
    have f03 := f0 3
    have f04 := f0 4
    have f05 := f0 5
    have f06 := f0 6
    have f07 := f0 7
    have f08 := f0 8
    have f09 := f0 9
    have f010 := f0 10
    have f011 := f0 11
    have f012 := f0 12
    have f013 := f0 13
    have zz : w.heap.size < wa2.heap.size := (Chg.blk CW2.out B1.out (fun h => h)).lt
    clear f0
    go_wp2
    refine bodyPost_ret (v := .tuple #[.agg #[.int .i64 0, .int .i64 0, .bool false, .int .u64 0, .int .u64 0, .int .u64 0, .int .u64 0, .int .u64 0, .int .u64 0, .int .u64 0, .int .u64 0, .int .u64 0, .int .i64 0, .int .i64 0], .int .i64 2]) (by simp [results, Tryd.results18, go_sem, b0, b1, b2, b3, b4, b5, b6, b7, b8, b9, b10, b11, b12, b13]) rfl ⟨.inr ⟨HN.out, rfl⟩, ?_⟩
    have C2 := C1.out.trans' CW2.out
    (repeat' (first | (with_reducible exact Chg.refl _ _) | (with_reducible assumption) | (with_reducible refine Chg.alloc ?_ _) | (with_reducible refine Chg.drewN ?_ _) | (with_reducible refine Chg.drew ?_) | (with_reducible refine Chg.setCell ?_ _ ?_) | (apply Or.inl; with_reducible rfl) | (apply Or.inl; simp; done) | (apply Or.inr; simp; done) | (apply Or.inr; simp; omega)))
  have U2 := hide hu
  have X2 := hide hx
  clear hu hx
  by_cases hbig : ¬ u2 < 9223372036854775808
  · have hb1 : (9223372036854775807 : Int) < (u2 : Int) := by omega
    have HN := hide (NoSp.num HL.out.symm 6 _ rfl (by omega) (fun u hu e => hbig (by rw [dec_inj (X2.out.symm.trans e)]; exact hu)))
    clear hbig
    obtain ⟨b0, b1, b2, b3, b4, b5, b6, b7, b8, b9, b10, b11, b12, b13⟩ := spc_cells0 (Chg.blk CW2.out B1.out (fun h => h))
    have f0 := fun i => Blk.frozen (Chg.blk CW2.out B1.out (fun h => h)) i
    have f00 := f0 0
    have f01 := f0 1
    have f02 := f0 2
    have f03 := f0 3
    have f04 := f0 4
    have f05 := f0 5
    have f06 := f0 6
    have f07 := f0 7
    have f08 := f0 8
    have f09 := f0 9
    have f010 := f0 10
    have f011 := f0 11
    have f012 := f0 12
    have f013 := f0 13
    have zz : w.heap.size < wa2.heap.size := (Chg.blk CW2.out B1.out (fun h => h)).lt
    clear f0
    go_wp2
    refine bodyPost_ret (v := .tuple #[.agg #[.int .i64 0, .int .i64 0, .bool false, .int .u64 0, .int .u64 0, .int .u64 0, .int .u64 0, .int .u64 0, .int .u64 0, .int .u64 0, .int .u64 0, .int .u64 0, .int .i64 0, .int .i64 0], .int .i64 2]) (by simp [results, Tryd.results18, go_sem, b0, b1, b2, b3, b4, b5, b6, b7, b8, b9, b10, b11, b12, b13]) rfl ⟨.inr ⟨HN.out, rfl⟩, ?_⟩
    have C2 := C1.out.trans' CW2.out
    (repeat' (first | (with_reducible exact Chg.refl _ _) | (with_reducible assumption) | (with_reducible refine Chg.alloc ?_ _) | (with_reducible refine Chg.drewN ?_ _) | (with_reducible refine Chg.drew ?_) | (with_reducible refine Chg.setCell ?_ _ ?_) | (apply Or.inl; with_reducible rfl) | (apply Or.inl; simp; done) | (apply Or.inr; simp; done) | (apply Or.inr; simp; omega)))
  have hb1 : ¬ (9223372036854775807 : Int) < (u2 : Int) := by omega
  have S2 := hide (Nat.not_le.1 (fun h => hbig (by omega)) : u2 < 9223372036854775808)
  have hw1 : IntKind.i64.wrap (u2 : Int) = (u2 : Int) := IntWalk.i64_in _ (by omega)
  clear hbig
  go_wp2_with (at_builtin; refine wpList_append_rec intR rfl (.tmp 57) (.tmp 60) rfl _ ([(u0 : Int), (u1 : Int)] : List Int) rfl ((T2.out.own.keep CB2.out (fun _ _ h => h)).keep ((Chg.refl NoChg wa2).alloc _) (fun _ _ h => h)) _ _ [(u2 : Int)] rfl ?fa21 ?fa22 ?fa23 ?fa24 ?fa25)
  try (case fa21 => intro h; cases h)
  case fa22 => exact Blk.rowI wa2 _ 3
  case fa23 => simp [maxLen]
  case fa24 => simp
  intro v3 wk3 hown hcc hv
  have T3 := hide (T2.out.step CB2.out hown hcc hv)
  clear hown hcc hv
  simp only [List.nil_append, List.cons_append] at T3
  clear CW2 CB2 T2 hb1 hw1
  have qq7 : wk3.cell? ⟨g, o + 7, none⟩ = some (.string x7) := chg_same (CA0.out.trans' T3.out.chg) (HC.out 7 (by simp))
  have at3 := (T3.out.chg.blk BA.out (fun h => h)).cell 3
  have za3 := (T3.out.chg.blk BA.out (fun h => h)).lt
  simp at at3
  go_wp2
  rw [rounds_succ]
  go_wp2_with fail
  refine (r10Digits_any x7 _ (word_size s x7 (by rw [← HL.out]; simp) hs)).mono ?_
  rintro e wa3 ⟨hd, ca⟩
  have CW3 := hide (CA0.out.trans' (T3.out.chg.trans' ca))
  have CB3 := hide ca
  clear ca qq7 at3 za3
  rcases hd with ⟨u3, hu, hx, rfl⟩ | ⟨hno, m, hm, rfl⟩
  rotate_left
  · have HN := hide (NoSp.num HL.out.symm 7 _ rfl (by omega) (fun u hu => hno u (by omega)))
    clear hm hno
    obtain ⟨b0, b1, b2, b3, b4, b5, b6, b7, b8, b9, b10, b11, b12, b13⟩ := spc_cells0 (Chg.blk CW3.out B1.out (fun h => h))
    have f0 := fun i => Blk.frozen (Chg.blk CW3.out B1.out (fun h => h)) i
    have f00 := f0 0
    have f01 := f0 1
    have f02 := f0 2
    have f03 := f0 3
    have f04 := f0 4
    have f05 := f0 5
    have f06 := f0 6
    have f07 := f0 7
    have f08 := f0 8
    have f09 := f0 9
    have f010 := f0 10
    have f011 := f0 11
    have f012 := f0 12
    have f013 := f0 13
    have zz : w.heap.size < wa3.heap.size := (Chg.blk CW3.out B1.out (fun h => h)).lt
    clear f0
    go_wp2
    refine bodyPost_ret (v := .tuple #[.agg #[.int .i64 0, .int .i64 0, .bool false, .int .u64 0, .int .u64 0, .int .u64 0, .int .u64 0, .int .u64 0, .int .u64 0, .int .u64 0, .int .u64 0, .int .u64 0, .int .i64 0, .int .i64 0], .int .i64 2]) (by simp [results, Tryd.results18, go_sem, b0, b1, b2, b3, b4, b5, b6, b7, b8, b9, b10, b11, b12, b13]) rfl ⟨.inr ⟨HN.out, rfl⟩, ?_⟩
    have C2 := C1.out.trans' CW3.out
    (repeat' (first | (with_reducible exact Chg.refl _ _) | (with_reducible assumption) | (with_reducible refine Chg.alloc ?_ _) | (with_reducible refine Chg.drewN ?_ _) | (with_reducible refine Chg.drew ?_) | (with_reducible refine Chg.setCell ?_ _ ?_) | (apply Or.inl; with_reducible rfl) | (apply Or.inl; simp; done) | (apply Or.inr; simp; done) | (apply Or.inr; simp; omega)))
  have U3 := hide hu
  have X3 := hide hx
  clear hu hx
  by_cases hbig : ¬ u3 < 9223372036854775808
  · have hb1 : (9223372036854775807 : Int) < (u3 : Int) := by omega
    have HN := hide (NoSp.num HL.out.symm 7 _ rfl (by omega) (fun u hu e => hbig (by rw [dec_inj (X3.out.symm.trans e)]; exact hu)))
    clear hbig
    obtain ⟨b0, b1, b2, b3, b4, b5, b6, b7, b8, b9, b10, b11, b12, b13⟩ := spc_cells0 (Chg.blk CW3.out B1.out (fun h => h))
    have f0 := fun i => Blk.frozen (Chg.blk CW3.out B1.out (fun h => h)) i
    have f00 := f0 0
    have f01 := f0 1
    have f02 := f0 2
    have f03 := f0 3
    have f04 := f0 4
    have f05 := f0 5
    have f06 := f0 6
    have f07 := f0 7
    have f08 := f0 8
    have f09 := f0 9
    have f010 := f0 10
    have f011 := f0 11
    have f012 := f0 12
    have f013 := f0 13
    have zz : w.heap.size < wa3.heap.size := (Chg.blk CW3.out B1.out (fun h => h)).lt
    clear f0
    go_wp2
    refine bodyPost_ret (v := .tuple #[.agg #[.int .i64 0, .int .i64 0, .bool false, .int .u64 0, .int .u64 0, .int .u64 0, .int .u64 0, .int .u64 0, .int .u64 0, .int .u64 0, .int .u64 0, .int .u64 0, .int .i64 0, .int .i64 0], .int .i64 2]) (by simp [results, Tryd.results18, go_sem, b0, b1, b2, b3, b4, b5, b6, b7, b8, b9, b10, b11, b12, b13]) rfl ⟨.inr ⟨HN.out, rfl⟩, ?_⟩
    have C2 := C1.out.trans' CW3.out
    (repeat' (first | (with_reducible exact Chg.refl _ _) | (with_reducible assumption) | (with_reducible refine Chg.alloc ?_ _) | (with_reducible refine Chg.drewN ?_ _) | (with_reducible refine Chg.drew ?_) | (with_reducible refine Chg.setCell ?_ _ ?_) | (apply Or.inl; with_reducible rfl) | (apply Or.inl; simp; done) | (apply Or.inr; simp; done) | (apply Or.inr; simp; omega)))
  have hb1 : ¬ (9223372036854775807 : Int) < (u3 : Int) := by omega
  have S3 := hide (Nat.not_le.1 (fun h => hbig (by omega)) : u3 < 9223372036854775808)
  have hw1 : IntKind.i64.wrap (u3 : Int) = (u3 : Int) := IntWalk.i64_in _ (by omega)
  clear hbig
  go_wp2_with (at_builtin; refine wpList_append_rec intR rfl (.tmp 57) (.tmp 60) rfl _ ([(u0 : Int), (u1 : Int), (u2 : Int)] : List Int) rfl ((T3.out.own.keep CB3.out (fun _ _ h => h)).keep ((Chg.refl NoChg wa3).alloc _) (fun _ _ h => h)) _ _ [(u3 : Int)] rfl ?fa31 ?fa32 ?fa33 ?fa34 ?fa35)
  try (case fa31 => intro h; cases h)
  case fa32 => exact Blk.rowI wa3 _ 3
  case fa33 => simp [maxLen]
  case fa34 => simp
  intro v4 wk4 hown hcc hv
  have T4 := hide (T3.out.step CB3.out hown hcc hv)
  clear hown hcc hv
  simp only [List.nil_append, List.cons_append] at T4
  clear CW3 CB3 T3 hb1 hw1
  go_wp2
  rw [rounds_succ]
  have qq3 : wk4.cell? ⟨g, o + 3, none⟩ = some (.string x3) := chg_same (CA0.out.trans' T4.out.chg) (HC.out 3 (by simp))
  have CK4 := hide (CA0.out.trans' T4.out.chg)
  obtain ⟨c3, E3, hE3, hk3⟩ := crv_known x3.data.toList
  have HE3 := hide hE3
  have HK3 := hide hk3
  clear hE3 hk3
  obtain ⟨c4, E4, hE4, hk4⟩ := crv_known x4.data.toList
  have HE4 := hide hE4
  have HK4 := hide hk4
  clear hE4 hk4
  obtain ⟨c5, E5, hE5, hk5⟩ := crv_known x5.data.toList
  have HE5 := hide hE5
  have HK5 := hide hk5
  clear hE5 hk5
  go_wp2_with fail
  refine (r13Curve_any x3 _ (word_size2 s x3 (by rw [← HL.out]; simp) hs)).mono ?_
  rintro e y3 ⟨he, d3⟩
  obtain rfl := HE3.out e he
  have CK5 := hide ((CK4.out.trans' d3).alloc (.cells #[.int .u64 (c3.f : Int), .int .u64 (c3.l : Int), .int .u64 (c3.r : Int)] 39))
  have CT5 := hide (d3.alloc (.cells #[.int .u64 (c3.f : Int), .int .u64 (c3.l : Int), .int .u64 (c3.r : Int)] 39))
  have P3 := hide (Blk.new y3 #[.int .u64 (c3.f : Int), .int .u64 (c3.l : Int), .int .u64 (c3.r : Int)] 39)
  clear d3 he qq3
  have qq4 : (y3.alloc (.cells #[.int .u64 (c3.f : Int), .int .u64 (c3.l : Int), .int .u64 (c3.r : Int)] 39)).cell? ⟨g, o + 4, none⟩ = some (.string x4) := chg_same CK5.out (HC.out 4 (by simp))
  go_wp2_with fail
  refine (r13Curve_any x4 _ (word_size2 s x4 (by rw [← HL.out]; simp) hs)).mono ?_
  rintro e y4 ⟨he, d4⟩
  obtain rfl := HE4.out e he
  have CK6 := hide ((CK5.out.trans' d4).alloc (.cells #[.int .u64 (c4.f : Int), .int .u64 (c4.l : Int), .int .u64 (c4.r : Int)] 39))
  have CT6 := hide ((CT5.out.trans' d4).alloc (.cells #[.int .u64 (c4.f : Int), .int .u64 (c4.l : Int), .int .u64 (c4.r : Int)] 39))
  have P3b := hide ((d4.blk P3.out (fun h => h)).alloc (.cells #[.int .u64 (c4.f : Int), .int .u64 (c4.l : Int), .int .u64 (c4.r : Int)] 39))
  have P4 := hide (Blk.new y4 #[.int .u64 (c4.f : Int), .int .u64 (c4.l : Int), .int .u64 (c4.r : Int)] 39)
  clear d4 he qq4
  have qq5 : (y4.alloc (.cells #[.int .u64 (c4.f : Int), .int .u64 (c4.l : Int), .int .u64 (c4.r : Int)] 39)).cell? ⟨g, o + 5, none⟩ = some (.string x5) := chg_same CK6.out (HC.out 5 (by simp))
  go_wp2_with fail
  refine (r13Curve_any x5 _ (word_size2 s x5 (by rw [← HL.out]; simp) hs)).mono ?_
  rintro e y5 ⟨he, d5⟩
  obtain rfl := HE5.out e he
  have CK7 := hide ((CK6.out.trans' d5).alloc (.cells #[.int .u64 (c5.f : Int), .int .u64 (c5.l : Int), .int .u64 (c5.r : Int)] 39))
  have CT7 := hide ((CT6.out.trans' d5).alloc (.cells #[.int .u64 (c5.f : Int), .int .u64 (c5.l : Int), .int .u64 (c5.r : Int)] 39))
  have P3c := hide ((d5.blk P3b.out (fun h => h)).alloc (.cells #[.int .u64 (c5.f : Int), .int .u64 (c5.l : Int), .int .u64 (c5.r : Int)] 39))
  have P4c := hide ((d5.blk P4.out (fun h => h)).alloc (.cells #[.int .u64 (c5.f : Int), .int .u64 (c5.l : Int), .int .u64 (c5.r : Int)] 39))
  have P5c := hide (Blk.new y5 #[.int .u64 (c5.f : Int), .int .u64 (c5.l : Int), .int .u64 (c5.r : Int)] 39)
  clear d5 he qq5
  obtain ⟨a4, cap4, hv4, hcell4⟩ := own_cellI (T4.out.own.keep CT7.out (fun _ _ h => h))
  simp only [List.length_cons, List.length_nil, Nat.zero_add, Nat.reduceAdd] at hv4
  subst hv4
  obtain ⟨g4, o4, rfl, hc4⟩ := hcell4 (by simp)
  have HC4 := hide hc4
  clear hcell4 hc4
  rcases HK3.out with ⟨rfl, h3⟩ | ⟨rfl, h3⟩
  · have H3 := hide h3
    clear h3
    rcases HK4.out with ⟨rfl, h4⟩ | ⟨rfl, h4⟩
    · have H4 := hide h4
      clear h4
      rcases HK5.out with ⟨rfl, h5⟩ | ⟨rfl, h5⟩
      · have H5 := hide h5
        clear h5
        have HP := hide (IsSp.mk (l := s.data.toList) (s := ⟨(u0 : Int), (u1 : Int), false, c3, c4, c5, (u2 : Int), (u3 : Int)⟩) (by rw [← HL.out]; simp [sWords, HK.out, X0.out, X1.out, X2.out, X3.out, H3.out.1, H4.out.1, H5.out.1]) ⟨by dsimp only; omega, by dsimp only; omega, by dsimp only; omega, by dsimp only; omega⟩ ⟨by have := S0.out; dsimp only; omega, by have := S1.out; dsimp only; omega, by have := S2.out; dsimp only; omega, by have := S3.out; dsimp only; omega, H3.out.2, H4.out.2, H5.out.2⟩)
        have BB := hide (fun (W : World) (x : Chg NoChg (y5.alloc (.cells #[.int .u64 (c5.f : Int), .int .u64 (c5.l : Int), .int .u64 (c5.r : Int)] 39)) W) => (
          (⟨(chg_same x (HC4.out 0 (by simp))), (chg_same x (HC4.out 1 (by simp))), (chg_same x (HC4.out 2 (by simp))), (chg_same x (HC4.out 3 (by simp))), (chg_same (CK7.out.trans' x) (HC.out 0 (by simp))), (Crv.cells3 P3c.out x), (Crv.cells3 P4c.out x), (Crv.cells3 P5c.out x)⟩ :
          W.cell? ⟨g4, o4 + 0, none⟩ = some (.int .i64 (u0 : Int)) ∧ W.cell? ⟨g4, o4 + 1, none⟩ = some (.int .i64 (u1 : Int)) ∧ W.cell? ⟨g4, o4 + 2, none⟩ = some (.int .i64 (u2 : Int)) ∧ W.cell? ⟨g4, o4 + 3, none⟩ = some (.int .i64 (u3 : Int)) ∧ W.cell? ⟨g, o + 0, none⟩ = some (.string x0) ∧
          (W.cell? ⟨y3.heap.size, 0, none⟩ = some (.int .u64 (c3.f : Int)) ∧ W.cell? ⟨y3.heap.size, 1, none⟩ = some (.int .u64 (c3.l : Int)) ∧ W.cell? ⟨y3.heap.size, 2, none⟩ = some (.int .u64 (c3.r : Int))) ∧
          (W.cell? ⟨y4.heap.size, 0, none⟩ = some (.int .u64 (c4.f : Int)) ∧ W.cell? ⟨y4.heap.size, 1, none⟩ = some (.int .u64 (c4.l : Int)) ∧ W.cell? ⟨y4.heap.size, 2, none⟩ = some (.int .u64 (c4.r : Int))) ∧
          (W.cell? ⟨y5.heap.size, 0, none⟩ = some (.int .u64 (c5.f : Int)) ∧ W.cell? ⟨y5.heap.size, 1, none⟩ = some (.int .u64 (c5.l : Int)) ∧ W.cell? ⟨y5.heap.size, 2, none⟩ = some (.int .u64 (c5.r : Int))))))
        go_wp2
        have G0 := fun x => (BB.out _ (chg_graft NoChg (y5.alloc (.cells #[.int .u64 (c5.f : Int), .int .u64 (c5.l : Int), .int .u64 (c5.r : Int)] 39)) x)).1
        have G1 := fun x => (BB.out _ (chg_graft NoChg (y5.alloc (.cells #[.int .u64 (c5.f : Int), .int .u64 (c5.l : Int), .int .u64 (c5.r : Int)] 39)) x)).2.1
        have G2 := fun x => (BB.out _ (chg_graft NoChg (y5.alloc (.cells #[.int .u64 (c5.f : Int), .int .u64 (c5.l : Int), .int .u64 (c5.r : Int)] 39)) x)).2.2.1
        have G3 := fun x => (BB.out _ (chg_graft NoChg (y5.alloc (.cells #[.int .u64 (c5.f : Int), .int .u64 (c5.l : Int), .int .u64 (c5.r : Int)] 39)) x)).2.2.2.1
        have G4 := fun x => (BB.out _ (chg_graft NoChg (y5.alloc (.cells #[.int .u64 (c5.f : Int), .int .u64 (c5.l : Int), .int .u64 (c5.r : Int)] 39)) x)).2.2.2.2.1
        have G5 := fun x => (BB.out _ (chg_graft NoChg (y5.alloc (.cells #[.int .u64 (c5.f : Int), .int .u64 (c5.l : Int), .int .u64 (c5.r : Int)] 39)) x)).2.2.2.2.2.1.1
        have G6 := fun x => (BB.out _ (chg_graft NoChg (y5.alloc (.cells #[.int .u64 (c5.f : Int), .int .u64 (c5.l : Int), .int .u64 (c5.r : Int)] 39)) x)).2.2.2.2.2.1.2.1
        have G7 := fun x => (BB.out _ (chg_graft NoChg (y5.alloc (.cells #[.int .u64 (c5.f : Int), .int .u64 (c5.l : Int), .int .u64 (c5.r : Int)] 39)) x)).2.2.2.2.2.1.2.2
        have G8 := fun x => (BB.out _ (chg_graft NoChg (y5.alloc (.cells #[.int .u64 (c5.f : Int), .int .u64 (c5.l : Int), .int .u64 (c5.r : Int)] 39)) x)).2.2.2.2.2.2.1.1
        have G9 := fun x => (BB.out _ (chg_graft NoChg (y5.alloc (.cells #[.int .u64 (c5.f : Int), .int .u64 (c5.l : Int), .int .u64 (c5.r : Int)] 39)) x)).2.2.2.2.2.2.1.2.1
        have G10 := fun x => (BB.out _ (chg_graft NoChg (y5.alloc (.cells #[.int .u64 (c5.f : Int), .int .u64 (c5.l : Int), .int .u64 (c5.r : Int)] 39)) x)).2.2.2.2.2.2.1.2.2
        have G11 := fun x => (BB.out _ (chg_graft NoChg (y5.alloc (.cells #[.int .u64 (c5.f : Int), .int .u64 (c5.l : Int), .int .u64 (c5.r : Int)] 39)) x)).2.2.2.2.2.2.2.1
        have G12 := fun x => (BB.out _ (chg_graft NoChg (y5.alloc (.cells #[.int .u64 (c5.f : Int), .int .u64 (c5.l : Int), .int .u64 (c5.r : Int)] 39)) x)).2.2.2.2.2.2.2.2.1
        have G13 := fun x => (BB.out _ (chg_graft NoChg (y5.alloc (.cells #[.int .u64 (c5.f : Int), .int .u64 (c5.l : Int), .int .u64 (c5.r : Int)] 39)) x)).2.2.2.2.2.2.2.2.2
        simp only [Nat.add_zero] at G0 G4
        refine wp_region_ord [0, 3, 6, 13, 16] [1, 2, 4, 5, 7, 8, 9, 10, 11, 12, 14, 15, 17, 18, 19] [] [20, 21] (graft (NoChg) ((y5.alloc (.cells #[.int .u64 (c5.f : Int), .int .u64 (c5.l : Int), .int .u64 (c5.r : Int)] 39)))) (by kernel_rfl) (by kernel_rfl) ?_ (graft_of_chg (by (repeat' (first | (with_reducible exact Chg.refl _ _) | (with_reducible assumption) | (with_reducible refine Chg.alloc ?_ _) | (with_reducible refine Chg.drewN ?_ _) | (with_reducible refine Chg.drew ?_) | (with_reducible refine Chg.setCell ?_ _ ?_) | (apply Or.inl; with_reducible rfl) | (apply Or.inl; simp; done) | (apply Or.inr; simp; done) | (apply Or.inr; simp; omega))))) ?_
        · exact fun _ _ _ _ _ h => h
        simp only [pick, List.getElem?_toArray, List.getElem?_cons_zero, List.getElem?_cons_succ]
        iterate 5 (refine wpYield_step (fun K hK => ?_); go_simp; refine hK _ ?_; clear hK K)
        refine wpYield_nil ?_
        iterate 15 (refine wpYield_step (fun K hK => ?_); go_simp; refine hK _ ?_; clear hK K)
        refine wpYield_nil ?_
        intro _ hw'
        obtain ⟨xo, hw''⟩ := hw'
        subst hw''
        simp only [wpMakes]
        have c3x := chg_graft NoChg (y5.alloc (.cells #[.int .u64 (c5.f : Int), .int .u64 (c5.l : Int), .int .u64 (c5.r : Int)] 39)) xo
        generalize graft NoChg (y5.alloc (.cells #[.int .u64 (c5.f : Int), .int .u64 (c5.l : Int), .int .u64 (c5.r : Int)] 39)) xo = w9 at c3x ⊢
        have CK9 := hide (CK7.out.trans' c3x)
        clear G0 G1 G2 G3 G4 G5 G6 G7 G8 G9 G10 G11 G12 G13 c3x
        obtain ⟨b0, b1, b2, b3, b4, b5, b6, b7, b8, b9, b10, b11, b12, b13⟩ := spc_cells0 (Chg.blk CK9.out B1.out (fun h => h))
        have f0 := fun i => Blk.frozen (Chg.blk CK9.out B1.out (fun h => h)) i
        have f00 := f0 0
        have f01 := f0 1
        have f02 := f0 2
        have f03 := f0 3
        have f04 := f0 4
        have f05 := f0 5
        have f06 := f0 6
        have f07 := f0 7
        have f08 := f0 8
        have f09 := f0 9
        have f010 := f0 10
        have f011 := f0 11
        have f012 := f0 12
        have f013 := f0 13
        have zz : w.heap.size < w9.heap.size := (Chg.blk CK9.out B1.out (fun h => h)).lt
        clear f0
        go_wp2
        refine bodyPost_ret (v := .tuple #[.agg #[.int .i64 (u0 : Int), .int .i64 (u1 : Int), .bool false, .int .u64 (c3.f : Int), .int .u64 (c3.l : Int), .int .u64 (c3.r : Int), .int .u64 (c4.f : Int), .int .u64 (c4.l : Int), .int .u64 (c4.r : Int), .int .u64 (c5.f : Int), .int .u64 (c5.l : Int), .int .u64 (c5.r : Int), .int .i64 (u2 : Int), .int .i64 (u3 : Int)], .int .i64 0]) (by simp [results, Tryd.results18, go_sem, b0, b1, b2, b3, b4, b5, b6, b7, b8, b9, b10, b11, b12, b13]) rfl ⟨.inl ⟨_, HP.out, rfl⟩, ?_⟩
        have C2 := C1.out.trans' CK9.out
        (repeat' (first | (with_reducible exact Chg.refl _ _) | (with_reducible assumption) | (with_reducible refine Chg.alloc ?_ _) | (with_reducible refine Chg.drewN ?_ _) | (with_reducible refine Chg.drew ?_) | (with_reducible refine Chg.setCell ?_ _ ?_) | (apply Or.inl; with_reducible rfl) | (apply Or.inl; simp; done) | (apply Or.inr; simp; done) | (apply Or.inr; simp; omega)))
      · have HN := hide (NoSp.crv HL.out.symm 5 _ rfl (by omega) h5)
        clear h5
        obtain ⟨b0, b1, b2, b3, b4, b5, b6, b7, b8, b9, b10, b11, b12, b13⟩ := spc_cells0 (Chg.blk CK7.out B1.out (fun h => h))
        have f0 := fun i => Blk.frozen (Chg.blk CK7.out B1.out (fun h => h)) i
        have f00 := f0 0
        have f01 := f0 1
        have f02 := f0 2
        have f03 := f0 3
        have f04 := f0 4
        have f05 := f0 5
        have f06 := f0 6
        have f07 := f0 7
        have f08 := f0 8
        have f09 := f0 9
        have f010 := f0 10
        have f011 := f0 11
        have f012 := f0 12
        have f013 := f0 13
        have zz : w.heap.size < (y5.alloc (.cells #[.int .u64 (c5.f : Int), .int .u64 (c5.l : Int), .int .u64 (c5.r : Int)] 39)).heap.size := (Chg.blk CK7.out B1.out (fun h => h)).lt
        clear f0
        go_wp2
        refine bodyPost_ret (v := .tuple #[.agg #[.int .i64 0, .int .i64 0, .bool false, .int .u64 0, .int .u64 0, .int .u64 0, .int .u64 0, .int .u64 0, .int .u64 0, .int .u64 0, .int .u64 0, .int .u64 0, .int .i64 0, .int .i64 0], .int .i64 2]) (by simp [results, Tryd.results18, go_sem, b0, b1, b2, b3, b4, b5, b6, b7, b8, b9, b10, b11, b12, b13]) rfl ⟨.inr ⟨HN.out, rfl⟩, ?_⟩
        have C2 := C1.out.trans' CK7.out
        (repeat' (first | (with_reducible exact Chg.refl _ _) | (with_reducible assumption) | (with_reducible refine Chg.alloc ?_ _) | (with_reducible refine Chg.drewN ?_ _) | (with_reducible refine Chg.drew ?_) | (with_reducible refine Chg.setCell ?_ _ ?_) | (apply Or.inl; with_reducible rfl) | (apply Or.inl; simp; done) | (apply Or.inr; simp; done) | (apply Or.inr; simp; omega)))
    · have HN := hide (NoSp.crv HL.out.symm 4 _ rfl (by omega) h4)
      clear h4
      obtain ⟨b0, b1, b2, b3, b4, b5, b6, b7, b8, b9, b10, b11, b12, b13⟩ := spc_cells0 (Chg.blk CK7.out B1.out (fun h => h))
      have f0 := fun i => Blk.frozen (Chg.blk CK7.out B1.out (fun h => h)) i
      have f00 := f0 0
      have f01 := f0 1
      have f02 := f0 2
      have f03 := f0 3
      have f04 := f0 4
      have f05 := f0 5
      have f06 := f0 6
      have f07 := f0 7
      have f08 := f0 8
      have f09 := f0 9
      have f010 := f0 10
      have f011 := f0 11
      have f012 := f0 12
      have f013 := f0 13
      have zz : w.heap.size < (y5.alloc (.cells #[.int .u64 (c5.f : Int), .int .u64 (c5.l : Int), .int .u64 (c5.r : Int)] 39)).heap.size := (Chg.blk CK7.out B1.out (fun h => h)).lt
      clear f0
      go_wp2
      refine bodyPost_ret (v := .tuple #[.agg #[.int .i64 0, .int .i64 0, .bool false, .int .u64 0, .int .u64 0, .int .u64 0, .int .u64 0, .int .u64 0, .int .u64 0, .int .u64 0, .int .u64 0, .int .u64 0, .int .i64 0, .int .i64 0], .int .i64 2]) (by simp [results, Tryd.results18, go_sem, b0, b1, b2, b3, b4, b5, b6, b7, b8, b9, b10, b11, b12, b13]) rfl ⟨.inr ⟨HN.out, rfl⟩, ?_⟩
      have C2 := C1.out.trans' CK7.out
      (repeat' (first | (with_reducible exact Chg.refl _ _) | (with_reducible assumption) | (with_reducible refine Chg.alloc ?_ _) | (with_reducible refine Chg.drewN ?_ _) | (with_reducible refine Chg.drew ?_) | (with_reducible refine Chg.setCell ?_ _ ?_) | (apply Or.inl; with_reducible rfl) | (apply Or.inl; simp; done) | (apply Or.inr; simp; done) | (apply Or.inr; simp; omega)))
  · have HN := hide (NoSp.crv HL.out.symm 3 _ rfl (by omega) h3)
    clear h3
    obtain ⟨b0, b1, b2, b3, b4, b5, b6, b7, b8, b9, b10, b11, b12, b13⟩ := spc_cells0 (Chg.blk CK7.out B1.out (fun h => h))
    have f0 := fun i => Blk.frozen (Chg.blk CK7.out B1.out (fun h => h)) i
    have f00 := f0 0
    have f01 := f0 1
    have f02 := f0 2
    have f03 := f0 3
    have f04 := f0 4
    have f05 := f0 5
    have f06 := f0 6
    have f07 := f0 7
    have f08 := f0 8
    have f09 := f0 9
    have f010 := f0 10
    have f011 := f0 11
    have f012 := f0 12
    have f013 := f0 13
    have zz : w.heap.size < (y5.alloc (.cells #[.int .u64 (c5.f : Int), .int .u64 (c5.l : Int), .int .u64 (c5.r : Int)] 39)).heap.size := (Chg.blk CK7.out B1.out (fun h => h)).lt
    clear f0
    go_wp2
    refine bodyPost_ret (v := .tuple #[.agg #[.int .i64 0, .int .i64 0, .bool false, .int .u64 0, .int .u64 0, .int .u64 0, .int .u64 0, .int .u64 0, .int .u64 0, .int .u64 0, .int .u64 0, .int .u64 0, .int .i64 0, .int .i64 0], .int .i64 2]) (by simp [results, Tryd.results18, go_sem, b0, b1, b2, b3, b4, b5, b6, b7, b8, b9, b10, b11, b12, b13]) rfl ⟨.inr ⟨HN.out, rfl⟩, ?_⟩
    have C2 := C1.out.trans' CK7.out
    (repeat' (first | (with_reducible exact Chg.refl _ _) | (with_reducible assumption) | (with_reducible refine Chg.alloc ?_ _) | (with_reducible refine Chg.drewN ?_ _) | (with_reducible refine Chg.drew ?_) | (with_reducible refine Chg.setCell ?_ _ ?_) | (apply Or.inl; with_reducible rfl) | (apply Or.inl; simp; done) | (apply Or.inr; simp; done) | (apply Or.inr; simp; omega)))

theorem r13Parse_any (s : ByteArray) (w : World) (hs : s.size ≤ 1000) : Calls Tryd.prog 18 #[.string s] w fun e w' => SpIs s.data.toList e ∧ Chg NoChg w w' := by
  by_cases h1 : (pieces 32 s.data.toList).length = 8 ∧ (pieces 32 s.data.toList)[0]? = some (kindW true)
  · exact r13Parse_true s w hs h1
  · by_cases h2 : (pieces 32 s.data.toList).length = 8 ∧ (pieces 32 s.data.toList)[0]? = some (kindW false)
    · exact r13Parse_false s w hs h2
    · exact r13Parse_other s w hs (fun b h => by cases b; exact h2 h; exact h1 h)
end Go.Proofs.YtofgajlpdnokdaaDoor
