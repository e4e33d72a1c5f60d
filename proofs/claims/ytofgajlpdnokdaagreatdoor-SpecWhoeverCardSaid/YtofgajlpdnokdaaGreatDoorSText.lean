/- spec.Text. Conditions: the numbers are those of their types; the library's tables and errors are what it lays. -/
import Derived.Test.YtofgajlpdnokdaaGreatDoorSPut
namespace Go.Proofs.YtofgajlpdnokdaaGreatDoor
set_option linter.unusedVariables false
open Go.Shelf Go.RowKit Go.Sort Go.Lib
attribute [local go_sem] yieldC

theorem run_min_int4 (ts : Array TypeId) (t : TypeId) (k : IntKind) (a b c d : Int) (w : World) : (Builtin.min_ ts t #[.int k a, .int k b, .int k c, .int k d]).run Tryz.prog w = .ok (.int k (min (min (min a b) c) d)) w := by
  have e : ∀ x y : Int, (if y < x then y else x) = min x y := by
    intro x y
    split <;> omega
  simp [Builtin.min_, Builtin.min2, e]
attribute [local go_sem] run_min_int4

theorem spc_cells {w : World} {g : Nat} {i p : Int} {b : Bool} {r h u : Crv} {k t : Int} (hb : Blk w g #[.int .i64 i, .int .i64 p, .bool b, .int .u64 (r.f : Int), .int .u64 (r.l : Int), .int .u64 (r.r : Int), .int .u64 (h.f : Int), .int .u64 (h.l : Int), .int .u64 (h.r : Int), .int .u64 (u.f : Int), .int .u64 (u.l : Int), .int .u64 (u.r : Int), .int .i64 k, .int .i64 t] 26) : w.cell? ⟨g, 0, none⟩ = some (.int .i64 i) ∧ w.cell? ⟨g, 1, none⟩ = some (.int .i64 p) ∧ w.cell? ⟨g, 2, none⟩ = some (.bool b) ∧ w.cell? ⟨g, 3, none⟩ = some (.int .u64 (r.f : Int)) ∧ w.cell? ⟨g, 4, none⟩ = some (.int .u64 (r.l : Int)) ∧ w.cell? ⟨g, 5, none⟩ = some (.int .u64 (r.r : Int)) ∧ w.cell? ⟨g, 6, none⟩ = some (.int .u64 (h.f : Int)) ∧ w.cell? ⟨g, 7, none⟩ = some (.int .u64 (h.l : Int)) ∧ w.cell? ⟨g, 8, none⟩ = some (.int .u64 (h.r : Int)) ∧ w.cell? ⟨g, 9, none⟩ = some (.int .u64 (u.f : Int)) ∧ w.cell? ⟨g, 10, none⟩ = some (.int .u64 (u.l : Int)) ∧ w.cell? ⟨g, 11, none⟩ = some (.int .u64 (u.r : Int)) ∧ w.cell? ⟨g, 12, none⟩ = some (.int .i64 k) ∧ w.cell? ⟨g, 13, none⟩ = some (.int .i64 t) :=
  ⟨hb.cell 0, hb.cell 1, hb.cell 2, hb.cell 3, hb.cell 4, hb.cell 5, hb.cell 6, hb.cell 7, hb.cell 8, hb.cell 9, hb.cell 10, hb.cell 11, hb.cell 12, hb.cell 13⟩

/-- Behind some puts. -/
structure TSt (i p : Int) (b : Bool) (r h u : Crv) (k t : Int) (w wk : World) (v : Value) (L : List ByteArray) : Prop where
  chg : Chg NoChg w wk
  box : Blk wk w.heap.size #[.int .i64 i, .int .i64 p, .bool b, .int .u64 (r.f : Int), .int .u64 (r.l : Int), .int .u64 (r.r : Int), .int .u64 (h.f : Int), .int .u64 (h.l : Int), .int .u64 (h.r : Int), .int .u64 (u.f : Int), .int .u64 (u.l : Int), .int .u64 (u.r : Int), .int .i64 k, .int .i64 t] 26
  lst : LSt (w.heap.size + 1) (w.heap.size + 2) wk v L
section
variable {i p : Int} {b : Bool} {r h u : Crv} {k t : Int} {w wk w2 : World} {v v2 : Value} {L L2 : List ByteArray}
theorem TSt.step (x : TSt i p b r h u k t w wk v L) (c : Chg (fun k => k = w.heap.size + 2 ∨ v.ownBlock = some k) wk w2) (l : LSt (w.heap.size + 1) (w.heap.size + 2) w2 v2 L2) : TSt i p b r h u k t w w2 v2 L2 :=
  ⟨x.chg.trans c (fun k hk => .inr (by rcases hk with hk | hk; omega; have := (x.lst.lt k hk).1; omega)), c.blk x.box (fun hk => by rcases hk with hk | hk; omega; have := (x.lst.lt _ hk).1; omega), l⟩
theorem TSt.big (x : TSt i p b r h u k t w wk v L) : w.heap.size + 2 < wk.heap.size := x.lst.blk.lt
end
theorem TSt.start (i p : Int) (b : Bool) (r h u : Crv) (k t : Int) (w : World) (x : ByteArray) : TSt i p b r h u k t w (((w.alloc (.cells #[.int .i64 i, .int .i64 p, .bool b, .int .u64 (r.f : Int), .int .u64 (r.l : Int), .int .u64 (r.r : Int), .int .u64 (h.f : Int), .int .u64 (h.l : Int), .int .u64 (h.r : Int), .int .u64 (u.f : Int), .int .u64 (u.l : Int), .int .u64 (u.r : Int), .int .i64 k, .int .i64 t] 26)).alloc (.cells #[.string x] 9)).alloc (.cells #[.slice (some ⟨w.heap.size + 1, 0, none⟩) 1 1] 46)) (.slice (some ⟨w.heap.size + 1, 0, none⟩) 1 1) [x] :=
  ⟨(((Chg.refl NoChg w).alloc _).alloc _).alloc _, ((Blk.new' _ _ rfl).alloc _).alloc _, ⟨Blk.new' _ _ (by simp), own_one ((Blk.new' _ _ (by simp)).alloc _), fun g hg => by
    have : w.heap.size + 1 = g := by simpa [Value.ownBlock] using hg
    omega⟩⟩

theorem Blk.row3 (w : World) (x y z : ByteArray) (e : TypeId) : RowAt strC 1 (w.alloc (.cells #[.string x, .string y, .string z] e)) (some ⟨w.heap.size, 0, none⟩) [x, y, z] := by
  intro i hi
  refine ⟨w.heap.size, 0, rfl, fun j q hq => ?_⟩
  have hj : j = 0 := by
    have := (List.getElem?_eq_some_iff.1 hq).1
    simpa [strC] using this
  subst hj
  rw [(Blk.new w #[.string x, .string y, .string z] e).cell]
  have hi3 : i < 3 := by simpa using hi
  match i, hi3 with
  | 0, _ => simpa [strC] using hq
  | 1, _ => simpa [strC] using hq
  | 2, _ => simpa [strC] using hq

set_option maxRecDepth 100000 in
set_option maxHeartbeats 4000000 in
theorem s13Text_bad (i p : Int) (b : Bool) (r h u : Crv) (k t : Int) (w : World) (hx : i < 0 ∨ p < 0 ∨ k < 0 ∨ t < 0) :
    Calls Tryz.prog 8 #[.agg #[.int .i64 i, .int .i64 p, .bool b, .int .u64 (r.f : Int), .int .u64 (r.l : Int), .int .u64 (r.r : Int), .int .u64 (h.f : Int), .int .u64 (h.l : Int), .int .u64 (h.r : Int), .int .u64 (u.f : Int), .int .u64 (u.l : Int), .int .u64 (u.r : Int), .int .i64 k, .int .i64 t]] w fun e w' => e = .returned (.tuple #[.string ⟨#[]⟩, .int .i64 2]) ∧ Chg NoChg w w' := by
  have hm : min (min (min i p) k) t < 0 := by omega
  cases b with
  | true =>
    go_enter Tryz.func8, Tryz.ntmps8
    go_wp2
    refine bodyPost_ret (v := .tuple #[.string ⟨#[]⟩, .int .i64 2]) (by simp [results, Tryz.results8, go_sem]) rfl ⟨rfl, ?_⟩
    (repeat' (first | (with_reducible exact Chg.refl _ _) | (with_reducible assumption) | (with_reducible refine Chg.alloc ?_ _) | (with_reducible refine Chg.drewN ?_ _) | (with_reducible refine Chg.drew ?_) | (with_reducible refine Chg.setCell ?_ _ ?_) | (apply Or.inl; with_reducible rfl) | (apply Or.inl; simp; done) | (apply Or.inr; simp; done) | (apply Or.inr; simp; omega)))
  | false =>
    go_enter Tryz.func8, Tryz.ntmps8
    go_wp2
    refine bodyPost_ret (v := .tuple #[.string ⟨#[]⟩, .int .i64 2]) (by simp [results, Tryz.results8, go_sem]) rfl ⟨rfl, ?_⟩
    (repeat' (first | (with_reducible exact Chg.refl _ _) | (with_reducible assumption) | (with_reducible refine Chg.alloc ?_ _) | (with_reducible refine Chg.drewN ?_ _) | (with_reducible refine Chg.drew ?_) | (with_reducible refine Chg.setCell ?_ _ ?_) | (apply Or.inl; with_reducible rfl) | (apply Or.inl; simp; done) | (apply Or.inr; simp; done) | (apply Or.inr; simp; omega)))

set_option maxRecDepth 100000 in
set_option maxHeartbeats 8000000 in
theorem s13Text_true (i p : Nat) (r h u : Crv) (k t : Nat) (hi : i < 9223372036854775808) (hp : p < 9223372036854775808) (hk : k < 9223372036854775808) (ht : t < 9223372036854775808) (hr : r.fits) (hh : h.fits) (hu : u.fits) (w : World) (hd : Door w) :
    Calls Tryz.prog 8 #[.agg #[.int .i64 (i : Int), .int .i64 (p : Int), .bool true, .int .u64 (r.f : Int), .int .u64 (r.l : Int), .int .u64 (r.r : Int), .int .u64 (h.f : Int), .int .u64 (h.l : Int), .int .u64 (h.r : Int), .int .u64 (u.f : Int), .int .u64 (u.l : Int), .int .u64 (u.r : Int), .int .i64 (k : Int), .int .i64 (t : Int)]] w fun e w' => e = .returned (.tuple #[.string (bs (sText ⟨(i : Int), (p : Int), true, r, h, u, (k : Int), (t : Int)⟩)), .int .i64 0]) ∧ Chg NoChg w w' := by
  have hm : ¬ min (min (min (i : Int) (p : Int)) (k : Int)) (t : Int) < 0 := by omega
  have HD := hide hd
  have D1 := hide (s13Drawn_any r hr)
  have D2 := hide (s13Drawn_any h hh)
  have D3 := hide (s13Drawn_any u hu)
  have HLEN := hide (sText_length (s := ⟨(i : Int), (p : Int), true, r, h, u, (k : Int), (t : Int)⟩) ⟨by dsimp only; omega, by dsimp only; omega, by dsimp only; omega, by dsimp only; omega⟩ ⟨by dsimp only; omega, by dsimp only; omega, by dsimp only; omega, by dsimp only; omega, hr, hh, hu⟩)
  have HT : Hid (sText ⟨(i : Int), (p : Int), true, r, h, u, (k : Int), (t : Int)⟩ = Lib.join ([bs [108, 101, 97, 102], bs (Lib.decDigits i), bs (Lib.decDigits p), bs (cw r), bs (cw h), bs (cw u), bs (Lib.decDigits k), bs (Lib.decDigits t)].map (fun b : ByteArray => b.data.toList)) [32]) := hide (by simp [sText, sWords, kindW, bs_list])
  generalize sText ⟨(i : Int), (p : Int), true, r, h, u, (k : Int), (t : Int)⟩ = TX at HLEN HT ⊢
  have T0 := hide (TSt.start (i : Int) (p : Int) true r h u (k : Int) (t : Int) w (bs [108, 101, 97, 102]))
  clear hd hr hh hu
  go_enter Tryz.func8, Tryz.ntmps8
  go_wp2_with fail
  have hw0 : ∃ w0, w0 = (((w.alloc (.cells #[.int .i64 (i : Int), .int .i64 (p : Int), .bool true, .int .u64 (r.f : Int), .int .u64 (r.l : Int), .int .u64 (r.r : Int), .int .u64 (h.f : Int), .int .u64 (h.l : Int), .int .u64 (h.r : Int), .int .u64 (u.f : Int), .int .u64 (u.l : Int), .int .u64 (u.r : Int), .int .i64 (k : Int), .int .i64 (t : Int)] 26)).alloc (.cells #[.string (bs [108, 101, 97, 102])] 9)).alloc (.cells #[.slice (some ⟨w.heap.size + 1, 0, none⟩) 1 1] 46)) := ⟨_, rfl⟩
  refine (s13Text1_any (w.heap.size + 1) (w.heap.size + 2) i (by omega) _ _ _ (by simp) (by simp) T0.out.lst (HD.out.keep T0.out.chg)).mono ?_
  clear hw0
  rintro e w1 ⟨rfl, v1, l1, c1⟩
  have T1 := hide (T0.out.step c1 l1)
  clear l1 c1 T0
  obtain ⟨a0, a1, a2, a3, a4, a5, a6, a7, a8, a9, a10, a11, a12, a13⟩ := spc_cells T1.out.box
  have zz := T1.out.big
  go_wp2_with fail
  refine (s13Text1_any (w.heap.size + 1) (w.heap.size + 2) p (by omega) w1 v1 _ (by have := T1.out.big; omega) (by simp) T1.out.lst (HD.out.keep T1.out.chg)).mono ?_
  rintro e w2 ⟨rfl, v2, l2, c2⟩
  have T2 := hide (T1.out.step c2 l2)
  clear l2 c2 T1 a0 a1 a2 a3 a4 a5 a6 a7 a8 a9 a10 a11 a12 a13 zz
  obtain ⟨a0, a1, a2, a3, a4, a5, a6, a7, a8, a9, a10, a11, a12, a13⟩ := spc_cells T2.out.box
  have zz := T2.out.big
  go_wp2
  have hcells : ∀ x, (graft NoChg w2 x).cell? ⟨w.heap.size + 2, 0, none⟩ = some v2 ∧ (graft NoChg w2 x).cell? ⟨w.heap.size, 3, none⟩ = some (.int .u64 (r.f : Int)) ∧ (graft NoChg w2 x).cell? ⟨w.heap.size, 4, none⟩ = some (.int .u64 (r.l : Int)) ∧ (graft NoChg w2 x).cell? ⟨w.heap.size, 5, none⟩ = some (.int .u64 (r.r : Int)) ∧ (graft NoChg w2 x).cell? ⟨w.heap.size, 6, none⟩ = some (.int .u64 (h.f : Int)) ∧ (graft NoChg w2 x).cell? ⟨w.heap.size, 7, none⟩ = some (.int .u64 (h.l : Int)) ∧ (graft NoChg w2 x).cell? ⟨w.heap.size, 8, none⟩ = some (.int .u64 (h.r : Int)) ∧ (graft NoChg w2 x).cell? ⟨w.heap.size, 9, none⟩ = some (.int .u64 (u.f : Int)) ∧ (graft NoChg w2 x).cell? ⟨w.heap.size, 10, none⟩ = some (.int .u64 (u.l : Int)) ∧ (graft NoChg w2 x).cell? ⟨w.heap.size, 11, none⟩ = some (.int .u64 (u.r : Int)) := fun x => by
    have q := spc_cells ((chg_graft NoChg w2 x).blk T2.out.box (fun h => h))
    exact ⟨((chg_graft NoChg w2 x).blk T2.out.lst.blk (fun h => h)).cell 0, q.2.2.2.1, q.2.2.2.2.1, q.2.2.2.2.2.1, q.2.2.2.2.2.2.1, q.2.2.2.2.2.2.2.1, q.2.2.2.2.2.2.2.2.1, q.2.2.2.2.2.2.2.2.2.1, q.2.2.2.2.2.2.2.2.2.2.1, q.2.2.2.2.2.2.2.2.2.2.2.1⟩
  have e0 := fun x => (hcells x).1
  have e3 := fun x => (hcells x).2.1
  have e4 := fun x => (hcells x).2.2.1
  have e5 := fun x => (hcells x).2.2.2.1
  have e6 := fun x => (hcells x).2.2.2.2.1
  have e7 := fun x => (hcells x).2.2.2.2.2.1
  have e8 := fun x => (hcells x).2.2.2.2.2.2.1
  have e9 := fun x => (hcells x).2.2.2.2.2.2.2.1
  have e10 := fun x => (hcells x).2.2.2.2.2.2.2.2.1
  have e11 := fun x => (hcells x).2.2.2.2.2.2.2.2.2
  clear hcells a0 a1 a2 a3 a4 a5 a6 a7 a8 a9 a10 a11 a12 a13 zz hm
  refine wp_region_ord [] [0, 1, 2, 4, 5, 7, 8] [3, 6, 9, 10] [11, 12] (graft (NoChg) (w2)) (by kernel_rfl) (by kernel_rfl) ?_ (graft_of_chg (by (repeat' (first | (with_reducible exact Chg.refl _ _) | (with_reducible assumption) | (with_reducible refine Chg.alloc ?_ _) | (with_reducible refine Chg.drewN ?_ _) | (with_reducible refine Chg.drew ?_) | (with_reducible refine Chg.setCell ?_ _ ?_) | (apply Or.inl; with_reducible rfl) | (apply Or.inl; simp; done) | (apply Or.inr; simp; done) | (apply Or.inr; simp; omega))))) ?_
  · exact fun _ _ _ _ _ h => h
  simp only [pick, List.getElem?_toArray, List.getElem?_cons_zero, List.getElem?_cons_succ]
  refine wpYield_nil ?_
  iterate 7 (refine wpYield_step (fun K hK => ?_); go_simp; refine hK _ ?_; clear hK K)
  refine wpYield_nil ?_
  intro _ hw'
  obtain ⟨xo, hw''⟩ := hw'
  subst hw''
  simp only [wpMakes]
  have c3 := chg_graft NoChg w2 xo
  generalize graft NoChg w2 xo = w3 at c3 ⊢
  clear e0 e3 e4 e5 e6 e7 e8 e9 e10 e11
  go_wp2_with fail
  refine (D1.out _ (HD.out.keep (T2.out.chg.trans' c3))).mono ?_
  rintro e w4 ⟨rfl, d4⟩
  have c4 := c3.trans' d4
  clear d4 c3
  go_wp2
  refine ⟨graft_of_chg c4, ?_⟩
  go_wp2_with fail
  refine (D2.out _ (HD.out.keep (T2.out.chg.trans' c4))).mono ?_
  rintro e w5 ⟨rfl, d5⟩
  have c5 := c4.trans' d5
  clear d5 c4
  go_wp2
  refine ⟨graft_of_chg c5, ?_⟩
  go_wp2_with fail
  refine (D3.out _ (HD.out.keep (T2.out.chg.trans' c5))).mono ?_
  rintro e w6 ⟨rfl, d6⟩
  have c6 := c5.trans' d6
  clear d6 c5
  go_wp2
  refine ⟨graft_of_chg c6, ?_⟩
  go_wp2
  refine ⟨graft_of_chg (c6.alloc _), ?_⟩
  have C6 := hide c6
  clear c6
  go_wp2_with (at_builtin; refine wpList_append_rec strR rfl (.tmp 30) (.tmp 40) rfl _ _ rfl ((T2.out.lst.own.keep C6.out (fun _ _ h => h)).keep ((Chg.refl NoChg _).alloc _) (fun _ _ h => h)) _ _ [bs (cw r), bs (cw h), bs (cw u)] rfl ?a1 ?a2 ?a3 ?a4 ?a5)
  try (case a1 => intro h; cases h)
  case a2 => exact Blk.row3 _ _ _ _ 9
  case a3 => (try unfold maxLen); simp
  case a4 => simp
  intro v3 w7 hown hcc hv
  have HP := hide (T2.out.lst.put (by have := T2.out.big; omega) C6.out hown hcc hv)
  have hb2 := (hcc.blk ((C6.out.blk T2.out.lst.blk (fun h => h)).alloc _) (fun hk => (T2.out.lst.lt _ hk).2 rfl))
  have q0 := hb2.cell 0
  have q1 := hb2.frozen 0
  simp at q0
  have hb3 := hcc.blk ((C6.out.blk T2.out.box (fun h => h)).alloc (.cells #[.string (bs (cw r)), .string (bs (cw h)), .string (bs (cw u))] 9)) (fun hk => by have := (T2.out.lst.lt _ hk).1; omega)
  obtain ⟨a0, a1, a2, a3, a4, a5, a6, a7, a8, a9, a10, a11, a12, a13⟩ := spc_cells hb3
  obtain ⟨a2x, cap2, e2, -⟩ := Own.row (sz := 1) (cells := strC) (fun _ => rfl) hown
  simp only [List.length_cons, List.length_nil, Nat.zero_add, Nat.reduceAdd] at e2
  subst e2
  clear hown hcc hv hb2 hb3 C6
  have T3 := hide (T2.out.step HP.out.2 HP.out.1)
  clear HP T2
  go_wp2_with fail
  refine (s13Text1_any (w.heap.size + 1) (w.heap.size + 2) k (by omega) _ _ _ (by have := T3.out.big; omega) (by simp) T3.out.lst (HD.out.keep T3.out.chg)).mono ?_
  rintro e w8 ⟨rfl, v8, l8, c8⟩
  have T8 := hide (T3.out.step c8 l8)
  clear l8 c8 T3 a0 a1 a2 a3 a4 a5 a6 a7 a8 a9 a10 a11 a12 a13 q0 q1
  obtain ⟨a0, a1, a2, a3, a4, a5, a6, a7, a8, a9, a10, a11, a12, a13⟩ := spc_cells T8.out.box
  have zz := T8.out.big
  go_wp2_with fail
  refine (s13Text1_any (w.heap.size + 1) (w.heap.size + 2) t (by omega) w8 v8 _ (by have := T8.out.big; omega) (by simp) T8.out.lst (HD.out.keep T8.out.chg)).mono ?_
  rintro e w9 ⟨rfl, v9, l9, c9⟩
  have T9 := hide (T8.out.step c9 l9)
  clear l9 c9 T8 a0 a1 a2 a3 a4 a5 a6 a7 a8 a9 a10 a11 a12 a13 zz
  obtain ⟨a0, a1, a2, a3, a4, a5, a6, a7, a8, a9, a10, a11, a12, a13⟩ := spc_cells T9.out.box
  have zz := T9.out.big
  have hl9 := T9.out.lst.blk.cell 0
  simp at hl9
  have HOW := hide T9.out.lst.own
  simp only [List.cons_append, List.nil_append] at HOW
  go_wp2_with fail
  refine (strJoin_any w9 v9 _ _ _ HOW.out ?l1 (by simp)).mono ?_
  case l1 =>
    have h0 := HLEN.out
    rw [HT.out] at h0
    simp only [List.map_cons, List.map_nil] at h0 ⊢
    refine Nat.le_trans ?_ (Nat.le_trans h0 (by omega))
    exact Nat.le_refl _
  rintro e w10 ⟨rfl, c10⟩
  have C10 := hide (T9.out.chg.trans' c10)
  clear c10 a0 a1 a2 a3 a4 a5 a6 a7 a8 a9 a10 a11 a12 a13 zz hl9
  go_wp2
  refine bodyPost_ret (v := .tuple #[.string (bs TX), .int .i64 0]) (by simp [results, Tryz.results8, go_sem, HT.out]) rfl ⟨rfl, C10.out⟩

set_option maxRecDepth 100000 in
set_option maxHeartbeats 8000000 in
theorem s13Text_false (i p : Nat) (r h u : Crv) (k t : Nat) (hi : i < 9223372036854775808) (hp : p < 9223372036854775808) (hk : k < 9223372036854775808) (ht : t < 9223372036854775808) (hr : r.fits) (hh : h.fits) (hu : u.fits) (w : World) (hd : Door w) :
    Calls Tryz.prog 8 #[.agg #[.int .i64 (i : Int), .int .i64 (p : Int), .bool false, .int .u64 (r.f : Int), .int .u64 (r.l : Int), .int .u64 (r.r : Int), .int .u64 (h.f : Int), .int .u64 (h.l : Int), .int .u64 (h.r : Int), .int .u64 (u.f : Int), .int .u64 (u.l : Int), .int .u64 (u.r : Int), .int .i64 (k : Int), .int .i64 (t : Int)]] w fun e w' => e = .returned (.tuple #[.string (bs (sText ⟨(i : Int), (p : Int), false, r, h, u, (k : Int), (t : Int)⟩)), .int .i64 0]) ∧ Chg NoChg w w' := by
  have hm : ¬ min (min (min (i : Int) (p : Int)) (k : Int)) (t : Int) < 0 := by omega
  have HD := hide hd
  have D1 := hide (s13Drawn_any r hr)
  have D2 := hide (s13Drawn_any h hh)
  have D3 := hide (s13Drawn_any u hu)
  have HLEN := hide (sText_length (s := ⟨(i : Int), (p : Int), false, r, h, u, (k : Int), (t : Int)⟩) ⟨by dsimp only; omega, by dsimp only; omega, by dsimp only; omega, by dsimp only; omega⟩ ⟨by dsimp only; omega, by dsimp only; omega, by dsimp only; omega, by dsimp only; omega, hr, hh, hu⟩)
  have HT : Hid (sText ⟨(i : Int), (p : Int), false, r, h, u, (k : Int), (t : Int)⟩ = Lib.join ([bs [105, 110, 110, 101, 114], bs (Lib.decDigits i), bs (Lib.decDigits p), bs (cw r), bs (cw h), bs (cw u), bs (Lib.decDigits k), bs (Lib.decDigits t)].map (fun b : ByteArray => b.data.toList)) [32]) := hide (by simp [sText, sWords, kindW, bs_list])
  generalize sText ⟨(i : Int), (p : Int), false, r, h, u, (k : Int), (t : Int)⟩ = TX at HLEN HT ⊢
  have T0 := hide (TSt.start (i : Int) (p : Int) false r h u (k : Int) (t : Int) w (bs [105, 110, 110, 101, 114]))
  clear hd hr hh hu
  go_enter Tryz.func8, Tryz.ntmps8
  go_wp2_with fail
  have hw0 : ∃ w0, w0 = (((w.alloc (.cells #[.int .i64 (i : Int), .int .i64 (p : Int), .bool false, .int .u64 (r.f : Int), .int .u64 (r.l : Int), .int .u64 (r.r : Int), .int .u64 (h.f : Int), .int .u64 (h.l : Int), .int .u64 (h.r : Int), .int .u64 (u.f : Int), .int .u64 (u.l : Int), .int .u64 (u.r : Int), .int .i64 (k : Int), .int .i64 (t : Int)] 26)).alloc (.cells #[.string (bs [105, 110, 110, 101, 114])] 9)).alloc (.cells #[.slice (some ⟨w.heap.size + 1, 0, none⟩) 1 1] 46)) := ⟨_, rfl⟩
  refine (s13Text1_any (w.heap.size + 1) (w.heap.size + 2) i (by omega) _ _ _ (by simp) (by simp) T0.out.lst (HD.out.keep T0.out.chg)).mono ?_
  clear hw0
  rintro e w1 ⟨rfl, v1, l1, c1⟩
  have T1 := hide (T0.out.step c1 l1)
  clear l1 c1 T0
  obtain ⟨a0, a1, a2, a3, a4, a5, a6, a7, a8, a9, a10, a11, a12, a13⟩ := spc_cells T1.out.box
  have zz := T1.out.big
  go_wp2_with fail
  refine (s13Text1_any (w.heap.size + 1) (w.heap.size + 2) p (by omega) w1 v1 _ (by have := T1.out.big; omega) (by simp) T1.out.lst (HD.out.keep T1.out.chg)).mono ?_
  rintro e w2 ⟨rfl, v2, l2, c2⟩
  have T2 := hide (T1.out.step c2 l2)
  clear l2 c2 T1 a0 a1 a2 a3 a4 a5 a6 a7 a8 a9 a10 a11 a12 a13 zz
  obtain ⟨a0, a1, a2, a3, a4, a5, a6, a7, a8, a9, a10, a11, a12, a13⟩ := spc_cells T2.out.box
  have zz := T2.out.big
  go_wp2
  have hcells : ∀ x, (graft NoChg w2 x).cell? ⟨w.heap.size + 2, 0, none⟩ = some v2 ∧ (graft NoChg w2 x).cell? ⟨w.heap.size, 3, none⟩ = some (.int .u64 (r.f : Int)) ∧ (graft NoChg w2 x).cell? ⟨w.heap.size, 4, none⟩ = some (.int .u64 (r.l : Int)) ∧ (graft NoChg w2 x).cell? ⟨w.heap.size, 5, none⟩ = some (.int .u64 (r.r : Int)) ∧ (graft NoChg w2 x).cell? ⟨w.heap.size, 6, none⟩ = some (.int .u64 (h.f : Int)) ∧ (graft NoChg w2 x).cell? ⟨w.heap.size, 7, none⟩ = some (.int .u64 (h.l : Int)) ∧ (graft NoChg w2 x).cell? ⟨w.heap.size, 8, none⟩ = some (.int .u64 (h.r : Int)) ∧ (graft NoChg w2 x).cell? ⟨w.heap.size, 9, none⟩ = some (.int .u64 (u.f : Int)) ∧ (graft NoChg w2 x).cell? ⟨w.heap.size, 10, none⟩ = some (.int .u64 (u.l : Int)) ∧ (graft NoChg w2 x).cell? ⟨w.heap.size, 11, none⟩ = some (.int .u64 (u.r : Int)) := fun x => by
    have q := spc_cells ((chg_graft NoChg w2 x).blk T2.out.box (fun h => h))
    exact ⟨((chg_graft NoChg w2 x).blk T2.out.lst.blk (fun h => h)).cell 0, q.2.2.2.1, q.2.2.2.2.1, q.2.2.2.2.2.1, q.2.2.2.2.2.2.1, q.2.2.2.2.2.2.2.1, q.2.2.2.2.2.2.2.2.1, q.2.2.2.2.2.2.2.2.2.1, q.2.2.2.2.2.2.2.2.2.2.1, q.2.2.2.2.2.2.2.2.2.2.2.1⟩
  have e0 := fun x => (hcells x).1
  have e3 := fun x => (hcells x).2.1
  have e4 := fun x => (hcells x).2.2.1
  have e5 := fun x => (hcells x).2.2.2.1
  have e6 := fun x => (hcells x).2.2.2.2.1
  have e7 := fun x => (hcells x).2.2.2.2.2.1
  have e8 := fun x => (hcells x).2.2.2.2.2.2.1
  have e9 := fun x => (hcells x).2.2.2.2.2.2.2.1
  have e10 := fun x => (hcells x).2.2.2.2.2.2.2.2.1
  have e11 := fun x => (hcells x).2.2.2.2.2.2.2.2.2
  clear hcells a0 a1 a2 a3 a4 a5 a6 a7 a8 a9 a10 a11 a12 a13 zz hm
  refine wp_region_ord [] [0, 1, 2, 4, 5, 7, 8] [3, 6, 9, 10] [11, 12] (graft (NoChg) (w2)) (by kernel_rfl) (by kernel_rfl) ?_ (graft_of_chg (by (repeat' (first | (with_reducible exact Chg.refl _ _) | (with_reducible assumption) | (with_reducible refine Chg.alloc ?_ _) | (with_reducible refine Chg.drewN ?_ _) | (with_reducible refine Chg.drew ?_) | (with_reducible refine Chg.setCell ?_ _ ?_) | (apply Or.inl; with_reducible rfl) | (apply Or.inl; simp; done) | (apply Or.inr; simp; done) | (apply Or.inr; simp; omega))))) ?_
  · exact fun _ _ _ _ _ h => h
  simp only [pick, List.getElem?_toArray, List.getElem?_cons_zero, List.getElem?_cons_succ]
  refine wpYield_nil ?_
  iterate 7 (refine wpYield_step (fun K hK => ?_); go_simp; refine hK _ ?_; clear hK K)
  refine wpYield_nil ?_
  intro _ hw'
  obtain ⟨xo, hw''⟩ := hw'
  subst hw''
  simp only [wpMakes]
  have c3 := chg_graft NoChg w2 xo
  generalize graft NoChg w2 xo = w3 at c3 ⊢
  clear e0 e3 e4 e5 e6 e7 e8 e9 e10 e11
  go_wp2_with fail
  refine (D1.out _ (HD.out.keep (T2.out.chg.trans' c3))).mono ?_
  rintro e w4 ⟨rfl, d4⟩
  have c4 := c3.trans' d4
  clear d4 c3
  go_wp2
  refine ⟨graft_of_chg c4, ?_⟩
  go_wp2_with fail
  refine (D2.out _ (HD.out.keep (T2.out.chg.trans' c4))).mono ?_
  rintro e w5 ⟨rfl, d5⟩
  have c5 := c4.trans' d5
  clear d5 c4
  go_wp2
  refine ⟨graft_of_chg c5, ?_⟩
  go_wp2_with fail
  refine (D3.out _ (HD.out.keep (T2.out.chg.trans' c5))).mono ?_
  rintro e w6 ⟨rfl, d6⟩
  have c6 := c5.trans' d6
  clear d6 c5
  go_wp2
  refine ⟨graft_of_chg c6, ?_⟩
  go_wp2
  refine ⟨graft_of_chg (c6.alloc _), ?_⟩
  have C6 := hide c6
  clear c6
  go_wp2_with (at_builtin; refine wpList_append_rec strR rfl (.tmp 30) (.tmp 40) rfl _ _ rfl ((T2.out.lst.own.keep C6.out (fun _ _ h => h)).keep ((Chg.refl NoChg _).alloc _) (fun _ _ h => h)) _ _ [bs (cw r), bs (cw h), bs (cw u)] rfl ?a1 ?a2 ?a3 ?a4 ?a5)
  try (case a1 => intro h; cases h)
  case a2 => exact Blk.row3 _ _ _ _ 9
  case a3 => (try unfold maxLen); simp
  case a4 => simp
  intro v3 w7 hown hcc hv
  have HP := hide (T2.out.lst.put (by have := T2.out.big; omega) C6.out hown hcc hv)
  have hb2 := (hcc.blk ((C6.out.blk T2.out.lst.blk (fun h => h)).alloc _) (fun hk => (T2.out.lst.lt _ hk).2 rfl))
  have q0 := hb2.cell 0
  have q1 := hb2.frozen 0
  simp at q0
  have hb3 := hcc.blk ((C6.out.blk T2.out.box (fun h => h)).alloc (.cells #[.string (bs (cw r)), .string (bs (cw h)), .string (bs (cw u))] 9)) (fun hk => by have := (T2.out.lst.lt _ hk).1; omega)
  obtain ⟨a0, a1, a2, a3, a4, a5, a6, a7, a8, a9, a10, a11, a12, a13⟩ := spc_cells hb3
  obtain ⟨a2x, cap2, e2, -⟩ := Own.row (sz := 1) (cells := strC) (fun _ => rfl) hown
  simp only [List.length_cons, List.length_nil, Nat.zero_add, Nat.reduceAdd] at e2
  subst e2
  clear hown hcc hv hb2 hb3 C6
  have T3 := hide (T2.out.step HP.out.2 HP.out.1)
  clear HP T2
  go_wp2_with fail
  refine (s13Text1_any (w.heap.size + 1) (w.heap.size + 2) k (by omega) _ _ _ (by have := T3.out.big; omega) (by simp) T3.out.lst (HD.out.keep T3.out.chg)).mono ?_
  rintro e w8 ⟨rfl, v8, l8, c8⟩
  have T8 := hide (T3.out.step c8 l8)
  clear l8 c8 T3 a0 a1 a2 a3 a4 a5 a6 a7 a8 a9 a10 a11 a12 a13 q0 q1
  obtain ⟨a0, a1, a2, a3, a4, a5, a6, a7, a8, a9, a10, a11, a12, a13⟩ := spc_cells T8.out.box
  have zz := T8.out.big
  go_wp2_with fail
  refine (s13Text1_any (w.heap.size + 1) (w.heap.size + 2) t (by omega) w8 v8 _ (by have := T8.out.big; omega) (by simp) T8.out.lst (HD.out.keep T8.out.chg)).mono ?_
  rintro e w9 ⟨rfl, v9, l9, c9⟩
  have T9 := hide (T8.out.step c9 l9)
  clear l9 c9 T8 a0 a1 a2 a3 a4 a5 a6 a7 a8 a9 a10 a11 a12 a13 zz
  obtain ⟨a0, a1, a2, a3, a4, a5, a6, a7, a8, a9, a10, a11, a12, a13⟩ := spc_cells T9.out.box
  have zz := T9.out.big
  have hl9 := T9.out.lst.blk.cell 0
  simp at hl9
  have HOW := hide T9.out.lst.own
  simp only [List.cons_append, List.nil_append] at HOW
  go_wp2_with fail
  refine (strJoin_any w9 v9 _ _ _ HOW.out ?l1 (by simp)).mono ?_
  case l1 =>
    have h0 := HLEN.out
    rw [HT.out] at h0
    simp only [List.map_cons, List.map_nil] at h0 ⊢
    refine Nat.le_trans ?_ (Nat.le_trans h0 (by omega))
    exact Nat.le_refl _
  rintro e w10 ⟨rfl, c10⟩
  have C10 := hide (T9.out.chg.trans' c10)
  clear c10 a0 a1 a2 a3 a4 a5 a6 a7 a8 a9 a10 a11 a12 a13 zz hl9
  go_wp2
  refine bodyPost_ret (v := .tuple #[.string (bs TX), .int .i64 0]) (by simp [results, Tryz.results8, go_sem, HT.out]) rfl ⟨rfl, C10.out⟩

end Go.Proofs.YtofgajlpdnokdaaGreatDoor
