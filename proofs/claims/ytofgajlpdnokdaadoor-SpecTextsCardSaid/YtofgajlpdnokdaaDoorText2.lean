/- packet.Text: four numbers in digits, with blanks between. Condition: the library's tables and errors are what it lays. -/
import Derived.Test.YtofgajlpdnokdaaDoorText
import Derived.RegionTactic
import Derived.ChangeAlike
namespace Go.Proofs.YtofgajlpdnokdaaDoor
set_option linter.unusedVariables false
open Go.Shelf Go.RowKit Go.Sort Go.Lib

theorem views0 (w : World) : (Instr.index 72 (.agg #[.func (.func 29) #[] #[], .func (.func 30) #[] #[], .func (.func 31) #[] #[], .func (.func 32) #[] #[]]) (.int .i64 0)).run Tryd.prog w = .ok (.func (.func 29) #[] #[]) w := by kernel_rfl
theorem views1 (w : World) : (Instr.index 72 (.agg #[.func (.func 29) #[] #[], .func (.func 30) #[] #[], .func (.func 31) #[] #[], .func (.func 32) #[] #[]]) (.int .i64 1)).run Tryd.prog w = .ok (.func (.func 30) #[] #[]) w := by kernel_rfl
theorem views2 (w : World) : (Instr.index 72 (.agg #[.func (.func 29) #[] #[], .func (.func 30) #[] #[], .func (.func 31) #[] #[], .func (.func 32) #[] #[]]) (.int .i64 2)).run Tryd.prog w = .ok (.func (.func 31) #[] #[]) w := by kernel_rfl
theorem views3 (w : World) : (Instr.index 72 (.agg #[.func (.func 29) #[] #[], .func (.func 30) #[] #[], .func (.func 31) #[] #[], .func (.func 32) #[] #[]]) (.int .i64 3)).run Tryd.prog w = .ok (.func (.func 32) #[] #[]) w := by kernel_rfl
attribute [local go_sem] views0 views1 views2 views3

set_option maxRecDepth 100000 in
theorem pkText_bad (i t : Nat) (c n : Int) (w : World) (h : c < 0 ∨ n < 0) :
    Calls Tryd.prog 9 #[.agg #[.int .u64 (i : Int), .int .i64 c, .int .i64 n, .int .u64 (t : Int)]] w fun e w' => e = .returned (.tuple #[.string ⟨#[]⟩, .int .i64 2]) ∧ Chg NoChg w w' := by
  by_cases hc : c < 0
  · go_enter Tryd.func9, Tryd.ntmps9
    go_wp2
    refine bodyPost_ret (v := .tuple #[.string ⟨#[]⟩, .int .i64 2]) (by simp [results, Tryd.results9, go_sem]) rfl ⟨rfl, ?_⟩
    (repeat' (first | (with_reducible exact Chg.refl _ _) | (with_reducible assumption) | (with_reducible refine Chg.alloc ?_ _) | (with_reducible refine Chg.drewN ?_ _) | (with_reducible refine Chg.drew ?_) | (with_reducible refine Chg.setCell ?_ _ ?_) | (apply Or.inl; with_reducible rfl) | (apply Or.inl; simp; done) | (apply Or.inr; simp; done) | (apply Or.inr; simp; omega)))
  · have hn : n < 0 := by omega
    have hc : decide (c < 0) = false := by simp; omega
    go_enter Tryd.func9, Tryd.ntmps9
    go_wp2
    refine bodyPost_ret (v := .tuple #[.string ⟨#[]⟩, .int .i64 2]) (by simp [results, Tryd.results9, go_sem]) rfl ⟨rfl, ?_⟩
    (repeat' (first | (with_reducible exact Chg.refl _ _) | (with_reducible assumption) | (with_reducible refine Chg.alloc ?_ _) | (with_reducible refine Chg.drewN ?_ _) | (with_reducible refine Chg.drew ?_) | (with_reducible refine Chg.setCell ?_ _ ?_) | (apply Or.inl; with_reducible rfl) | (apply Or.inl; simp; done) | (apply Or.inr; simp; done) | (apply Or.inr; simp; omega)))

/-- The state of the loop: box, the texts so far, in a slice of the call's own. -/
structure TS (box : Array Value) (w wk : World) (v : Value) (l : List ByteArray) : Prop where
  chg : Chg NoChg w wk
  blk : Blk wk w.heap.size box 24
  own : Own strC 1 9 wk v l
  lt : ∀ g, v.ownBlock = some g → w.heap.size < g
theorem TS.start (w : World) (box : Array Value) : TS box w (w.alloc (.cells box 24)) (.slice none 0 0) [] :=
  ⟨(Chg.refl NoChg w).alloc _, Blk.new w box 24, Own.nil _ _ _ _, fun g h => by cases h⟩
theorem TS.cells {i c n t : Int} {w wk : World} {v : Value} {l : List ByteArray} (h : TS #[.int .u64 i, .int .i64 c, .int .i64 n, .int .u64 t] w wk v l) :
    wk.cell? ⟨w.heap.size, 0, none⟩ = some (.int .u64 i) ∧ wk.cell? ⟨w.heap.size, 1, none⟩ = some (.int .i64 c) ∧ wk.cell? ⟨w.heap.size, 2, none⟩ = some (.int .i64 n) ∧ wk.cell? ⟨w.heap.size, 3, none⟩ = some (.int .u64 t) :=
  ⟨h.blk.cell 0, h.blk.cell 1, h.blk.cell 2, h.blk.cell 3⟩
theorem TS.step {box : Array Value} {w wk wb w2 : World} {v v' : Value} {l : List ByteArray} {x : ByteArray} {o : Obj} (h : TS box w wk v l) (cb : Chg NoChg wk wb) (hown : Own strC 1 9 w2 v' (l ++ [x]))
    (hc : Chg (fun k => v.ownBlock = some k) (wb.alloc o) w2) (hv : v'.ownBlock = v.ownBlock ∨ v'.ownBlock = some (wb.heap.size + 1)) : TS box w w2 v' (l ++ [x]) := by
  have hb := h.blk.lt
  have hs := cb.size
  have c1 : Chg (fun k => v.ownBlock = some k) wk w2 := ((cb.alloc o).mono (fun k hk => hk.elim)).trans' hc
  refine ⟨h.chg.trans c1 (fun k hk => .inr (by have := h.lt k hk; omega)), c1.blk h.blk (fun hk => by have := h.lt _ hk; omega), hown, fun g hg => ?_⟩
  rcases hv with e | e
  · rw [e] at hg; exact h.lt g hg
  · rw [e] at hg
    have := Option.some.inj hg
    omega

set_option maxRecDepth 100000 in
set_option maxHeartbeats 4000000 in
theorem pkText_good (i c n t : Nat) (hi : i < 18446744073709551616) (hc : c < 9223372036854775808) (hn : n < 9223372036854775808) (ht : t < 18446744073709551616) (w : World) (hd : Door w) :
    Calls Tryd.prog 9 #[.agg #[.int .u64 (i : Int), .int .i64 (c : Int), .int .i64 (n : Int), .int .u64 (t : Int)]] w fun e w' => e = .returned (.tuple #[.string (bs (pkText i c n t)), .int .i64 0]) ∧ Chg NoChg w w' := by
  have hc0 : decide ((c : Int) < 0) = false := by simp
  have hn0 : decide ((n : Int) < 0) = false := by simp
  have HD := hide hd
  have V0 := hide (vwId_any i t (c : Int) (n : Int))
  have V1 := hide (vwClass_any i t c (n : Int) hc)
  have V2 := hide (vwLength_any i t (c : Int) n hn)
  have V3 := hide (vwAt_any i t (c : Int) (n : Int))
  have F0 := hide (fmt_any i hi)
  have F1 := hide (fmt_any c (by omega))
  have F2 := hide (fmt_any n (by omega))
  have F3 := hide (fmt_any t ht)
  have L0 := hide (dec_length i hi)
  have L1 := hide (dec_length c (by omega))
  have L2 := hide (dec_length n (by omega))
  have L3 := hide (dec_length t ht)
  have T0 := hide (TS.start w #[.int .u64 (i : Int), .int .i64 (c : Int), .int .i64 (n : Int), .int .u64 (t : Int)])
  clear hd hi hc hn ht
  obtain ⟨a0, a1, a2, a3⟩ := T0.out.cells
  go_enter Tryd.func9, Tryd.ntmps9
  go_wp2
  refine wp_loop_rounds 5 ?_
  rw [rounds_succ]
  go_wp2_with fail
  refine (V0.out _).mono ?_
  rintro e wa ⟨rfl, ca⟩
  have CA := hide ca
  clear ca a0 a1 a2 a3
  go_wp2_with fail
  refine (F0.out _ (HD.out.keep (T0.out.chg.trans' CA.out))).mono ?_
  rintro e wb ⟨rfl, cb⟩
  have CB := hide (CA.out.trans' cb)
  clear cb CA
  go_wp2_with (at_builtin; refine wpList_append_rec strR rfl (.tmp 19) (.tmp 25) rfl _ ([] : List ByteArray) rfl ((T0.out.own.keep CB.out (fun _ _ h => h)).keep ((Chg.refl NoChg wb).alloc _) (fun _ _ h => h)) _ _ [bs (Lib.decDigits i)] rfl ?a01 ?a02 ?a03 ?a04 ?a05)
  case a01 => intro h; cases h
  case a02 => exact Blk.row1 wb _ 9
  case a03 => simp [maxLen]
  case a04 => simp
  intro v1 w1 hown hcc hv
  have T1 := hide (T0.out.step CB.out hown hcc hv)
  clear hown hcc hv
  simp only [List.nil_append] at T1
  clear CB T0
  obtain ⟨a0, a1, a2, a3⟩ := T1.out.cells
  go_wp2
  rw [rounds_succ]
  go_wp2_with fail
  refine (V1.out _).mono ?_
  rintro e wa ⟨rfl, ca⟩
  have CA := hide ca
  clear ca a0 a1 a2 a3
  go_wp2_with fail
  refine (F1.out _ (HD.out.keep (T1.out.chg.trans' CA.out))).mono ?_
  rintro e wb ⟨rfl, cb⟩
  have CB := hide (CA.out.trans' cb)
  clear cb CA
  go_wp2_with (at_builtin; refine wpList_append_rec strR rfl (.tmp 19) (.tmp 25) rfl _ ([bs (Lib.decDigits i)] : List ByteArray) rfl ((T1.out.own.keep CB.out (fun _ _ h => h)).keep ((Chg.refl NoChg wb).alloc _) (fun _ _ h => h)) _ _ [bs (Lib.decDigits c)] rfl ?a11 ?a12 ?a13 ?a14 ?a15)
  case a11 => intro h; cases h
  case a12 => exact Blk.row1 wb _ 9
  case a13 => simp [maxLen]
  case a14 => simp
  intro v2 w2 hown hcc hv
  have T2 := hide (T1.out.step CB.out hown hcc hv)
  clear hown hcc hv
  simp only [List.nil_append, List.cons_append] at T2
  clear CB T1
  obtain ⟨a0, a1, a2, a3⟩ := T2.out.cells
  go_wp2
  rw [rounds_succ]
  go_wp2_with fail
  refine (V2.out _).mono ?_
  rintro e wa ⟨rfl, ca⟩
  have CA := hide ca
  clear ca a0 a1 a2 a3
  go_wp2_with fail
  refine (F2.out _ (HD.out.keep (T2.out.chg.trans' CA.out))).mono ?_
  rintro e wb ⟨rfl, cb⟩
  have CB := hide (CA.out.trans' cb)
  clear cb CA
  go_wp2_with (at_builtin; refine wpList_append_rec strR rfl (.tmp 19) (.tmp 25) rfl _ ([bs (Lib.decDigits i), bs (Lib.decDigits c)] : List ByteArray) rfl ((T2.out.own.keep CB.out (fun _ _ h => h)).keep ((Chg.refl NoChg wb).alloc _) (fun _ _ h => h)) _ _ [bs (Lib.decDigits n)] rfl ?a21 ?a22 ?a23 ?a24 ?a25)
  case a21 => intro h; cases h
  case a22 => exact Blk.row1 wb _ 9
  case a23 => simp [maxLen]
  case a24 => simp
  intro v3 w3 hown hcc hv
  have T3 := hide (T2.out.step CB.out hown hcc hv)
  clear hown hcc hv
  simp only [List.nil_append, List.cons_append] at T3
  clear CB T2
  obtain ⟨a0, a1, a2, a3⟩ := T3.out.cells
  go_wp2
  rw [rounds_succ]
  go_wp2_with fail
  refine (V3.out _).mono ?_
  rintro e wa ⟨rfl, ca⟩
  have CA := hide ca
  clear ca a0 a1 a2 a3
  go_wp2_with fail
  refine (F3.out _ (HD.out.keep (T3.out.chg.trans' CA.out))).mono ?_
  rintro e wb ⟨rfl, cb⟩
  have CB := hide (CA.out.trans' cb)
  clear cb CA
  go_wp2_with (at_builtin; refine wpList_append_rec strR rfl (.tmp 19) (.tmp 25) rfl _ ([bs (Lib.decDigits i), bs (Lib.decDigits c), bs (Lib.decDigits n)] : List ByteArray) rfl ((T3.out.own.keep CB.out (fun _ _ h => h)).keep ((Chg.refl NoChg wb).alloc _) (fun _ _ h => h)) _ _ [bs (Lib.decDigits t)] rfl ?a31 ?a32 ?a33 ?a34 ?a35)
  case a31 => intro h; cases h
  case a32 => exact Blk.row1 wb _ 9
  case a33 => simp [maxLen]
  case a34 => simp
  intro v4 w4 hown hcc hv
  have T4 := hide (T3.out.step CB.out hown hcc hv)
  clear hown hcc hv
  simp only [List.nil_append, List.cons_append] at T4
  clear CB T3
  obtain ⟨a0, a1, a2, a3⟩ := T4.out.cells
  go_wp2
  rw [rounds_succ]
  go_wp2_with fail
  refine (strJoin_any w4 v4 _ _ _ T4.out.own ?l1 (by simp)).mono ?_
  case l1 =>
    have h0 := L0.out
    have h1 := L1.out
    have h2 := L2.out
    have h3 := L3.out
    simp [bs_list, Lib.join_cons, Lib.joinTail]
    omega
  rintro e w5 ⟨rfl, c5⟩
  have C5 := hide (T4.out.chg.trans' c5)
  clear c5 a0 a1 a2 a3
  go_wp2
  refine bodyPost_ret (v := .tuple #[.string (bs (pkText i c n t)), .int .i64 0]) (by simp [results, Tryd.results9, go_sem, pkText, bs_list]) rfl ⟨rfl, C5.out⟩
end Go.Proofs.YtofgajlpdnokdaaDoor
