/- A curve's word; a number as it is written. Conditions: the numbers fit 64 bits; the library's tables and errors are what it lays. -/
import Derived.Test.YtofgajlpdnokdaaGreatDoorWords
import Derived.Test.YtofgajlpdnokdaaGreatDoorSpecs
import Derived.Test.YtofgajlpdnokdaaGreatDoorShelfI
namespace Go.Proofs.YtofgajlpdnokdaaGreatDoor
set_option linter.unusedVariables false
open Go.Shelf Go.RowKit Go.Sort Go.Lib

theorem itoa_any (n : Nat) (h : n < 9223372036854775808) (w : World) (hd : Door w) : Calls Tryz.prog 18 #[.int .i64 (n : Int)] w fun e w' => e = .returned (.string (bs (Lib.decDigits n))) ∧ Chg NoChg w w' :=
  (Tryz.strconv_Itoa (n : Int) (by omega) (by omega) w hd.tab).mono fun e w' ⟨he, k, os, hw⟩ => ⟨by
    rw [he]
    unfold Lib.itoa
    rw [if_neg (by omega), Int.toNat_natCast]
    rfl, by rw [hw]; exact Chg.ofBelow (Lib.below_grow w.heap.size w (Nat.le_refl _) k os)⟩

theorem three0 (f l r : Int) (w : World) : (Instr.index 68 (.agg #[.int .u64 f, .int .u64 l, .int .u64 r]) (.int .i64 0)).run Tryz.prog w = .ok (.int .u64 f) w := by kernel_rfl
theorem three1 (f l r : Int) (w : World) : (Instr.index 68 (.agg #[.int .u64 f, .int .u64 l, .int .u64 r]) (.int .i64 1)).run Tryz.prog w = .ok (.int .u64 l) w := by kernel_rfl
theorem three2 (f l r : Int) (w : World) : (Instr.index 68 (.agg #[.int .u64 f, .int .u64 l, .int .u64 r]) (.int .i64 2)).run Tryz.prog w = .ok (.int .u64 r) w := by kernel_rfl
attribute [local go_sem] three0 three1 three2

/-- The state of the loop: the texts so far, in a slice of the call's own. -/
structure WS (w wk : World) (v : Value) (l : List ByteArray) : Prop where
  chg : Chg NoChg w wk
  own : Own strC 1 9 wk v l
  lt : ∀ g, v.ownBlock = some g → w.heap.size ≤ g
theorem WS.step {w wk wb w2 : World} {v v' : Value} {l : List ByteArray} {x : ByteArray} {o : Obj} (h : WS w wk v l) (cb : Chg NoChg wk wb) (hown : Own strC 1 9 w2 v' (l ++ [x]))
    (hc : Chg (fun k => v.ownBlock = some k) (wb.alloc o) w2) (hv : v'.ownBlock = v.ownBlock ∨ v'.ownBlock = some (wb.heap.size + 1)) : WS w w2 v' (l ++ [x]) :=
  ⟨((h.chg.trans' cb).alloc o).trans hc (fun k hk => .inr (h.lt k hk)), hown, own_next (h.chg.trans' cb) h.lt hv⟩

set_option maxRecDepth 100000 in
set_option maxHeartbeats 4000000 in
theorem s13Drawn_any (c : Crv) (hc : c.fits) (w : World) (hd : Door w) :
    Calls Tryz.prog 19 #[.agg #[.int .u64 (c.f : Int), .int .u64 (c.l : Int), .int .u64 (c.r : Int)]] w fun e w' => e = .returned (.string (bs (cw c))) ∧ Chg NoChg w w' := by
  have HD := hide hd
  have F0 := hide (fmt_any c.f hc.1)
  have F1 := hide (fmt_any c.l hc.2.1)
  have F2 := hide (fmt_any c.r hc.2.2)
  have L0 := hide (dec_length c.f hc.1)
  have L1 := hide (dec_length c.l hc.2.1)
  have L2 := hide (dec_length c.r hc.2.2)
  have T0 : Hid (WS w (w.alloc (.cells #[.int .u64 (c.f : Int), .int .u64 (c.l : Int), .int .u64 (c.r : Int)] 24)) (.slice none 0 0) []) := hide ⟨(Chg.refl NoChg w).alloc _, Own.nil _ _ _ _, fun g h => by cases h⟩
  clear hd hc
  go_enter Tryz.func19, Tryz.ntmps19
  go_wp2
  refine wp_loop_rounds 4 ?_
  rw [rounds_succ]
  go_wp2_with fail
  refine (F0.out _ (HD.out.keep T0.out.chg)).mono ?_
  rintro e wb ⟨rfl, cb⟩
  have CB := hide cb
  clear cb
  go_wp2_with (at_builtin; refine wpList_append_rec strR rfl (.tmp 16) (.tmp 19) rfl _ ([] : List ByteArray) rfl ((T0.out.own.keep CB.out (fun _ _ h => h)).keep ((Chg.refl NoChg wb).alloc _) (fun _ _ h => h)) _ _ [bs (Lib.decDigits c.f)] rfl ?a01 ?a02 ?a03 ?a04 ?a05)
  case a01 => intro h; cases h
  case a02 => exact Blk.row1 wb _ 9
  case a03 => simp [maxLen]
  case a04 => simp
  intro v1 w1 hown hcc hv
  have T1 := hide (T0.out.step CB.out hown hcc hv)
  clear hown hcc hv
  simp only [List.nil_append] at T1
  clear CB T0
  go_wp2
  rw [rounds_succ]
  go_wp2_with fail
  refine (F1.out _ (HD.out.keep T1.out.chg)).mono ?_
  rintro e wb ⟨rfl, cb⟩
  have CB := hide cb
  clear cb
  go_wp2_with (at_builtin; refine wpList_append_rec strR rfl (.tmp 16) (.tmp 19) rfl _ ([bs (Lib.decDigits c.f)] : List ByteArray) rfl ((T1.out.own.keep CB.out (fun _ _ h => h)).keep ((Chg.refl NoChg wb).alloc _) (fun _ _ h => h)) _ _ [bs (Lib.decDigits c.l)] rfl ?a11 ?a12 ?a13 ?a14 ?a15)
  case a11 => intro h; cases h
  case a12 => exact Blk.row1 wb _ 9
  case a13 => simp [maxLen]
  case a14 => simp
  intro v2 w2 hown hcc hv
  have T2 := hide (T1.out.step CB.out hown hcc hv)
  clear hown hcc hv
  simp only [List.nil_append, List.cons_append] at T2
  clear CB T1
  go_wp2
  rw [rounds_succ]
  go_wp2_with fail
  refine (F2.out _ (HD.out.keep T2.out.chg)).mono ?_
  rintro e wb ⟨rfl, cb⟩
  have CB := hide cb
  clear cb
  go_wp2_with (at_builtin; refine wpList_append_rec strR rfl (.tmp 16) (.tmp 19) rfl _ ([bs (Lib.decDigits c.f), bs (Lib.decDigits c.l)] : List ByteArray) rfl ((T2.out.own.keep CB.out (fun _ _ h => h)).keep ((Chg.refl NoChg wb).alloc _) (fun _ _ h => h)) _ _ [bs (Lib.decDigits c.r)] rfl ?a21 ?a22 ?a23 ?a24 ?a25)
  case a21 => intro h; cases h
  case a22 => exact Blk.row1 wb _ 9
  case a23 => simp [maxLen]
  case a24 => simp
  intro v3 w3 hown hcc hv
  have T3 := hide (T2.out.step CB.out hown hcc hv)
  clear hown hcc hv
  simp only [List.nil_append, List.cons_append] at T3
  clear CB T2
  go_wp2
  rw [rounds_succ]
  go_wp2_with fail
  refine (strJoin_any w3 v3 _ _ _ T3.out.own ?l1 (by simp)).mono ?_
  case l1 =>
    have h0 := L0.out
    have h1 := L1.out
    have h2 := L2.out
    simp [bs_list, Lib.join_cons, Lib.joinTail]
    omega
  rintro e w4 ⟨rfl, c4⟩
  have C4 := hide (T3.out.chg.trans' c4)
  clear c4
  go_wp2
  go_ret
  exact ⟨by simp [cw, bs_list], C4.out⟩

theorem Crv.cells3 {w w' : World} {b : Nat} {f l r : Int} (h : Blk w b #[.int .u64 f, .int .u64 l, .int .u64 r] 24) (c' : Chg NoChg w w') :
    w'.cell? ⟨b, 0, none⟩ = some (.int .u64 f) ∧ w'.cell? ⟨b, 1, none⟩ = some (.int .u64 l) ∧ w'.cell? ⟨b, 2, none⟩ = some (.int .u64 r) :=
  have h' := c'.blk h (fun h => h)
  ⟨h'.cell 0, h'.cell 1, h'.cell 2⟩

/-- Bytes, and what number tells of them. -/
def NumOk (l : List UInt8) (e : Ending) : Prop :=
  (∃ u : Nat, u < 18446744073709551616 ∧ l = Lib.decDigits u ∧ e = .returned (.tuple #[.int .u64 (u : Int), .bool true])) ∨
  ((∀ u : Nat, u < 18446744073709551616 → l ≠ Lib.decDigits u) ∧ ∃ m : Nat, e = .returned (.tuple #[.int .u64 (m : Int), .bool false]))

set_option maxRecDepth 100000 in
theorem s13Number_any (s : ByteArray) (w : World) (hd : Door w) (hs : s.size ≤ 1000) : Calls Tryz.prog 22 #[.string s] w fun e w' => NumOk s.data.toList e ∧ Chg NoChg w w' := by
  have HD := hide hd
  have HP := hide (parseU_any s w hd hs)
  clear hd
  go_enter Tryz.func22, Tryz.ntmps22
  go_wp2_with fail
  refine HP.out.mono ?_
  rintro e w1 ⟨hN, c1⟩
  have C1 := hide c1
  clear c1
  rcases hN with ⟨u, hu, hp, rfl⟩ | ⟨hno, m, N, rfl⟩
  · have HF := hide (fmt_any u hu)
    have HX : Hid (NumOk s.data.toList (.returned (.tuple #[.int .u64 (u : Int), .bool ((bs (Lib.decDigits u)).toList == s.toList)]))) := hide (by
      rw [ByteArray.toList_eq, ByteArray.toList_eq, bs_list]
      by_cases h : Lib.decDigits u = s.data.toList
      · exact .inl ⟨u, hu, h.symm, by simp [h]⟩
      · refine .inr ⟨fun v hv e => h ?_, u, by simp [h]⟩
        rw [e] at hp
        rw [parse_dec v hv] at hp
        simp only [Lib.NumEnd.ok.injEq] at hp
        rw [← hp, e])
    generalize Lib.decDigits u = d at HF HX
    clear hp hu
    go_wp2_with fail
    refine (HF.out _ (HD.out.keep C1.out)).mono ?_
    rintro e w2 ⟨rfl, c2⟩
    have C2 := hide (C1.out.trans' c2)
    clear c2
    go_wp2
    exact bodyPost_ret (v := .tuple #[.int .u64 (u : Int), .bool ((bs d).toList == s.toList)]) (by simp [results, Tryz.results22, go_sem]) rfl ⟨HX.out, C2.out⟩
  · have HX : Hid (NumOk s.data.toList (.returned (.tuple #[.int .u64 (m : Int), .bool false]))) := hide (.inr ⟨fun v hv e => hno v (by rw [e]; exact parse_dec v hv), m, rfl⟩)
    clear hno
    go_wp2
    exact bodyPost_ret (v := .tuple #[.int .u64 (m : Int), .bool false]) (by simp [results, Tryz.results22, go_sem]) rfl ⟨HX.out, C1.out⟩
end Go.Proofs.YtofgajlpdnokdaaGreatDoor
