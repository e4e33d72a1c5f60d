/- spec.Parse, walked. Conditions: at most 1000 bytes; the library's tables and errors are what it lays. -/
import Derived.Test.YtofgajlpdnokdaaGreatDoorSPState
import Derived.Test.YtofgajlpdnokdaaGreatDoorSIs
namespace Go.Proofs.YtofgajlpdnokdaaGreatDoor
set_option linter.unusedVariables false
open Go.Shelf Go.RowKit Go.Sort Go.Lib

/-- The three words of curves are curves'. -/
def OkC (l : List UInt8) : Prop := ∀ k, 3 ≤ k → k < 6 → ∀ x, (pieces 32 l)[k]? = some x → ∃ c, IsCw x c

theorem sp_same {text : List UInt8} {x0 x1 x2 x3 x4 x5 x6 x7 : ByteArray} {i p : Nat} {b : Bool} {r h u : Crv} {k t : Nat} (hL : ([x0, x1, x2, x3, x4, x5, x6, x7] : List ByteArray).map (fun b : ByteArray => b.data.toList) = pieces 32 text) (hb : (x0.toList == [108, 101, 97, 102]) = b)
    (h1 : x1.data.toList = Lib.decDigits i) (h2 : x2.data.toList = Lib.decDigits p) (h3 : x3.data.toList = cw r) (h4 : x4.data.toList = cw h) (h5 : x5.data.toList = cw u) (h6 : x6.data.toList = Lib.decDigits k) (h7 : x7.data.toList = Lib.decDigits t) {s' : Spc} (hs : IsSp text s') :
    s' = ⟨(i : Int), (p : Int), b, r, h, u, (k : Int), (t : Int)⟩ := by
  rw [hs.words] at hL
  obtain ⟨_, ⟨n0, n1, n2, n3⟩, _⟩ := hs
  simp only [List.map_cons, List.map_nil, sWords, List.cons.injEq, and_true, h1, h2, h3, h4, h5, h6, h7] at hL
  obtain ⟨e0, e1, e2, e3, e4, e5, e6, e7⟩ := hL
  obtain ⟨i', p', b', r', h', u', k', t'⟩ := s'
  dsimp only at *
  have g1 := dec_inj e1
  have g2 := dec_inj e2
  have g6 := dec_inj e6
  have g7 := dec_inj e7
  have gb : b' = b := by
    rw [ByteArray.toList_eq, e0] at hb
    rw [← hb]
    cases b' <;> rfl
  simp only [Spc.mk.injEq]
  exact ⟨by omega, by omega, gb, (cw_inj e3).symm, (cw_inj e4).symm, (cw_inj e5).symm, by omega, by omega⟩

set_option maxRecDepth 100000 in
set_option maxHeartbeats 16000000 in
theorem s13Parse_short (s : ByteArray) (w : World) (hd : Door w) (hs : s.size ≤ 1000) (h8 : (pieces 32 s.data.toList).length ≠ 8) : Calls Tryz.prog 9 #[.string s] w fun e w' => SpIs s.data.toList e ∧ Chg NoChg w w' := by
  have HS := hide (split_any s (w.alloc (.cells #[.int .i64 0, .int .i64 0, .bool false, .int .u64 0, .int .u64 0, .int .u64 0, .int .u64 0, .int .u64 0, .int .u64 0, .int .u64 0, .int .u64 0, .int .u64 0, .int .i64 0, .int .i64 0] 26)) (hd.keep ((Chg.refl NoChg w).alloc _)) hs)
  have HN := hide (NoSp.words h8)
  have H8 := hide h8
  clear hd h8
  go_enter Tryz.func9, Tryz.ntmps9
  go_wp2_with fail
  refine HS.out.mono ?_
  rintro e w1 ⟨L, hL, rfl, rfl⟩
  have h8' : ((L.length : Int) != 8) = true := by
    have h := congrArg List.length hL
    have := H8.out
    simp at h
    simp
    omega
  clear hL
  go_wp2
  refine bodyPost_ret (v := .tuple #[.agg #[.int .i64 0, .int .i64 0, .bool false, .int .u64 0, .int .u64 0, .int .u64 0, .int .u64 0, .int .u64 0, .int .u64 0, .int .u64 0, .int .u64 0, .int .u64 0, .int .i64 0, .int .i64 0], .int .i64 2]) (by simp [results, Tryz.results9, go_sem]) rfl ⟨.inr ⟨HN.out, rfl⟩, ?_⟩
  (repeat' (first | (with_reducible exact Chg.refl _ _) | (with_reducible assumption) | (with_reducible refine Chg.alloc ?_ _) | (with_reducible refine Chg.drewN ?_ _) | (with_reducible refine Chg.drew ?_) | (with_reducible refine Chg.setCell ?_ _ ?_) | (apply Or.inl; with_reducible rfl) | (apply Or.inl; simp; done) | (apply Or.inr; simp; done) | (apply Or.inr; simp; omega)))

set_option maxRecDepth 100000 in
set_option maxHeartbeats 16000000 in
theorem s13Parse_longA (s : ByteArray) (w : World) (hd : Door w) (hs : s.size ≤ 1000) (h8 : (pieces 32 s.data.toList).length = 8) (hP0 : OkC s.data.toList) : Calls Tryz.prog 9 #[.string s] w fun e w' => SpIs s.data.toList e ∧ Chg NoChg w w' := by
  have HD := hide hd
  have hP := hide hP0
  have HS := hide (split_any s (w.alloc (.cells #[.int .i64 0, .int .i64 0, .bool false, .int .u64 0, .int .u64 0, .int .u64 0, .int .u64 0, .int .u64 0, .int .u64 0, .int .u64 0, .int .u64 0, .int .u64 0, .int .i64 0, .int .i64 0] 26)) (hd.keep ((Chg.refl NoChg w).alloc _)) hs)
  have H8 := hide h8
  clear hd h8 hP0
  go_enter Tryz.func9, Tryz.ntmps9
  go_wp2_with fail
  refine HS.out.mono ?_
  rintro e w1 ⟨L, hL, rfl, rfl⟩
  have hl8 : L.length = 8 := by
    have h := congrArg List.length hL
    have := H8.out
    simp at h
    omega
  obtain ⟨x0, x1, x2, x3, x4, x5, x6, x7, rfl⟩ : ∃ x0 x1 x2 x3 x4 x5 x6 x7, L = [x0, x1, x2, x3, x4, x5, x6, x7] := by
    match L, hl8 with
    | [x0, x1, x2, x3, x4, x5, x6, x7], _ => exact ⟨x0, x1, x2, x3, x4, x5, x6, x7, rfl⟩
  have HL := hide hL
  clear hL hl8 HS
  obtain ⟨b, hb⟩ : ∃ b, (x0.toList == [108, 101, 97, 102]) = b := ⟨_, rfl⟩
  have HB := hide hb
  have hsz := fun (x : ByteArray) (hx : x.data.toList ∈ pieces 32 s.data.toList) => word_size2 s x hx hs
  have HZ := hide hsz
  clear hsz
  obtain ⟨w1, w2, w3, w4, w5, r, e1, e2, e3, e4, e5, hrg, hc5, hr⟩ := map4 (((w.alloc (.cells #[.int .i64 0, .int .i64 0, .bool false, .int .u64 0, .int .u64 0, .int .u64 0, .int .u64 0, .int .u64 0, .int .u64 0, .int .u64 0, .int .u64 0, .int .u64 0, .int .i64 0, .int .i64 0] 26)).alloc (.cells (([x0, x1, x2, x3, x4, x5, x6, x7] : List ByteArray).map Value.string).toArray 9)).alloc (.cells #[.int .i64 0, .int .i64 0, .bool b, .int .u64 0, .int .u64 0, .int .u64 0, .int .u64 0, .int .u64 0, .int .u64 0, .int .u64 0, .int .u64 0, .int .u64 0, .int .i64 0, .int .i64 0] 26)) (w.heap.size + 2) (w.heap.size + 3) (by simp)
  have RG := hide hrg
  have R3 := hide hr
  have S5 := hide ((SSt.start w [x0, x1, x2, x3, x4, x5, x6, x7] b).keep0 hc5)
  clear hrg hc5 hr
  simp only [List.map_cons, List.map_nil] at e1
  have hmm := @run_makeMap Tryz.prog
  go_wp2
  clear e1 e2 e3 e4 e5 hmm
  go_loopw [6] (fun _ wr => ∃ (left : Lit → Bool) (cnt i p k t : Nat), Left4 left ∧ Hid (wr.ranges Tryz.prog 3 (ptrR (w.heap.size + 2)) (w.heap.size + 3) r 4 D4 left cnt) ∧ Hid (SSt w [x0, x1, x2, x3, x4, x5, x6, x7] wr i p b ⟨0, 0, 0⟩ ⟨0, 0, 0⟩ ⟨0, 0, 0⟩ k t) ∧ Hid (VInv x1 x2 x6 x7 left i p k t)) (fun _ wr => wr.rangeLeft (w.heap.size + 3) r)
  case atStart => exact ⟨_, _, 0, 0, 0, 0, Left4.start, RG, S5, hide (VInv.start x1 x2 x6 x7)⟩
  case round =>
    obtain ⟨left, cnt, i, p, k, t, hl, HR, ST, HV⟩ := hrel
    clear RG S5
    rcases next4 HR.out hl 0 with ⟨_, hnone, hrun⟩ | ⟨x, o, wn, cnt', hx, hlx, hrun, hen, hrg, hlt, hcn⟩
    · skip
      obtain ⟨wo, rfl⟩ : ∃ wo : World, wo = wr := ⟨_, rfl⟩
      have HVI := hide HV.out
      have HV1 := hide (HV.out.2.2.2.2.1 (hnone _))
      have HV2 := hide (HV.out.2.2.2.2.2.1 (hnone _))
      have HV6 := hide (HV.out.2.2.2.2.2.2.1 (hnone _))
      have HV7 := hide (HV.out.2.2.2.2.2.2.2 (hnone _))
      have SP0 := hide (ST.out.keep0 ((Chg.refl NoChg wo).alloc (.cells #[.pointer (some ⟨w.heap.size + 2, 3, none⟩), .pointer (some ⟨w.heap.size + 2, 6, none⟩), .pointer (some ⟨w.heap.size + 2, 9, none⟩)] 56)))
      have PP0 := hide (Blk.new wo #[.pointer (some ⟨w.heap.size + 2, 3, none⟩), .pointer (some ⟨w.heap.size + 2, 6, none⟩), .pointer (some ⟨w.heap.size + 2, 9, none⟩)] 56)
      have hX : w.heap.size + 2 < wo.heap.size := ST.out.lts
      have HXX := hide hX
      clear hl hX
      go_wp2
      go_loopw [63] (fun jv wr => ∃ (j : Nat) (r h u : Crv), jv = .int .i64 j ∧ j ≤ 3 ∧ Hid (SSt w [x0, x1, x2, x3, x4, x5, x6, x7] wr i p b r h u k t) ∧ Hid (Blk wr wo.heap.size #[.pointer (some ⟨w.heap.size + 2, 3, none⟩), .pointer (some ⟨w.heap.size + 2, 6, none⟩), .pointer (some ⟨w.heap.size + 2, 9, none⟩)] 56) ∧ Hid (WInv x3 x4 x5 j r h u)) (fun jv _ => 3 - (RowKit.intOf jv).toNat)
      case atStart => exact ⟨0, _, _, _, rfl, by omega, SP0, PP0, hide (WInv.start x3 x4 x5)⟩
      case round =>
        clear hrun SP0 PP0 ST HV HR
        obtain ⟨j, r', h, u, rfl, hj3, ST, PP, HWI⟩ := hrel
        match j, hj3 with
        | 0, _ =>
          skip
          have hw := ST.out.word 3 (by simp)
          simp at hw
          have g0 := Blk.cell PP.out 0
          simp at g0
          have zz := ST.out.lts
          have zz1 : w.heap.size + 1 < wr.heap.size := by omega
          have zz3 := Blk.lt PP.out
          go_wp2_with fail
          refine (s13Curve_any x3 _ (HD.out.keep ST.out.chg) (HZ.out x3 (by rw [← HL.out]; simp))).mono ?_
          rintro e wa ⟨hN, ca⟩
          have SA := hide (ST.out.keep0 ca)
          have PA := hide (ca.blk PP.out (fun h => h))
          clear ca hw zz zz1 g0 zz3
          rcases hN with ⟨c, hc, rfl⟩ | ⟨hno, rfl⟩
          · have HW2 := hide (HWI.out.s0 hc)
            have d0 := Blk.cell SA.out.box 3
            have d1 := Blk.cell SA.out.box 4
            have d2 := Blk.cell SA.out.box 5
            have f0 := Blk.frozen SA.out.box 3
            have f1 := Blk.frozen SA.out.box 4
            have f2 := Blk.frozen SA.out.box 5
            have zz := SA.out.lts
            simp at d0 d1 d2
            have S2 := hide ((SA.out.set_real c).keep0 ((Chg.refl NoChg _).alloc (.cells #[.int .u64 (c.f : Int), .int .u64 (c.l : Int), .int .u64 (c.r : Int)] 24)))
            have P2 := hide ((((PA.out.other (a := ⟨w.heap.size + 2, 3, none⟩) (.int .u64 (c.f : Int)) (by have := HXX.out; simp; omega)).other (a := ⟨w.heap.size + 2, 4, none⟩) (.int .u64 (c.l : Int)) (by have := HXX.out; simp; omega)).other (a := ⟨w.heap.size + 2, 5, none⟩) (.int .u64 (c.r : Int)) (by have := HXX.out; simp; omega)).alloc (.cells #[.int .u64 (c.f : Int), .int .u64 (c.l : Int), .int .u64 (c.r : Int)] 24))
            clear hc
            go_wp2
            go_roundw
            case rel => exact ⟨0 + 1, c, h, u, by go_num, by omega, S2, P2, HW2⟩
            case measure => simp [RowKit.intOf]
          · exact absurd (hP.out 3 (by omega) (by omega) _ (by rw [← HL.out]; rfl)) (fun ⟨c, h⟩ => hno c h)
        | 1, _ =>
          skip
          have hw := ST.out.word 4 (by simp)
          simp at hw
          have g0 := Blk.cell PP.out 1
          simp at g0
          have zz := ST.out.lts
          have zz1 : w.heap.size + 1 < wr.heap.size := by omega
          have zz3 := Blk.lt PP.out
          go_wp2_with fail
          refine (s13Curve_any x4 _ (HD.out.keep ST.out.chg) (HZ.out x4 (by rw [← HL.out]; simp))).mono ?_
          rintro e wa ⟨hN, ca⟩
          have SA := hide (ST.out.keep0 ca)
          have PA := hide (ca.blk PP.out (fun h => h))
          clear ca hw zz zz1 g0 zz3
          rcases hN with ⟨c, hc, rfl⟩ | ⟨hno, rfl⟩
          · have HW2 := hide (HWI.out.s1 hc)
            have d0 := Blk.cell SA.out.box 6
            have d1 := Blk.cell SA.out.box 7
            have d2 := Blk.cell SA.out.box 8
            have f0 := Blk.frozen SA.out.box 6
            have f1 := Blk.frozen SA.out.box 7
            have f2 := Blk.frozen SA.out.box 8
            have zz := SA.out.lts
            simp at d0 d1 d2
            have S2 := hide ((SA.out.set_share c).keep0 ((Chg.refl NoChg _).alloc (.cells #[.int .u64 (c.f : Int), .int .u64 (c.l : Int), .int .u64 (c.r : Int)] 24)))
            have P2 := hide ((((PA.out.other (a := ⟨w.heap.size + 2, 6, none⟩) (.int .u64 (c.f : Int)) (by have := HXX.out; simp; omega)).other (a := ⟨w.heap.size + 2, 7, none⟩) (.int .u64 (c.l : Int)) (by have := HXX.out; simp; omega)).other (a := ⟨w.heap.size + 2, 8, none⟩) (.int .u64 (c.r : Int)) (by have := HXX.out; simp; omega)).alloc (.cells #[.int .u64 (c.f : Int), .int .u64 (c.l : Int), .int .u64 (c.r : Int)] 24))
            clear hc
            go_wp2
            go_roundw
            case rel => exact ⟨1 + 1, r', c, u, by go_num, by omega, S2, P2, HW2⟩
            case measure => simp [RowKit.intOf]
          · exact absurd (hP.out 4 (by omega) (by omega) _ (by rw [← HL.out]; rfl)) (fun ⟨c, h⟩ => hno c h)
        | 2, _ =>
          skip
          have hw := ST.out.word 5 (by simp)
          simp at hw
          have g0 := Blk.cell PP.out 2
          simp at g0
          have zz := ST.out.lts
          have zz1 : w.heap.size + 1 < wr.heap.size := by omega
          have zz3 := Blk.lt PP.out
          go_wp2_with fail
          refine (s13Curve_any x5 _ (HD.out.keep ST.out.chg) (HZ.out x5 (by rw [← HL.out]; simp))).mono ?_
          rintro e wa ⟨hN, ca⟩
          have SA := hide (ST.out.keep0 ca)
          have PA := hide (ca.blk PP.out (fun h => h))
          clear ca hw zz zz1 g0 zz3
          rcases hN with ⟨c, hc, rfl⟩ | ⟨hno, rfl⟩
          · have HW2 := hide (HWI.out.s2 hc)
            have d0 := Blk.cell SA.out.box 9
            have d1 := Blk.cell SA.out.box 10
            have d2 := Blk.cell SA.out.box 11
            have f0 := Blk.frozen SA.out.box 9
            have f1 := Blk.frozen SA.out.box 10
            have f2 := Blk.frozen SA.out.box 11
            have zz := SA.out.lts
            simp at d0 d1 d2
            have S2 := hide ((SA.out.set_upper c).keep0 ((Chg.refl NoChg _).alloc (.cells #[.int .u64 (c.f : Int), .int .u64 (c.l : Int), .int .u64 (c.r : Int)] 24)))
            have P2 := hide ((((PA.out.other (a := ⟨w.heap.size + 2, 9, none⟩) (.int .u64 (c.f : Int)) (by have := HXX.out; simp; omega)).other (a := ⟨w.heap.size + 2, 10, none⟩) (.int .u64 (c.l : Int)) (by have := HXX.out; simp; omega)).other (a := ⟨w.heap.size + 2, 11, none⟩) (.int .u64 (c.r : Int)) (by have := HXX.out; simp; omega)).alloc (.cells #[.int .u64 (c.f : Int), .int .u64 (c.l : Int), .int .u64 (c.r : Int)] 24))
            clear hc
            go_wp2
            go_roundw
            case rel => exact ⟨2 + 1, r', h, c, by go_num, by omega, S2, P2, HW2⟩
            case measure => simp [RowKit.intOf]
          · exact absurd (hP.out 5 (by omega) (by omega) _ (by rw [← HL.out]; rfl)) (fun ⟨c, h⟩ => hno c h)
        | 3, _ =>
          obtain ⟨q0, q1, q2, q3, q4, q5⟩ := HWI.out
          have hv := HVI.out
          have HTX := hide (fun W hd => s13Text_any i p b r' h u k t hv.1 hv.2.1 hv.2.2.1 hv.2.2.2.1 q0 q1 q2 W hd)
          have HIS : Hid (s.data.toList = sText ⟨(i : Int), (p : Int), b, r', h, u, (k : Int), (t : Int)⟩ → IsSp s.data.toList ⟨(i : Int), (p : Int), b, r', h, u, (k : Int), (t : Int)⟩) := hide (fun e => ⟨e, ⟨by dsimp only; omega, by dsimp only; omega, by dsimp only; omega, by dsimp only; omega⟩, ⟨by have := hv.1; dsimp only; omega, by have := hv.2.1; dsimp only; omega, by have := hv.2.2.1; dsimp only; omega, by have := hv.2.2.2.1; dsimp only; omega, q0, q1, q2⟩⟩)
          have HNO : Hid (s.data.toList ≠ sText ⟨(i : Int), (p : Int), b, r', h, u, (k : Int), (t : Int)⟩ → ∀ s', ¬ IsSp s.data.toList s') := hide (fun e s' hs' => e (by
            have e2 := sp_same HL.out HB.out HV1.out HV2.out (q3 (by omega)) (q4 (by omega)) (q5 (by omega)) HV6.out HV7.out hs'
            rw [← e2]
            exact hs'.1))
          generalize sText ⟨(i : Int), (p : Int), b, r', h, u, (k : Int), (t : Int)⟩ = T at HTX HIS HNO
          obtain ⟨a0, a1, a2, a3, a4, a5, a6, a7, a8, a9, a10, a11, a12, a13⟩ := spc_cells ST.out.box
          have zz := ST.out.lts
          clear q0 q1 q2 q3 q4 q5 hv
          go_wp2_with fail
          refine (HTX.out _ (HD.out.keep ST.out.chg)).mono ?_
          rintro e w9 ⟨rfl, c9⟩
          have S9 := hide (ST.out.keep0 c9)
          clear c9 zz a0 a1 a2 a3 a4 a5 a6 a7 a8 a9 a10 a11 a12 a13
          cases ht : ((bs T).toList == s.toList) with
          | true =>
            have HP := hide (HIS.out (by rw [beq_iff_eq] at ht; rw [ByteArray.toList_eq, ByteArray.toList_eq, bs_list] at ht; exact ht.symm))
            obtain ⟨a0, a1, a2, a3, a4, a5, a6, a7, a8, a9, a10, a11, a12, a13⟩ := spc_cells S9.out.box
            obtain ⟨b0, b1, b2, b3, b4, b5, b6, b7, b8, b9, b10, b11, b12, b13⟩ := spc_cells0 S9.out.res
            have f0 := fun i => Blk.frozen S9.out.res i
            have f00 := f0 0
            have f01 := f0 1
            have f02 := f0 2
            have f03 := f0 3
            have f04 := f0 4
            have f05 := f0 5
            have f06 := f0 6
            have f07 := f0 7
            have f08 := f0 8
            have f09 := f0 9
            have f010 := f0 10
            have f011 := f0 11
            have f012 := f0 12
            have f013 := f0 13
            have zz1 := S9.out.lts
            have zz2 : w.heap.size < w9.heap.size := by omega
            clear f0
            go_wp2
            refine bodyPost_ret (v := .tuple #[.agg #[.int .i64 (i : Int), .int .i64 (p : Int), .bool b, .int .u64 (r'.f : Int), .int .u64 (r'.l : Int), .int .u64 (r'.r : Int), .int .u64 (h.f : Int), .int .u64 (h.l : Int), .int .u64 (h.r : Int), .int .u64 (u.f : Int), .int .u64 (u.l : Int), .int .u64 (u.r : Int), .int .i64 (k : Int), .int .i64 (t : Int)], .int .i64 0]) (by simp [results, Tryz.results9, go_sem, b0, b1, b2, b3, b4, b5, b6, b7, b8, b9, b10, b11, b12, b13]) rfl ⟨.inl ⟨_, HP.out, rfl⟩, ?_⟩
            have C2 := S9.out.chg
            iterate 14 (with_reducible refine Chg.setCell ?_ _ (Or.inr (Nat.le_refl _)))
            exact C2
          | false =>
            have HN := hide (HNO.out (fun e => by rw [beq_eq_false_iff_ne] at ht; rw [ByteArray.toList_eq, ByteArray.toList_eq, bs_list] at ht; exact ht e.symm))
            obtain ⟨b0, b1, b2, b3, b4, b5, b6, b7, b8, b9, b10, b11, b12, b13⟩ := spc_cells0 S9.out.res
            have f0 := fun i => Blk.frozen S9.out.res i
            have f00 := f0 0
            have f01 := f0 1
            have f02 := f0 2
            have f03 := f0 3
            have f04 := f0 4
            have f05 := f0 5
            have f06 := f0 6
            have f07 := f0 7
            have f08 := f0 8
            have f09 := f0 9
            have f010 := f0 10
            have f011 := f0 11
            have f012 := f0 12
            have f013 := f0 13
            have zz1 := S9.out.lts
            have zz2 : w.heap.size < w9.heap.size := by omega
            clear f0
            go_wp2
            refine bodyPost_ret (v := .tuple #[.agg #[.int .i64 0, .int .i64 0, .bool false, .int .u64 0, .int .u64 0, .int .u64 0, .int .u64 0, .int .u64 0, .int .u64 0, .int .u64 0, .int .u64 0, .int .u64 0, .int .i64 0, .int .i64 0], .int .i64 2]) (by simp [results, Tryz.results9, go_sem, b0, b1, b2, b3, b4, b5, b6, b7, b8, b9, b10, b11, b12, b13]) rfl ⟨.inr ⟨HN.out, rfl⟩, ?_⟩
            have C2 := S9.out.chg
            iterate 14 (with_reducible refine Chg.setCell ?_ _ (Or.inr (Nat.le_refl _)))
            exact C2
    · have HLT := hide hlt
      have RG2 := hide hrg
      have LF2 := hide (hl.step (.int .i64 x))
      have SN := hide (ST.out.keep hcn (fun j hj => by have := R3.out; omega))
      clear hl hlx hlt hrg hcn
      rcases hx with ⟨rfl, rfl⟩ | ⟨rfl, rfl⟩ | ⟨rfl, rfl⟩ | ⟨rfl, rfl⟩
      · skip
        have hw := SN.out.word 1 (by simp)
        simp at hw
        have zz := SN.out.lts
        have zz1 : w.heap.size + 1 < wn.heap.size := by omega
        go_wp2_with fail
        refine (s13Number_any x1 _ (HD.out.keep SN.out.chg) (HZ.out x1 (by rw [← HL.out]; simp))).mono ?_
        rintro e wa ⟨hN, ca⟩
        have RG3 := hide (ranges_chg RG2.out ca (fun h => h) (fun h => h))
        have SA := hide (SN.out.keep0 ca)
        clear ca hw zz zz1 hrun hen
        rcases hN with ⟨u, hu, hp, rfl⟩ | ⟨hno, m, rfl⟩
        · by_cases hbig : ¬ u < 9223372036854775808
          · have hb1 : (9223372036854775807 : Int) < (u : Int) := by omega
            have HN := hide (NoSp.num HL.out.symm 1 _ rfl (by omega) (fun v hv e => hbig (by rw [dec_inj (hp.symm.trans e)]; exact hv)))
            clear hbig hp hu
            obtain ⟨b0, b1, b2, b3, b4, b5, b6, b7, b8, b9, b10, b11, b12, b13⟩ := spc_cells0 SA.out.res
            have f0 := fun i => Blk.frozen SA.out.res i
            have f00 := f0 0
            have f01 := f0 1
            have f02 := f0 2
            have f03 := f0 3
            have f04 := f0 4
            have f05 := f0 5
            have f06 := f0 6
            have f07 := f0 7
            have f08 := f0 8
            have f09 := f0 9
            have f010 := f0 10
            have f011 := f0 11
            have f012 := f0 12
            have f013 := f0 13
            have zz1 := SA.out.lts
            have zz2 : w.heap.size < wa.heap.size := by omega
            clear f0
            go_wp2
            refine bodyPost_ret (v := .tuple #[.agg #[.int .i64 0, .int .i64 0, .bool false, .int .u64 0, .int .u64 0, .int .u64 0, .int .u64 0, .int .u64 0, .int .u64 0, .int .u64 0, .int .u64 0, .int .u64 0, .int .i64 0, .int .i64 0], .int .i64 2]) (by simp [results, Tryz.results9, go_sem, b0, b1, b2, b3, b4, b5, b6, b7, b8, b9, b10, b11, b12, b13]) rfl ⟨.inr ⟨HN.out, rfl⟩, ?_⟩
            have C2 := SA.out.chg
            iterate 14 (with_reducible refine Chg.setCell ?_ _ (Or.inr (Nat.le_refl _)))
            exact C2
          · have hb1 : ¬ (9223372036854775807 : Int) < (u : Int) := by omega
            have hw1 : IntKind.i64.wrap (u : Int) = (u : Int) := IntWalk.i64_in _ (by omega)
            have HV2 := hide (HV.out.s1 (v := u) (by omega) hp)
            have d0 := Blk.cell SA.out.box 0
            have f0 := Blk.frozen SA.out.box 0
            have zz := SA.out.lts
            have S2 := hide (SA.out.set_id u)
            have RG4 := hide (ranges_chg RG3.out ((Chg.refl (fun j => j = w.heap.size + 2) wa).setCell (.int .i64 (u : Int)) (a := ⟨w.heap.size + 2, 0, none⟩) (.inl rfl)) (by omega) (by have := R3.out; omega))
            simp at d0
            clear hbig hp hu
            go_wp2
            go_roundw
            case rel => exact ⟨_, _, u, p, k, t, LF2.out, RG4, S2, HV2⟩
            case measure =>
              rw [RG4.out.left_eq, HR.out.left_eq]
              exact HLT.out
        · have HN := hide (NoSp.num HL.out.symm 1 _ rfl (by omega) (fun v hv => hno v (by omega)))
          clear hno
          obtain ⟨b0, b1, b2, b3, b4, b5, b6, b7, b8, b9, b10, b11, b12, b13⟩ := spc_cells0 SA.out.res
          have f0 := fun i => Blk.frozen SA.out.res i
          have f00 := f0 0
          have f01 := f0 1
          have f02 := f0 2
          have f03 := f0 3
          have f04 := f0 4
          have f05 := f0 5
          have f06 := f0 6
          have f07 := f0 7
          have f08 := f0 8
          have f09 := f0 9
          have f010 := f0 10
          have f011 := f0 11
          have f012 := f0 12
          have f013 := f0 13
          have zz1 := SA.out.lts
          have zz2 : w.heap.size < wa.heap.size := by omega
          clear f0
          go_wp2
          refine bodyPost_ret (v := .tuple #[.agg #[.int .i64 0, .int .i64 0, .bool false, .int .u64 0, .int .u64 0, .int .u64 0, .int .u64 0, .int .u64 0, .int .u64 0, .int .u64 0, .int .u64 0, .int .u64 0, .int .i64 0, .int .i64 0], .int .i64 2]) (by simp [results, Tryz.results9, go_sem, b0, b1, b2, b3, b4, b5, b6, b7, b8, b9, b10, b11, b12, b13]) rfl ⟨.inr ⟨HN.out, rfl⟩, ?_⟩
          have C2 := SA.out.chg
          iterate 14 (with_reducible refine Chg.setCell ?_ _ (Or.inr (Nat.le_refl _)))
          exact C2
      · skip
        have hw := SN.out.word 2 (by simp)
        simp at hw
        have zz := SN.out.lts
        have zz1 : w.heap.size + 1 < wn.heap.size := by omega
        go_wp2_with fail
        refine (s13Number_any x2 _ (HD.out.keep SN.out.chg) (HZ.out x2 (by rw [← HL.out]; simp))).mono ?_
        rintro e wa ⟨hN, ca⟩
        have RG3 := hide (ranges_chg RG2.out ca (fun h => h) (fun h => h))
        have SA := hide (SN.out.keep0 ca)
        clear ca hw zz zz1 hrun hen
        rcases hN with ⟨u, hu, hp, rfl⟩ | ⟨hno, m, rfl⟩
        · by_cases hbig : ¬ u < 9223372036854775808
          · have hb1 : (9223372036854775807 : Int) < (u : Int) := by omega
            have HN := hide (NoSp.num HL.out.symm 2 _ rfl (by omega) (fun v hv e => hbig (by rw [dec_inj (hp.symm.trans e)]; exact hv)))
            clear hbig hp hu
            obtain ⟨b0, b1, b2, b3, b4, b5, b6, b7, b8, b9, b10, b11, b12, b13⟩ := spc_cells0 SA.out.res
            have f0 := fun i => Blk.frozen SA.out.res i
            have f00 := f0 0
            have f01 := f0 1
            have f02 := f0 2
            have f03 := f0 3
            have f04 := f0 4
            have f05 := f0 5
            have f06 := f0 6
            have f07 := f0 7
            have f08 := f0 8
            have f09 := f0 9
            have f010 := f0 10
            have f011 := f0 11
            have f012 := f0 12
            have f013 := f0 13
            have zz1 := SA.out.lts
            have zz2 : w.heap.size < wa.heap.size := by omega
            clear f0
            go_wp2
            refine bodyPost_ret (v := .tuple #[.agg #[.int .i64 0, .int .i64 0, .bool false, .int .u64 0, .int .u64 0, .int .u64 0, .int .u64 0, .int .u64 0, .int .u64 0, .int .u64 0, .int .u64 0, .int .u64 0, .int .i64 0, .int .i64 0], .int .i64 2]) (by simp [results, Tryz.results9, go_sem, b0, b1, b2, b3, b4, b5, b6, b7, b8, b9, b10, b11, b12, b13]) rfl ⟨.inr ⟨HN.out, rfl⟩, ?_⟩
            have C2 := SA.out.chg
            iterate 14 (with_reducible refine Chg.setCell ?_ _ (Or.inr (Nat.le_refl _)))
            exact C2
          · have hb1 : ¬ (9223372036854775807 : Int) < (u : Int) := by omega
            have hw1 : IntKind.i64.wrap (u : Int) = (u : Int) := IntWalk.i64_in _ (by omega)
            have HV2 := hide (HV.out.s2 (v := u) (by omega) hp)
            have d0 := Blk.cell SA.out.box 1
            have f0 := Blk.frozen SA.out.box 1
            have zz := SA.out.lts
            have S2 := hide (SA.out.set_par u)
            have RG4 := hide (ranges_chg RG3.out ((Chg.refl (fun j => j = w.heap.size + 2) wa).setCell (.int .i64 (u : Int)) (a := ⟨w.heap.size + 2, 1, none⟩) (.inl rfl)) (by omega) (by have := R3.out; omega))
            simp at d0
            clear hbig hp hu
            go_wp2
            go_roundw
            case rel => exact ⟨_, _, i, u, k, t, LF2.out, RG4, S2, HV2⟩
            case measure =>
              rw [RG4.out.left_eq, HR.out.left_eq]
              exact HLT.out
        · have HN := hide (NoSp.num HL.out.symm 2 _ rfl (by omega) (fun v hv => hno v (by omega)))
          clear hno
          obtain ⟨b0, b1, b2, b3, b4, b5, b6, b7, b8, b9, b10, b11, b12, b13⟩ := spc_cells0 SA.out.res
          have f0 := fun i => Blk.frozen SA.out.res i
          have f00 := f0 0
          have f01 := f0 1
          have f02 := f0 2
          have f03 := f0 3
          have f04 := f0 4
          have f05 := f0 5
          have f06 := f0 6
          have f07 := f0 7
          have f08 := f0 8
          have f09 := f0 9
          have f010 := f0 10
          have f011 := f0 11
          have f012 := f0 12
          have f013 := f0 13
          have zz1 := SA.out.lts
          have zz2 : w.heap.size < wa.heap.size := by omega
          clear f0
          go_wp2
          refine bodyPost_ret (v := .tuple #[.agg #[.int .i64 0, .int .i64 0, .bool false, .int .u64 0, .int .u64 0, .int .u64 0, .int .u64 0, .int .u64 0, .int .u64 0, .int .u64 0, .int .u64 0, .int .u64 0, .int .i64 0, .int .i64 0], .int .i64 2]) (by simp [results, Tryz.results9, go_sem, b0, b1, b2, b3, b4, b5, b6, b7, b8, b9, b10, b11, b12, b13]) rfl ⟨.inr ⟨HN.out, rfl⟩, ?_⟩
          have C2 := SA.out.chg
          iterate 14 (with_reducible refine Chg.setCell ?_ _ (Or.inr (Nat.le_refl _)))
          exact C2
      · skip
        have hw := SN.out.word 6 (by simp)
        simp at hw
        have zz := SN.out.lts
        have zz1 : w.heap.size + 1 < wn.heap.size := by omega
        go_wp2_with fail
        refine (s13Number_any x6 _ (HD.out.keep SN.out.chg) (HZ.out x6 (by rw [← HL.out]; simp))).mono ?_
        rintro e wa ⟨hN, ca⟩
        have RG3 := hide (ranges_chg RG2.out ca (fun h => h) (fun h => h))
        have SA := hide (SN.out.keep0 ca)
        clear ca hw zz zz1 hrun hen
        rcases hN with ⟨u, hu, hp, rfl⟩ | ⟨hno, m, rfl⟩
        · by_cases hbig : ¬ u < 9223372036854775808
          · have hb1 : (9223372036854775807 : Int) < (u : Int) := by omega
            have HN := hide (NoSp.num HL.out.symm 6 _ rfl (by omega) (fun v hv e => hbig (by rw [dec_inj (hp.symm.trans e)]; exact hv)))
            clear hbig hp hu
            obtain ⟨b0, b1, b2, b3, b4, b5, b6, b7, b8, b9, b10, b11, b12, b13⟩ := spc_cells0 SA.out.res
            have f0 := fun i => Blk.frozen SA.out.res i
            have f00 := f0 0
            have f01 := f0 1
            have f02 := f0 2
            have f03 := f0 3
            have f04 := f0 4
            have f05 := f0 5
            have f06 := f0 6
            have f07 := f0 7
            have f08 := f0 8
            have f09 := f0 9
            have f010 := f0 10
            have f011 := f0 11
            have f012 := f0 12
            have f013 := f0 13
            have zz1 := SA.out.lts
            have zz2 : w.heap.size < wa.heap.size := by omega
            clear f0
            go_wp2
            refine bodyPost_ret (v := .tuple #[.agg #[.int .i64 0, .int .i64 0, .bool false, .int .u64 0, .int .u64 0, .int .u64 0, .int .u64 0, .int .u64 0, .int .u64 0, .int .u64 0, .int .u64 0, .int .u64 0, .int .i64 0, .int .i64 0], .int .i64 2]) (by simp [results, Tryz.results9, go_sem, b0, b1, b2, b3, b4, b5, b6, b7, b8, b9, b10, b11, b12, b13]) rfl ⟨.inr ⟨HN.out, rfl⟩, ?_⟩
            have C2 := SA.out.chg
            iterate 14 (with_reducible refine Chg.setCell ?_ _ (Or.inr (Nat.le_refl _)))
            exact C2
          · have hb1 : ¬ (9223372036854775807 : Int) < (u : Int) := by omega
            have hw1 : IntKind.i64.wrap (u : Int) = (u : Int) := IntWalk.i64_in _ (by omega)
            have HV2 := hide (HV.out.s6 (v := u) (by omega) hp)
            have d0 := Blk.cell SA.out.box 12
            have f0 := Blk.frozen SA.out.box 12
            have zz := SA.out.lts
            have S2 := hide (SA.out.set_pk u)
            have RG4 := hide (ranges_chg RG3.out ((Chg.refl (fun j => j = w.heap.size + 2) wa).setCell (.int .i64 (u : Int)) (a := ⟨w.heap.size + 2, 12, none⟩) (.inl rfl)) (by omega) (by have := R3.out; omega))
            simp at d0
            clear hbig hp hu
            go_wp2
            go_roundw
            case rel => exact ⟨_, _, i, p, u, t, LF2.out, RG4, S2, HV2⟩
            case measure =>
              rw [RG4.out.left_eq, HR.out.left_eq]
              exact HLT.out
        · have HN := hide (NoSp.num HL.out.symm 6 _ rfl (by omega) (fun v hv => hno v (by omega)))
          clear hno
          obtain ⟨b0, b1, b2, b3, b4, b5, b6, b7, b8, b9, b10, b11, b12, b13⟩ := spc_cells0 SA.out.res
          have f0 := fun i => Blk.frozen SA.out.res i
          have f00 := f0 0
          have f01 := f0 1
          have f02 := f0 2
          have f03 := f0 3
          have f04 := f0 4
          have f05 := f0 5
          have f06 := f0 6
          have f07 := f0 7
          have f08 := f0 8
          have f09 := f0 9
          have f010 := f0 10
          have f011 := f0 11
          have f012 := f0 12
          have f013 := f0 13
          have zz1 := SA.out.lts
          have zz2 : w.heap.size < wa.heap.size := by omega
          clear f0
          go_wp2
          refine bodyPost_ret (v := .tuple #[.agg #[.int .i64 0, .int .i64 0, .bool false, .int .u64 0, .int .u64 0, .int .u64 0, .int .u64 0, .int .u64 0, .int .u64 0, .int .u64 0, .int .u64 0, .int .u64 0, .int .i64 0, .int .i64 0], .int .i64 2]) (by simp [results, Tryz.results9, go_sem, b0, b1, b2, b3, b4, b5, b6, b7, b8, b9, b10, b11, b12, b13]) rfl ⟨.inr ⟨HN.out, rfl⟩, ?_⟩
          have C2 := SA.out.chg
          iterate 14 (with_reducible refine Chg.setCell ?_ _ (Or.inr (Nat.le_refl _)))
          exact C2
      · skip
        have hw := SN.out.word 7 (by simp)
        simp at hw
        have zz := SN.out.lts
        have zz1 : w.heap.size + 1 < wn.heap.size := by omega
        go_wp2_with fail
        refine (s13Number_any x7 _ (HD.out.keep SN.out.chg) (HZ.out x7 (by rw [← HL.out]; simp))).mono ?_
        rintro e wa ⟨hN, ca⟩
        have RG3 := hide (ranges_chg RG2.out ca (fun h => h) (fun h => h))
        have SA := hide (SN.out.keep0 ca)
        clear ca hw zz zz1 hrun hen
        rcases hN with ⟨u, hu, hp, rfl⟩ | ⟨hno, m, rfl⟩
        · by_cases hbig : ¬ u < 9223372036854775808
          · have hb1 : (9223372036854775807 : Int) < (u : Int) := by omega
            have HN := hide (NoSp.num HL.out.symm 7 _ rfl (by omega) (fun v hv e => hbig (by rw [dec_inj (hp.symm.trans e)]; exact hv)))
            clear hbig hp hu
            obtain ⟨b0, b1, b2, b3, b4, b5, b6, b7, b8, b9, b10, b11, b12, b13⟩ := spc_cells0 SA.out.res
            have f0 := fun i => Blk.frozen SA.out.res i
            have f00 := f0 0
            have f01 := f0 1
            have f02 := f0 2
            have f03 := f0 3
            have f04 := f0 4
            have f05 := f0 5
            have f06 := f0 6
            have f07 := f0 7
            have f08 := f0 8
            have f09 := f0 9
            have f010 := f0 10
            have f011 := f0 11
            have f012 := f0 12
            have f013 := f0 13
            have zz1 := SA.out.lts
            have zz2 : w.heap.size < wa.heap.size := by omega
            clear f0
            go_wp2
            refine bodyPost_ret (v := .tuple #[.agg #[.int .i64 0, .int .i64 0, .bool false, .int .u64 0, .int .u64 0, .int .u64 0, .int .u64 0, .int .u64 0, .int .u64 0, .int .u64 0, .int .u64 0, .int .u64 0, .int .i64 0, .int .i64 0], .int .i64 2]) (by simp [results, Tryz.results9, go_sem, b0, b1, b2, b3, b4, b5, b6, b7, b8, b9, b10, b11, b12, b13]) rfl ⟨.inr ⟨HN.out, rfl⟩, ?_⟩
            have C2 := SA.out.chg
            iterate 14 (with_reducible refine Chg.setCell ?_ _ (Or.inr (Nat.le_refl _)))
            exact C2
          · have hb1 : ¬ (9223372036854775807 : Int) < (u : Int) := by omega
            have hw1 : IntKind.i64.wrap (u : Int) = (u : Int) := IntWalk.i64_in _ (by omega)
            have HV2 := hide (HV.out.s7 (v := u) (by omega) hp)
            have d0 := Blk.cell SA.out.box 13
            have f0 := Blk.frozen SA.out.box 13
            have zz := SA.out.lts
            have S2 := hide (SA.out.set_bt u)
            have RG4 := hide (ranges_chg RG3.out ((Chg.refl (fun j => j = w.heap.size + 2) wa).setCell (.int .i64 (u : Int)) (a := ⟨w.heap.size + 2, 13, none⟩) (.inl rfl)) (by omega) (by have := R3.out; omega))
            simp at d0
            clear hbig hp hu
            go_wp2
            go_roundw
            case rel => exact ⟨_, _, i, p, k, u, LF2.out, RG4, S2, HV2⟩
            case measure =>
              rw [RG4.out.left_eq, HR.out.left_eq]
              exact HLT.out
        · have HN := hide (NoSp.num HL.out.symm 7 _ rfl (by omega) (fun v hv => hno v (by omega)))
          clear hno
          obtain ⟨b0, b1, b2, b3, b4, b5, b6, b7, b8, b9, b10, b11, b12, b13⟩ := spc_cells0 SA.out.res
          have f0 := fun i => Blk.frozen SA.out.res i
          have f00 := f0 0
          have f01 := f0 1
          have f02 := f0 2
          have f03 := f0 3
          have f04 := f0 4
          have f05 := f0 5
          have f06 := f0 6
          have f07 := f0 7
          have f08 := f0 8
          have f09 := f0 9
          have f010 := f0 10
          have f011 := f0 11
          have f012 := f0 12
          have f013 := f0 13
          have zz1 := SA.out.lts
          have zz2 : w.heap.size < wa.heap.size := by omega
          clear f0
          go_wp2
          refine bodyPost_ret (v := .tuple #[.agg #[.int .i64 0, .int .i64 0, .bool false, .int .u64 0, .int .u64 0, .int .u64 0, .int .u64 0, .int .u64 0, .int .u64 0, .int .u64 0, .int .u64 0, .int .u64 0, .int .i64 0, .int .i64 0], .int .i64 2]) (by simp [results, Tryz.results9, go_sem, b0, b1, b2, b3, b4, b5, b6, b7, b8, b9, b10, b11, b12, b13]) rfl ⟨.inr ⟨HN.out, rfl⟩, ?_⟩
          have C2 := SA.out.chg
          iterate 14 (with_reducible refine Chg.setCell ?_ _ (Or.inr (Nat.le_refl _)))
          exact C2
set_option maxRecDepth 100000 in
set_option maxHeartbeats 16000000 in
theorem s13Parse_longB (s : ByteArray) (w : World) (hd : Door w) (hs : s.size ≤ 1000) (h8 : (pieces 32 s.data.toList).length = 8) (hP0 : ¬ OkC s.data.toList) : Calls Tryz.prog 9 #[.string s] w fun e w' => SpIs s.data.toList e ∧ Chg NoChg w w' := by
  have HD := hide hd
  have hP := hide hP0
  have HS := hide (split_any s (w.alloc (.cells #[.int .i64 0, .int .i64 0, .bool false, .int .u64 0, .int .u64 0, .int .u64 0, .int .u64 0, .int .u64 0, .int .u64 0, .int .u64 0, .int .u64 0, .int .u64 0, .int .i64 0, .int .i64 0] 26)) (hd.keep ((Chg.refl NoChg w).alloc _)) hs)
  have H8 := hide h8
  clear hd h8 hP0
  go_enter Tryz.func9, Tryz.ntmps9
  go_wp2_with fail
  refine HS.out.mono ?_
  rintro e w1 ⟨L, hL, rfl, rfl⟩
  have hl8 : L.length = 8 := by
    have h := congrArg List.length hL
    have := H8.out
    simp at h
    omega
  obtain ⟨x0, x1, x2, x3, x4, x5, x6, x7, rfl⟩ : ∃ x0 x1 x2 x3 x4 x5 x6 x7, L = [x0, x1, x2, x3, x4, x5, x6, x7] := by
    match L, hl8 with
    | [x0, x1, x2, x3, x4, x5, x6, x7], _ => exact ⟨x0, x1, x2, x3, x4, x5, x6, x7, rfl⟩
  have HL := hide hL
  clear hL hl8 HS
  obtain ⟨b, hb⟩ : ∃ b, (x0.toList == [108, 101, 97, 102]) = b := ⟨_, rfl⟩
  have HB := hide hb
  have hsz := fun (x : ByteArray) (hx : x.data.toList ∈ pieces 32 s.data.toList) => word_size2 s x hx hs
  have HZ := hide hsz
  clear hsz
  obtain ⟨w1, w2, w3, w4, w5, r, e1, e2, e3, e4, e5, hrg, hc5, hr⟩ := map4 (((w.alloc (.cells #[.int .i64 0, .int .i64 0, .bool false, .int .u64 0, .int .u64 0, .int .u64 0, .int .u64 0, .int .u64 0, .int .u64 0, .int .u64 0, .int .u64 0, .int .u64 0, .int .i64 0, .int .i64 0] 26)).alloc (.cells (([x0, x1, x2, x3, x4, x5, x6, x7] : List ByteArray).map Value.string).toArray 9)).alloc (.cells #[.int .i64 0, .int .i64 0, .bool b, .int .u64 0, .int .u64 0, .int .u64 0, .int .u64 0, .int .u64 0, .int .u64 0, .int .u64 0, .int .u64 0, .int .u64 0, .int .i64 0, .int .i64 0] 26)) (w.heap.size + 2) (w.heap.size + 3) (by simp)
  have RG := hide hrg
  have R3 := hide hr
  have S5 := hide ((SSt.start w [x0, x1, x2, x3, x4, x5, x6, x7] b).keep0 hc5)
  clear hrg hc5 hr
  simp only [List.map_cons, List.map_nil] at e1
  have hmm := @run_makeMap Tryz.prog
  go_wp2
  clear e1 e2 e3 e4 e5 hmm
  go_loopw [6] (fun _ wr => ∃ (left : Lit → Bool) (cnt i p k t : Nat), Left4 left ∧ Hid (wr.ranges Tryz.prog 3 (ptrR (w.heap.size + 2)) (w.heap.size + 3) r 4 D4 left cnt) ∧ Hid (SSt w [x0, x1, x2, x3, x4, x5, x6, x7] wr i p b ⟨0, 0, 0⟩ ⟨0, 0, 0⟩ ⟨0, 0, 0⟩ k t) ∧ Hid (VInv x1 x2 x6 x7 left i p k t)) (fun _ wr => wr.rangeLeft (w.heap.size + 3) r)
  case atStart => exact ⟨_, _, 0, 0, 0, 0, Left4.start, RG, S5, hide (VInv.start x1 x2 x6 x7)⟩
  case round =>
    obtain ⟨left, cnt, i, p, k, t, hl, HR, ST, HV⟩ := hrel
    clear RG S5
    rcases next4 HR.out hl 0 with ⟨_, hnone, hrun⟩ | ⟨x, o, wn, cnt', hx, hlx, hrun, hen, hrg, hlt, hcn⟩
    · skip
      obtain ⟨wo, rfl⟩ : ∃ wo : World, wo = wr := ⟨_, rfl⟩
      have HVI := hide HV.out
      have HV1 := hide (HV.out.2.2.2.2.1 (hnone _))
      have HV2 := hide (HV.out.2.2.2.2.2.1 (hnone _))
      have HV6 := hide (HV.out.2.2.2.2.2.2.1 (hnone _))
      have HV7 := hide (HV.out.2.2.2.2.2.2.2 (hnone _))
      have SP0 := hide (ST.out.keep0 ((Chg.refl NoChg wo).alloc (.cells #[.pointer (some ⟨w.heap.size + 2, 3, none⟩), .pointer (some ⟨w.heap.size + 2, 6, none⟩), .pointer (some ⟨w.heap.size + 2, 9, none⟩)] 56)))
      have PP0 := hide (Blk.new wo #[.pointer (some ⟨w.heap.size + 2, 3, none⟩), .pointer (some ⟨w.heap.size + 2, 6, none⟩), .pointer (some ⟨w.heap.size + 2, 9, none⟩)] 56)
      have hX : w.heap.size + 2 < wo.heap.size := ST.out.lts
      have HXX := hide hX
      clear hl hX
      go_wp2
      go_loopw [63] (fun jv wr => ∃ (j : Nat) (r h u : Crv), jv = .int .i64 j ∧ j ≤ 3 ∧ Hid (SSt w [x0, x1, x2, x3, x4, x5, x6, x7] wr i p b r h u k t) ∧ Hid (Blk wr wo.heap.size #[.pointer (some ⟨w.heap.size + 2, 3, none⟩), .pointer (some ⟨w.heap.size + 2, 6, none⟩), .pointer (some ⟨w.heap.size + 2, 9, none⟩)] 56) ∧ Hid (WInv x3 x4 x5 j r h u)) (fun jv _ => 3 - (RowKit.intOf jv).toNat)
      case atStart => exact ⟨0, _, _, _, rfl, by omega, SP0, PP0, hide (WInv.start x3 x4 x5)⟩
      case round =>
        clear hrun SP0 PP0 ST HV HR
        obtain ⟨j, r', h, u, rfl, hj3, ST, PP, HWI⟩ := hrel
        match j, hj3 with
        | 0, _ =>
          skip
          have hw := ST.out.word 3 (by simp)
          simp at hw
          have g0 := Blk.cell PP.out 0
          simp at g0
          have zz := ST.out.lts
          have zz1 : w.heap.size + 1 < wr.heap.size := by omega
          have zz3 := Blk.lt PP.out
          go_wp2_with fail
          refine (s13Curve_any x3 _ (HD.out.keep ST.out.chg) (HZ.out x3 (by rw [← HL.out]; simp))).mono ?_
          rintro e wa ⟨hN, ca⟩
          have SA := hide (ST.out.keep0 ca)
          have PA := hide (ca.blk PP.out (fun h => h))
          clear ca hw zz zz1 g0 zz3
          rcases hN with ⟨c, hc, rfl⟩ | ⟨hno, rfl⟩
          · have HW2 := hide (HWI.out.s0 hc)
            have d0 := Blk.cell SA.out.box 3
            have d1 := Blk.cell SA.out.box 4
            have d2 := Blk.cell SA.out.box 5
            have f0 := Blk.frozen SA.out.box 3
            have f1 := Blk.frozen SA.out.box 4
            have f2 := Blk.frozen SA.out.box 5
            have zz := SA.out.lts
            simp at d0 d1 d2
            have S2 := hide ((SA.out.set_real c).keep0 ((Chg.refl NoChg _).alloc (.cells #[.int .u64 (c.f : Int), .int .u64 (c.l : Int), .int .u64 (c.r : Int)] 24)))
            have P2 := hide ((((PA.out.other (a := ⟨w.heap.size + 2, 3, none⟩) (.int .u64 (c.f : Int)) (by have := HXX.out; simp; omega)).other (a := ⟨w.heap.size + 2, 4, none⟩) (.int .u64 (c.l : Int)) (by have := HXX.out; simp; omega)).other (a := ⟨w.heap.size + 2, 5, none⟩) (.int .u64 (c.r : Int)) (by have := HXX.out; simp; omega)).alloc (.cells #[.int .u64 (c.f : Int), .int .u64 (c.l : Int), .int .u64 (c.r : Int)] 24))
            clear hc
            go_wp2
            go_roundw
            case rel => exact ⟨0 + 1, c, h, u, by go_num, by omega, S2, P2, HW2⟩
            case measure => simp [RowKit.intOf]
          · have HN := hide (NoSp.crv HL.out.symm 3 _ rfl (by omega) hno)
            clear hno
            have SB := hide (SA.out.keep0 ((Chg.refl NoChg wa).alloc (.cells #[.int .u64 0, .int .u64 0, .int .u64 0] 24)))
            obtain ⟨b0, b1, b2, b3, b4, b5, b6, b7, b8, b9, b10, b11, b12, b13⟩ := spc_cells0 SB.out.res
            have f0 := fun i => Blk.frozen SB.out.res i
            have f00 := f0 0
            have f01 := f0 1
            have f02 := f0 2
            have f03 := f0 3
            have f04 := f0 4
            have f05 := f0 5
            have f06 := f0 6
            have f07 := f0 7
            have f08 := f0 8
            have f09 := f0 9
            have f010 := f0 10
            have f011 := f0 11
            have f012 := f0 12
            have f013 := f0 13
            have zz1 := SB.out.lts
            have zz2 : w.heap.size < (wa.alloc (.cells #[.int .u64 0, .int .u64 0, .int .u64 0] 24)).heap.size := by omega
            clear f0
            go_wp2
            refine bodyPost_ret (v := .tuple #[.agg #[.int .i64 0, .int .i64 0, .bool false, .int .u64 0, .int .u64 0, .int .u64 0, .int .u64 0, .int .u64 0, .int .u64 0, .int .u64 0, .int .u64 0, .int .u64 0, .int .i64 0, .int .i64 0], .int .i64 2]) (by simp [results, Tryz.results9, go_sem, b0, b1, b2, b3, b4, b5, b6, b7, b8, b9, b10, b11, b12, b13]) rfl ⟨.inr ⟨HN.out, rfl⟩, ?_⟩
            have C2 := SB.out.chg
            iterate 14 (with_reducible refine Chg.setCell ?_ _ (Or.inr (Nat.le_refl _)))
            exact C2
        | 1, _ =>
          skip
          have hw := ST.out.word 4 (by simp)
          simp at hw
          have g0 := Blk.cell PP.out 1
          simp at g0
          have zz := ST.out.lts
          have zz1 : w.heap.size + 1 < wr.heap.size := by omega
          have zz3 := Blk.lt PP.out
          go_wp2_with fail
          refine (s13Curve_any x4 _ (HD.out.keep ST.out.chg) (HZ.out x4 (by rw [← HL.out]; simp))).mono ?_
          rintro e wa ⟨hN, ca⟩
          have SA := hide (ST.out.keep0 ca)
          have PA := hide (ca.blk PP.out (fun h => h))
          clear ca hw zz zz1 g0 zz3
          rcases hN with ⟨c, hc, rfl⟩ | ⟨hno, rfl⟩
          · have HW2 := hide (HWI.out.s1 hc)
            have d0 := Blk.cell SA.out.box 6
            have d1 := Blk.cell SA.out.box 7
            have d2 := Blk.cell SA.out.box 8
            have f0 := Blk.frozen SA.out.box 6
            have f1 := Blk.frozen SA.out.box 7
            have f2 := Blk.frozen SA.out.box 8
            have zz := SA.out.lts
            simp at d0 d1 d2
            have S2 := hide ((SA.out.set_share c).keep0 ((Chg.refl NoChg _).alloc (.cells #[.int .u64 (c.f : Int), .int .u64 (c.l : Int), .int .u64 (c.r : Int)] 24)))
            have P2 := hide ((((PA.out.other (a := ⟨w.heap.size + 2, 6, none⟩) (.int .u64 (c.f : Int)) (by have := HXX.out; simp; omega)).other (a := ⟨w.heap.size + 2, 7, none⟩) (.int .u64 (c.l : Int)) (by have := HXX.out; simp; omega)).other (a := ⟨w.heap.size + 2, 8, none⟩) (.int .u64 (c.r : Int)) (by have := HXX.out; simp; omega)).alloc (.cells #[.int .u64 (c.f : Int), .int .u64 (c.l : Int), .int .u64 (c.r : Int)] 24))
            clear hc
            go_wp2
            go_roundw
            case rel => exact ⟨1 + 1, r', c, u, by go_num, by omega, S2, P2, HW2⟩
            case measure => simp [RowKit.intOf]
          · have HN := hide (NoSp.crv HL.out.symm 4 _ rfl (by omega) hno)
            clear hno
            have SB := hide (SA.out.keep0 ((Chg.refl NoChg wa).alloc (.cells #[.int .u64 0, .int .u64 0, .int .u64 0] 24)))
            obtain ⟨b0, b1, b2, b3, b4, b5, b6, b7, b8, b9, b10, b11, b12, b13⟩ := spc_cells0 SB.out.res
            have f0 := fun i => Blk.frozen SB.out.res i
            have f00 := f0 0
            have f01 := f0 1
            have f02 := f0 2
            have f03 := f0 3
            have f04 := f0 4
            have f05 := f0 5
            have f06 := f0 6
            have f07 := f0 7
            have f08 := f0 8
            have f09 := f0 9
            have f010 := f0 10
            have f011 := f0 11
            have f012 := f0 12
            have f013 := f0 13
            have zz1 := SB.out.lts
            have zz2 : w.heap.size < (wa.alloc (.cells #[.int .u64 0, .int .u64 0, .int .u64 0] 24)).heap.size := by omega
            clear f0
            go_wp2
            refine bodyPost_ret (v := .tuple #[.agg #[.int .i64 0, .int .i64 0, .bool false, .int .u64 0, .int .u64 0, .int .u64 0, .int .u64 0, .int .u64 0, .int .u64 0, .int .u64 0, .int .u64 0, .int .u64 0, .int .i64 0, .int .i64 0], .int .i64 2]) (by simp [results, Tryz.results9, go_sem, b0, b1, b2, b3, b4, b5, b6, b7, b8, b9, b10, b11, b12, b13]) rfl ⟨.inr ⟨HN.out, rfl⟩, ?_⟩
            have C2 := SB.out.chg
            iterate 14 (with_reducible refine Chg.setCell ?_ _ (Or.inr (Nat.le_refl _)))
            exact C2
        | 2, _ =>
          skip
          have hw := ST.out.word 5 (by simp)
          simp at hw
          have g0 := Blk.cell PP.out 2
          simp at g0
          have zz := ST.out.lts
          have zz1 : w.heap.size + 1 < wr.heap.size := by omega
          have zz3 := Blk.lt PP.out
          go_wp2_with fail
          refine (s13Curve_any x5 _ (HD.out.keep ST.out.chg) (HZ.out x5 (by rw [← HL.out]; simp))).mono ?_
          rintro e wa ⟨hN, ca⟩
          have SA := hide (ST.out.keep0 ca)
          have PA := hide (ca.blk PP.out (fun h => h))
          clear ca hw zz zz1 g0 zz3
          rcases hN with ⟨c, hc, rfl⟩ | ⟨hno, rfl⟩
          · have HW2 := hide (HWI.out.s2 hc)
            have d0 := Blk.cell SA.out.box 9
            have d1 := Blk.cell SA.out.box 10
            have d2 := Blk.cell SA.out.box 11
            have f0 := Blk.frozen SA.out.box 9
            have f1 := Blk.frozen SA.out.box 10
            have f2 := Blk.frozen SA.out.box 11
            have zz := SA.out.lts
            simp at d0 d1 d2
            have S2 := hide ((SA.out.set_upper c).keep0 ((Chg.refl NoChg _).alloc (.cells #[.int .u64 (c.f : Int), .int .u64 (c.l : Int), .int .u64 (c.r : Int)] 24)))
            have P2 := hide ((((PA.out.other (a := ⟨w.heap.size + 2, 9, none⟩) (.int .u64 (c.f : Int)) (by have := HXX.out; simp; omega)).other (a := ⟨w.heap.size + 2, 10, none⟩) (.int .u64 (c.l : Int)) (by have := HXX.out; simp; omega)).other (a := ⟨w.heap.size + 2, 11, none⟩) (.int .u64 (c.r : Int)) (by have := HXX.out; simp; omega)).alloc (.cells #[.int .u64 (c.f : Int), .int .u64 (c.l : Int), .int .u64 (c.r : Int)] 24))
            clear hc
            go_wp2
            go_roundw
            case rel => exact ⟨2 + 1, r', h, c, by go_num, by omega, S2, P2, HW2⟩
            case measure => simp [RowKit.intOf]
          · have HN := hide (NoSp.crv HL.out.symm 5 _ rfl (by omega) hno)
            clear hno
            have SB := hide (SA.out.keep0 ((Chg.refl NoChg wa).alloc (.cells #[.int .u64 0, .int .u64 0, .int .u64 0] 24)))
            obtain ⟨b0, b1, b2, b3, b4, b5, b6, b7, b8, b9, b10, b11, b12, b13⟩ := spc_cells0 SB.out.res
            have f0 := fun i => Blk.frozen SB.out.res i
            have f00 := f0 0
            have f01 := f0 1
            have f02 := f0 2
            have f03 := f0 3
            have f04 := f0 4
            have f05 := f0 5
            have f06 := f0 6
            have f07 := f0 7
            have f08 := f0 8
            have f09 := f0 9
            have f010 := f0 10
            have f011 := f0 11
            have f012 := f0 12
            have f013 := f0 13
            have zz1 := SB.out.lts
            have zz2 : w.heap.size < (wa.alloc (.cells #[.int .u64 0, .int .u64 0, .int .u64 0] 24)).heap.size := by omega
            clear f0
            go_wp2
            refine bodyPost_ret (v := .tuple #[.agg #[.int .i64 0, .int .i64 0, .bool false, .int .u64 0, .int .u64 0, .int .u64 0, .int .u64 0, .int .u64 0, .int .u64 0, .int .u64 0, .int .u64 0, .int .u64 0, .int .i64 0, .int .i64 0], .int .i64 2]) (by simp [results, Tryz.results9, go_sem, b0, b1, b2, b3, b4, b5, b6, b7, b8, b9, b10, b11, b12, b13]) rfl ⟨.inr ⟨HN.out, rfl⟩, ?_⟩
            have C2 := SB.out.chg
            iterate 14 (with_reducible refine Chg.setCell ?_ _ (Or.inr (Nat.le_refl _)))
            exact C2
        | 3, _ =>
          obtain ⟨q0, q1, q2, q3, q4, q5⟩ := HWI.out
          refine absurd (fun k h1 h2 x hx => ?_) hP.out
          rw [← HL.out] at hx
          have hk : k = 3 ∨ k = 4 ∨ k = 5 := by omega
          rcases hk with rfl | rfl | rfl
          · simp at hx
            exact ⟨r', by rw [← hx]; exact q3 (by omega), q0⟩
          · simp at hx
            exact ⟨h, by rw [← hx]; exact q4 (by omega), q1⟩
          · simp at hx
            exact ⟨u, by rw [← hx]; exact q5 (by omega), q2⟩
      
    · have HLT := hide hlt
      have RG2 := hide hrg
      have LF2 := hide (hl.step (.int .i64 x))
      have SN := hide (ST.out.keep hcn (fun j hj => by have := R3.out; omega))
      clear hl hlx hlt hrg hcn
      rcases hx with ⟨rfl, rfl⟩ | ⟨rfl, rfl⟩ | ⟨rfl, rfl⟩ | ⟨rfl, rfl⟩
      · skip
        have hw := SN.out.word 1 (by simp)
        simp at hw
        have zz := SN.out.lts
        have zz1 : w.heap.size + 1 < wn.heap.size := by omega
        go_wp2_with fail
        refine (s13Number_any x1 _ (HD.out.keep SN.out.chg) (HZ.out x1 (by rw [← HL.out]; simp))).mono ?_
        rintro e wa ⟨hN, ca⟩
        have RG3 := hide (ranges_chg RG2.out ca (fun h => h) (fun h => h))
        have SA := hide (SN.out.keep0 ca)
        clear ca hw zz zz1 hrun hen
        rcases hN with ⟨u, hu, hp, rfl⟩ | ⟨hno, m, rfl⟩
        · by_cases hbig : ¬ u < 9223372036854775808
          · have hb1 : (9223372036854775807 : Int) < (u : Int) := by omega
            have HN := hide (NoSp.num HL.out.symm 1 _ rfl (by omega) (fun v hv e => hbig (by rw [dec_inj (hp.symm.trans e)]; exact hv)))
            clear hbig hp hu
            obtain ⟨b0, b1, b2, b3, b4, b5, b6, b7, b8, b9, b10, b11, b12, b13⟩ := spc_cells0 SA.out.res
            have f0 := fun i => Blk.frozen SA.out.res i
            have f00 := f0 0
            have f01 := f0 1
            have f02 := f0 2
            have f03 := f0 3
            have f04 := f0 4
            have f05 := f0 5
            have f06 := f0 6
            have f07 := f0 7
            have f08 := f0 8
            have f09 := f0 9
            have f010 := f0 10
            have f011 := f0 11
            have f012 := f0 12
            have f013 := f0 13
            have zz1 := SA.out.lts
            have zz2 : w.heap.size < wa.heap.size := by omega
            clear f0
            go_wp2
            refine bodyPost_ret (v := .tuple #[.agg #[.int .i64 0, .int .i64 0, .bool false, .int .u64 0, .int .u64 0, .int .u64 0, .int .u64 0, .int .u64 0, .int .u64 0, .int .u64 0, .int .u64 0, .int .u64 0, .int .i64 0, .int .i64 0], .int .i64 2]) (by simp [results, Tryz.results9, go_sem, b0, b1, b2, b3, b4, b5, b6, b7, b8, b9, b10, b11, b12, b13]) rfl ⟨.inr ⟨HN.out, rfl⟩, ?_⟩
            have C2 := SA.out.chg
            iterate 14 (with_reducible refine Chg.setCell ?_ _ (Or.inr (Nat.le_refl _)))
            exact C2
          · have hb1 : ¬ (9223372036854775807 : Int) < (u : Int) := by omega
            have hw1 : IntKind.i64.wrap (u : Int) = (u : Int) := IntWalk.i64_in _ (by omega)
            have HV2 := hide (HV.out.s1 (v := u) (by omega) hp)
            have d0 := Blk.cell SA.out.box 0
            have f0 := Blk.frozen SA.out.box 0
            have zz := SA.out.lts
            have S2 := hide (SA.out.set_id u)
            have RG4 := hide (ranges_chg RG3.out ((Chg.refl (fun j => j = w.heap.size + 2) wa).setCell (.int .i64 (u : Int)) (a := ⟨w.heap.size + 2, 0, none⟩) (.inl rfl)) (by omega) (by have := R3.out; omega))
            simp at d0
            clear hbig hp hu
            go_wp2
            go_roundw
            case rel => exact ⟨_, _, u, p, k, t, LF2.out, RG4, S2, HV2⟩
            case measure =>
              rw [RG4.out.left_eq, HR.out.left_eq]
              exact HLT.out
        · have HN := hide (NoSp.num HL.out.symm 1 _ rfl (by omega) (fun v hv => hno v (by omega)))
          clear hno
          obtain ⟨b0, b1, b2, b3, b4, b5, b6, b7, b8, b9, b10, b11, b12, b13⟩ := spc_cells0 SA.out.res
          have f0 := fun i => Blk.frozen SA.out.res i
          have f00 := f0 0
          have f01 := f0 1
          have f02 := f0 2
          have f03 := f0 3
          have f04 := f0 4
          have f05 := f0 5
          have f06 := f0 6
          have f07 := f0 7
          have f08 := f0 8
          have f09 := f0 9
          have f010 := f0 10
          have f011 := f0 11
          have f012 := f0 12
          have f013 := f0 13
          have zz1 := SA.out.lts
          have zz2 : w.heap.size < wa.heap.size := by omega
          clear f0
          go_wp2
          refine bodyPost_ret (v := .tuple #[.agg #[.int .i64 0, .int .i64 0, .bool false, .int .u64 0, .int .u64 0, .int .u64 0, .int .u64 0, .int .u64 0, .int .u64 0, .int .u64 0, .int .u64 0, .int .u64 0, .int .i64 0, .int .i64 0], .int .i64 2]) (by simp [results, Tryz.results9, go_sem, b0, b1, b2, b3, b4, b5, b6, b7, b8, b9, b10, b11, b12, b13]) rfl ⟨.inr ⟨HN.out, rfl⟩, ?_⟩
          have C2 := SA.out.chg
          iterate 14 (with_reducible refine Chg.setCell ?_ _ (Or.inr (Nat.le_refl _)))
          exact C2
      · skip
        have hw := SN.out.word 2 (by simp)
        simp at hw
        have zz := SN.out.lts
        have zz1 : w.heap.size + 1 < wn.heap.size := by omega
        go_wp2_with fail
        refine (s13Number_any x2 _ (HD.out.keep SN.out.chg) (HZ.out x2 (by rw [← HL.out]; simp))).mono ?_
        rintro e wa ⟨hN, ca⟩
        have RG3 := hide (ranges_chg RG2.out ca (fun h => h) (fun h => h))
        have SA := hide (SN.out.keep0 ca)
        clear ca hw zz zz1 hrun hen
        rcases hN with ⟨u, hu, hp, rfl⟩ | ⟨hno, m, rfl⟩
        · by_cases hbig : ¬ u < 9223372036854775808
          · have hb1 : (9223372036854775807 : Int) < (u : Int) := by omega
            have HN := hide (NoSp.num HL.out.symm 2 _ rfl (by omega) (fun v hv e => hbig (by rw [dec_inj (hp.symm.trans e)]; exact hv)))
            clear hbig hp hu
            obtain ⟨b0, b1, b2, b3, b4, b5, b6, b7, b8, b9, b10, b11, b12, b13⟩ := spc_cells0 SA.out.res
            have f0 := fun i => Blk.frozen SA.out.res i
            have f00 := f0 0
            have f01 := f0 1
            have f02 := f0 2
            have f03 := f0 3
            have f04 := f0 4
            have f05 := f0 5
            have f06 := f0 6
            have f07 := f0 7
            have f08 := f0 8
            have f09 := f0 9
            have f010 := f0 10
            have f011 := f0 11
            have f012 := f0 12
            have f013 := f0 13
            have zz1 := SA.out.lts
            have zz2 : w.heap.size < wa.heap.size := by omega
            clear f0
            go_wp2
            refine bodyPost_ret (v := .tuple #[.agg #[.int .i64 0, .int .i64 0, .bool false, .int .u64 0, .int .u64 0, .int .u64 0, .int .u64 0, .int .u64 0, .int .u64 0, .int .u64 0, .int .u64 0, .int .u64 0, .int .i64 0, .int .i64 0], .int .i64 2]) (by simp [results, Tryz.results9, go_sem, b0, b1, b2, b3, b4, b5, b6, b7, b8, b9, b10, b11, b12, b13]) rfl ⟨.inr ⟨HN.out, rfl⟩, ?_⟩
            have C2 := SA.out.chg
            iterate 14 (with_reducible refine Chg.setCell ?_ _ (Or.inr (Nat.le_refl _)))
            exact C2
          · have hb1 : ¬ (9223372036854775807 : Int) < (u : Int) := by omega
            have hw1 : IntKind.i64.wrap (u : Int) = (u : Int) := IntWalk.i64_in _ (by omega)
            have HV2 := hide (HV.out.s2 (v := u) (by omega) hp)
            have d0 := Blk.cell SA.out.box 1
            have f0 := Blk.frozen SA.out.box 1
            have zz := SA.out.lts
            have S2 := hide (SA.out.set_par u)
            have RG4 := hide (ranges_chg RG3.out ((Chg.refl (fun j => j = w.heap.size + 2) wa).setCell (.int .i64 (u : Int)) (a := ⟨w.heap.size + 2, 1, none⟩) (.inl rfl)) (by omega) (by have := R3.out; omega))
            simp at d0
            clear hbig hp hu
            go_wp2
            go_roundw
            case rel => exact ⟨_, _, i, u, k, t, LF2.out, RG4, S2, HV2⟩
            case measure =>
              rw [RG4.out.left_eq, HR.out.left_eq]
              exact HLT.out
        · have HN := hide (NoSp.num HL.out.symm 2 _ rfl (by omega) (fun v hv => hno v (by omega)))
          clear hno
          obtain ⟨b0, b1, b2, b3, b4, b5, b6, b7, b8, b9, b10, b11, b12, b13⟩ := spc_cells0 SA.out.res
          have f0 := fun i => Blk.frozen SA.out.res i
          have f00 := f0 0
          have f01 := f0 1
          have f02 := f0 2
          have f03 := f0 3
          have f04 := f0 4
          have f05 := f0 5
          have f06 := f0 6
          have f07 := f0 7
          have f08 := f0 8
          have f09 := f0 9
          have f010 := f0 10
          have f011 := f0 11
          have f012 := f0 12
          have f013 := f0 13
          have zz1 := SA.out.lts
          have zz2 : w.heap.size < wa.heap.size := by omega
          clear f0
          go_wp2
          refine bodyPost_ret (v := .tuple #[.agg #[.int .i64 0, .int .i64 0, .bool false, .int .u64 0, .int .u64 0, .int .u64 0, .int .u64 0, .int .u64 0, .int .u64 0, .int .u64 0, .int .u64 0, .int .u64 0, .int .i64 0, .int .i64 0], .int .i64 2]) (by simp [results, Tryz.results9, go_sem, b0, b1, b2, b3, b4, b5, b6, b7, b8, b9, b10, b11, b12, b13]) rfl ⟨.inr ⟨HN.out, rfl⟩, ?_⟩
          have C2 := SA.out.chg
          iterate 14 (with_reducible refine Chg.setCell ?_ _ (Or.inr (Nat.le_refl _)))
          exact C2
      · skip
        have hw := SN.out.word 6 (by simp)
        simp at hw
        have zz := SN.out.lts
        have zz1 : w.heap.size + 1 < wn.heap.size := by omega
        go_wp2_with fail
        refine (s13Number_any x6 _ (HD.out.keep SN.out.chg) (HZ.out x6 (by rw [← HL.out]; simp))).mono ?_
        rintro e wa ⟨hN, ca⟩
        have RG3 := hide (ranges_chg RG2.out ca (fun h => h) (fun h => h))
        have SA := hide (SN.out.keep0 ca)
        clear ca hw zz zz1 hrun hen
        rcases hN with ⟨u, hu, hp, rfl⟩ | ⟨hno, m, rfl⟩
        · by_cases hbig : ¬ u < 9223372036854775808
          · have hb1 : (9223372036854775807 : Int) < (u : Int) := by omega
            have HN := hide (NoSp.num HL.out.symm 6 _ rfl (by omega) (fun v hv e => hbig (by rw [dec_inj (hp.symm.trans e)]; exact hv)))
            clear hbig hp hu
            obtain ⟨b0, b1, b2, b3, b4, b5, b6, b7, b8, b9, b10, b11, b12, b13⟩ := spc_cells0 SA.out.res
            have f0 := fun i => Blk.frozen SA.out.res i
            have f00 := f0 0
            have f01 := f0 1
            have f02 := f0 2
            have f03 := f0 3
            have f04 := f0 4
            have f05 := f0 5
            have f06 := f0 6
            have f07 := f0 7
            have f08 := f0 8
            have f09 := f0 9
            have f010 := f0 10
            have f011 := f0 11
            have f012 := f0 12
            have f013 := f0 13
            have zz1 := SA.out.lts
            have zz2 : w.heap.size < wa.heap.size := by omega
            clear f0
            go_wp2
            refine bodyPost_ret (v := .tuple #[.agg #[.int .i64 0, .int .i64 0, .bool false, .int .u64 0, .int .u64 0, .int .u64 0, .int .u64 0, .int .u64 0, .int .u64 0, .int .u64 0, .int .u64 0, .int .u64 0, .int .i64 0, .int .i64 0], .int .i64 2]) (by simp [results, Tryz.results9, go_sem, b0, b1, b2, b3, b4, b5, b6, b7, b8, b9, b10, b11, b12, b13]) rfl ⟨.inr ⟨HN.out, rfl⟩, ?_⟩
            have C2 := SA.out.chg
            iterate 14 (with_reducible refine Chg.setCell ?_ _ (Or.inr (Nat.le_refl _)))
            exact C2
          · have hb1 : ¬ (9223372036854775807 : Int) < (u : Int) := by omega
            have hw1 : IntKind.i64.wrap (u : Int) = (u : Int) := IntWalk.i64_in _ (by omega)
            have HV2 := hide (HV.out.s6 (v := u) (by omega) hp)
            have d0 := Blk.cell SA.out.box 12
            have f0 := Blk.frozen SA.out.box 12
            have zz := SA.out.lts
            have S2 := hide (SA.out.set_pk u)
            have RG4 := hide (ranges_chg RG3.out ((Chg.refl (fun j => j = w.heap.size + 2) wa).setCell (.int .i64 (u : Int)) (a := ⟨w.heap.size + 2, 12, none⟩) (.inl rfl)) (by omega) (by have := R3.out; omega))
            simp at d0
            clear hbig hp hu
            go_wp2
            go_roundw
            case rel => exact ⟨_, _, i, p, u, t, LF2.out, RG4, S2, HV2⟩
            case measure =>
              rw [RG4.out.left_eq, HR.out.left_eq]
              exact HLT.out
        · have HN := hide (NoSp.num HL.out.symm 6 _ rfl (by omega) (fun v hv => hno v (by omega)))
          clear hno
          obtain ⟨b0, b1, b2, b3, b4, b5, b6, b7, b8, b9, b10, b11, b12, b13⟩ := spc_cells0 SA.out.res
          have f0 := fun i => Blk.frozen SA.out.res i
          have f00 := f0 0
          have f01 := f0 1
          have f02 := f0 2
          have f03 := f0 3
          have f04 := f0 4
          have f05 := f0 5
          have f06 := f0 6
          have f07 := f0 7
          have f08 := f0 8
          have f09 := f0 9
          have f010 := f0 10
          have f011 := f0 11
          have f012 := f0 12
          have f013 := f0 13
          have zz1 := SA.out.lts
          have zz2 : w.heap.size < wa.heap.size := by omega
          clear f0
          go_wp2
          refine bodyPost_ret (v := .tuple #[.agg #[.int .i64 0, .int .i64 0, .bool false, .int .u64 0, .int .u64 0, .int .u64 0, .int .u64 0, .int .u64 0, .int .u64 0, .int .u64 0, .int .u64 0, .int .u64 0, .int .i64 0, .int .i64 0], .int .i64 2]) (by simp [results, Tryz.results9, go_sem, b0, b1, b2, b3, b4, b5, b6, b7, b8, b9, b10, b11, b12, b13]) rfl ⟨.inr ⟨HN.out, rfl⟩, ?_⟩
          have C2 := SA.out.chg
          iterate 14 (with_reducible refine Chg.setCell ?_ _ (Or.inr (Nat.le_refl _)))
          exact C2
      · skip
        have hw := SN.out.word 7 (by simp)
        simp at hw
        have zz := SN.out.lts
        have zz1 : w.heap.size + 1 < wn.heap.size := by omega
        go_wp2_with fail
        refine (s13Number_any x7 _ (HD.out.keep SN.out.chg) (HZ.out x7 (by rw [← HL.out]; simp))).mono ?_
        rintro e wa ⟨hN, ca⟩
        have RG3 := hide (ranges_chg RG2.out ca (fun h => h) (fun h => h))
        have SA := hide (SN.out.keep0 ca)
        clear ca hw zz zz1 hrun hen
        rcases hN with ⟨u, hu, hp, rfl⟩ | ⟨hno, m, rfl⟩
        · by_cases hbig : ¬ u < 9223372036854775808
          · have hb1 : (9223372036854775807 : Int) < (u : Int) := by omega
            have HN := hide (NoSp.num HL.out.symm 7 _ rfl (by omega) (fun v hv e => hbig (by rw [dec_inj (hp.symm.trans e)]; exact hv)))
            clear hbig hp hu
            obtain ⟨b0, b1, b2, b3, b4, b5, b6, b7, b8, b9, b10, b11, b12, b13⟩ := spc_cells0 SA.out.res
            have f0 := fun i => Blk.frozen SA.out.res i
            have f00 := f0 0
            have f01 := f0 1
            have f02 := f0 2
            have f03 := f0 3
            have f04 := f0 4
            have f05 := f0 5
            have f06 := f0 6
            have f07 := f0 7
            have f08 := f0 8
            have f09 := f0 9
            have f010 := f0 10
            have f011 := f0 11
            have f012 := f0 12
            have f013 := f0 13
            have zz1 := SA.out.lts
            have zz2 : w.heap.size < wa.heap.size := by omega
            clear f0
            go_wp2
            refine bodyPost_ret (v := .tuple #[.agg #[.int .i64 0, .int .i64 0, .bool false, .int .u64 0, .int .u64 0, .int .u64 0, .int .u64 0, .int .u64 0, .int .u64 0, .int .u64 0, .int .u64 0, .int .u64 0, .int .i64 0, .int .i64 0], .int .i64 2]) (by simp [results, Tryz.results9, go_sem, b0, b1, b2, b3, b4, b5, b6, b7, b8, b9, b10, b11, b12, b13]) rfl ⟨.inr ⟨HN.out, rfl⟩, ?_⟩
            have C2 := SA.out.chg
            iterate 14 (with_reducible refine Chg.setCell ?_ _ (Or.inr (Nat.le_refl _)))
            exact C2
          · have hb1 : ¬ (9223372036854775807 : Int) < (u : Int) := by omega
            have hw1 : IntKind.i64.wrap (u : Int) = (u : Int) := IntWalk.i64_in _ (by omega)
            have HV2 := hide (HV.out.s7 (v := u) (by omega) hp)
            have d0 := Blk.cell SA.out.box 13
            have f0 := Blk.frozen SA.out.box 13
            have zz := SA.out.lts
            have S2 := hide (SA.out.set_bt u)
            have RG4 := hide (ranges_chg RG3.out ((Chg.refl (fun j => j = w.heap.size + 2) wa).setCell (.int .i64 (u : Int)) (a := ⟨w.heap.size + 2, 13, none⟩) (.inl rfl)) (by omega) (by have := R3.out; omega))
            simp at d0
            clear hbig hp hu
            go_wp2
            go_roundw
            case rel => exact ⟨_, _, i, p, k, u, LF2.out, RG4, S2, HV2⟩
            case measure =>
              rw [RG4.out.left_eq, HR.out.left_eq]
              exact HLT.out
        · have HN := hide (NoSp.num HL.out.symm 7 _ rfl (by omega) (fun v hv => hno v (by omega)))
          clear hno
          obtain ⟨b0, b1, b2, b3, b4, b5, b6, b7, b8, b9, b10, b11, b12, b13⟩ := spc_cells0 SA.out.res
          have f0 := fun i => Blk.frozen SA.out.res i
          have f00 := f0 0
          have f01 := f0 1
          have f02 := f0 2
          have f03 := f0 3
          have f04 := f0 4
          have f05 := f0 5
          have f06 := f0 6
          have f07 := f0 7
          have f08 := f0 8
          have f09 := f0 9
          have f010 := f0 10
          have f011 := f0 11
          have f012 := f0 12
          have f013 := f0 13
          have zz1 := SA.out.lts
          have zz2 : w.heap.size < wa.heap.size := by omega
          clear f0
          go_wp2
          refine bodyPost_ret (v := .tuple #[.agg #[.int .i64 0, .int .i64 0, .bool false, .int .u64 0, .int .u64 0, .int .u64 0, .int .u64 0, .int .u64 0, .int .u64 0, .int .u64 0, .int .u64 0, .int .u64 0, .int .i64 0, .int .i64 0], .int .i64 2]) (by simp [results, Tryz.results9, go_sem, b0, b1, b2, b3, b4, b5, b6, b7, b8, b9, b10, b11, b12, b13]) rfl ⟨.inr ⟨HN.out, rfl⟩, ?_⟩
          have C2 := SA.out.chg
          iterate 14 (with_reducible refine Chg.setCell ?_ _ (Or.inr (Nat.le_refl _)))
          exact C2
theorem s13Parse_any (s : ByteArray) (w : World) (hd : Door w) (hs : s.size ≤ 1000) : Calls Tryz.prog 9 #[.string s] w fun e w' => SpIs s.data.toList e ∧ Chg NoChg w w' := by
  by_cases h8 : (pieces 32 s.data.toList).length = 8
  · by_cases hP : OkC s.data.toList
    · exact s13Parse_longA s w hd hs h8 hP
    · exact s13Parse_longB s w hd hs h8 hP
  · exact s13Parse_short s w hd hs h8
end Go.Proofs.YtofgajlpdnokdaaGreatDoor
