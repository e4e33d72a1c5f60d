/- spec.Curve. Conditions: at most 1000 bytes; the library's tables and errors are what it lays. -/
import Derived.Test.YtofgajlpdnokdaaGreatDoorSDrawn
namespace Go.Proofs.YtofgajlpdnokdaaGreatDoor
set_option linter.unusedVariables false
open Go.Shelf Go.RowKit Go.Sort Go.Lib

/-- Bytes, and what Curve tells of them. -/
def CrvIs (l : List UInt8) (e : Ending) : Prop :=
  (∃ c : Crv, IsCw l c ∧ e = .returned (.tuple #[.agg #[.int .u64 (c.f : Int), .int .u64 (c.l : Int), .int .u64 (c.r : Int)], .int .i64 0])) ∨ ((∀ c, ¬ IsCw l c) ∧ e = .returned (.tuple #[.agg #[.int .u64 0, .int .u64 0, .int .u64 0], .int .i64 2]))
theorem CrvIs.det (l : List UInt8) : ∃ (c : Crv) (E : Int), ∀ e, CrvIs l e → e = .returned (.tuple #[.agg #[.int .u64 (c.f : Int), .int .u64 (c.l : Int), .int .u64 (c.r : Int)], .int .i64 E]) := by
  by_cases h : ∃ c, IsCw l c
  · obtain ⟨c, hp⟩ := h
    refine ⟨c, 0, fun e he => ?_⟩
    rcases he with ⟨c', hp', rfl⟩ | ⟨hno, _⟩
    · obtain rfl := hp.inj hp'
      rfl
    · exact absurd hp (hno c)
  · refine ⟨⟨0, 0, 0⟩, 2, fun e he => ?_⟩
    rcases he with ⟨c', hp', rfl⟩ | ⟨hno, rfl⟩
    · exact absurd ⟨c', hp'⟩ h
    · rfl

/-- strings.Split at a stroke. -/
theorem splitS_any (s : ByteArray) (w : World) (hd : Door w) (hs : s.size ≤ 1000) : Calls Tryz.prog 21 #[.string s, .string ⟨#[47]⟩] w fun e w' => ∃ L : List ByteArray, L.map (fun b : ByteArray => b.data.toList) = pieces 47 s.data.toList ∧
    e = .returned (.slice (some ⟨w.heap.size, 0, none⟩) L.length L.length) ∧ w' = w.alloc (.cells (L.map Value.string).toArray 9) := by
  obtain ⟨m, hm⟩ := hd.ml
  refine (Tryz.strings_Split s ⟨#[47]⟩ m w (by omega) hm (by decide)).mono fun e w' ⟨h1, h2⟩ => ⟨_, splitB_pieces 47 s, ?_, h2⟩
  have hl : (Lib.splitB ⟨#[47]⟩ 0 (Lib.countB s ⟨#[47]⟩) s).length = Lib.countB s ⟨#[47]⟩ + 1 := Lib.splitB_all _ (by decide) _ _ _ rfl
  rw [hl]
  exact h1

/-- What holds of the numbers read so far. -/
def CInv (x0 x1 x2 : ByteArray) (k a0 a1 a2 : Nat) : Prop :=
  a0 < 18446744073709551616 ∧ a1 < 18446744073709551616 ∧ a2 < 18446744073709551616 ∧ (0 < k → x0.data.toList = Lib.decDigits a0) ∧ (1 < k → x1.data.toList = Lib.decDigits a1) ∧ (2 < k → x2.data.toList = Lib.decDigits a2)
theorem CInv.start (x0 x1 x2 : ByteArray) : CInv x0 x1 x2 0 0 0 0 := ⟨by omega, by omega, by omega, fun h => by omega, fun h => by omega, fun h => by omega⟩
section
variable {x0 x1 x2 : ByteArray} {a0 a1 a2 u : Nat}
theorem CInv.s0 (h : CInv x0 x1 x2 0 a0 a1 a2) (hu : u < 18446744073709551616) (hp : x0.data.toList = Lib.decDigits u) : CInv x0 x1 x2 1 u a1 a2 := by
  obtain ⟨h0, h1, h2, p0, p1, p2⟩ := h
  exact ⟨hu, h1, h2, fun _ => hp, fun h => by omega, fun h => by omega⟩
theorem CInv.s1 (h : CInv x0 x1 x2 1 a0 a1 a2) (hu : u < 18446744073709551616) (hp : x1.data.toList = Lib.decDigits u) : CInv x0 x1 x2 2 a0 u a2 := by
  obtain ⟨h0, h1, h2, p0, p1, p2⟩ := h
  exact ⟨h0, hu, h2, fun _ => p0 (by omega), fun _ => hp, fun h => by omega⟩
theorem CInv.s2 (h : CInv x0 x1 x2 2 a0 a1 a2) (hu : u < 18446744073709551616) (hp : x2.data.toList = Lib.decDigits u) : CInv x0 x1 x2 3 a0 a1 u := by
  obtain ⟨h0, h1, h2, p0, p1, p2⟩ := h
  exact ⟨h0, h1, hu, fun _ => p0 (by omega), fun _ => p1 (by omega), fun _ => hp⟩
end

/-- The state of the loop. -/
structure CSt (w : World) (L : List ByteArray) (wr : World) (a0 a1 a2 : Nat) : Prop where
  chg : Chg NoChg w wr
  res : Blk wr w.heap.size #[.int .u64 0, .int .u64 0, .int .u64 0] 24
  num : Blk wr (w.heap.size + 1) #[.int .u64 (a0 : Int), .int .u64 (a1 : Int), .int .u64 (a2 : Int)] 24
  spl : Blk wr (w.heap.size + 2) (L.map Value.string).toArray 9
  into : Blk wr (w.heap.size + 3) #[.pointer (some ⟨w.heap.size + 1, 0, none⟩), .pointer (some ⟨w.heap.size + 1, 1, none⟩), .pointer (some ⟨w.heap.size + 1, 2, none⟩)] 83
section
variable {w wr w' : World} {L : List ByteArray} {a0 a1 a2 : Nat}
theorem CSt.keep (h : CSt w L wr a0 a1 a2) (c : Chg NoChg wr w') : CSt w L w' a0 a1 a2 :=
  ⟨h.chg.trans' c, c.blk h.res (fun h => h), c.blk h.num (fun h => h), c.blk h.spl (fun h => h), c.blk h.into (fun h => h)⟩
theorem CSt.set0 (h : CSt w L wr a0 a1 a2) (u : Nat) : CSt w L (wr.setCell ⟨w.heap.size + 1, 0, none⟩ (.int .u64 (u : Int))) u a1 a2 :=
  ⟨h.chg.setCell _ (.inr (by simp)), h.res.other _ (by simp), h.num.set' _ _ (by simp), h.spl.other _ (by simp), h.into.other _ (by simp)⟩
theorem CSt.set1 (h : CSt w L wr a0 a1 a2) (u : Nat) : CSt w L (wr.setCell ⟨w.heap.size + 1, 1, none⟩ (.int .u64 (u : Int))) a0 u a2 :=
  ⟨h.chg.setCell _ (.inr (by simp)), h.res.other _ (by simp), h.num.set' _ _ (by simp), h.spl.other _ (by simp), h.into.other _ (by simp)⟩
theorem CSt.set2 (h : CSt w L wr a0 a1 a2) (u : Nat) : CSt w L (wr.setCell ⟨w.heap.size + 1, 2, none⟩ (.int .u64 (u : Int))) a0 a1 u :=
  ⟨h.chg.setCell _ (.inr (by simp)), h.res.other _ (by simp), h.num.set' _ _ (by simp), h.spl.other _ (by simp), h.into.other _ (by simp)⟩
theorem CSt.word (h : CSt w L wr a0 a1 a2) (k : Nat) (hk : k < L.length) : wr.cell? ⟨w.heap.size + 2, k, none⟩ = some (.string L[k]) := by
  rw [Blk.cell h.spl]
  simp [hk]
theorem CSt.lts (h : CSt w L wr a0 a1 a2) : w.heap.size + 3 < wr.heap.size := h.into.lt
theorem CSt.start (w : World) (L : List ByteArray) : CSt w L ((((w.alloc (.cells #[.int .u64 0, .int .u64 0, .int .u64 0] 24)).alloc (.cells #[.int .u64 0, .int .u64 0, .int .u64 0] 24)).alloc (.cells (L.map Value.string).toArray 9)).alloc (.cells #[.pointer (some ⟨w.heap.size + 1, 0, none⟩), .pointer (some ⟨w.heap.size + 1, 1, none⟩), .pointer (some ⟨w.heap.size + 1, 2, none⟩)] 83)) 0 0 0 :=
  ⟨((((Chg.refl NoChg w).alloc _).alloc _).alloc _).alloc _, (((Blk.new' _ _ rfl).alloc _).alloc _).alloc _, ((Blk.new' _ _ (by simp)).alloc _).alloc _, (Blk.new' _ _ (by simp)).alloc _, Blk.new' _ _ (by simp)⟩
end

set_option maxRecDepth 100000 in
set_option maxHeartbeats 8000000 in
theorem s13Curve_any (s : ByteArray) (w : World) (hd : Door w) (hs : s.size ≤ 1000) : Calls Tryz.prog 23 #[.string s] w fun e w' => CrvIs s.data.toList e ∧ Chg NoChg w w' := by
  have HD := hide hd
  have HS := hide (splitS_any s ((w.alloc (.cells #[.int .u64 0, .int .u64 0, .int .u64 0] 24)).alloc (.cells #[.int .u64 0, .int .u64 0, .int .u64 0] 24)) (hd.keep (((Chg.refl NoChg w).alloc _).alloc _)) hs)
  clear hd
  go_enter Tryz.func23, Tryz.ntmps23
  go_wp2_with fail
  refine HS.out.mono ?_
  rintro e w1 ⟨L, hL, rfl, rfl⟩
  have HL := hide hL
  have S0 := hide (CSt.start w L)
  have hsz : ∀ x ∈ L, x.size ≤ 1000 := fun x hx => by
    have := piece_length 47 s.data.toList x.data.toList (by rw [← hL]; exact List.mem_map_of_mem hx)
    simp at this
    omega
  have HZ := hide hsz
  have hll : L.length = (pieces 47 s.data.toList).length := by rw [← hL]; simp
  clear hsz hL HS
  by_cases h3 : L.length = 3
  · clear hll
    obtain ⟨x0, x1, x2, rfl⟩ : ∃ x0 x1 x2, L = [x0, x1, x2] := by
      match L, h3 with
      | [x0, x1, x2], _ => exact ⟨x0, x1, x2, rfl⟩
    have Q0 := hide (CInv.start x0 x1 x2)
    clear h3
    go_wp2
    go_loopw [23] (fun i wr => ∃ k a0 a1 a2 : Nat, i = .int .i64 k ∧ k ≤ 3 ∧ Hid (CInv x0 x1 x2 k a0 a1 a2) ∧ Hid (CSt w [x0, x1, x2] wr a0 a1 a2)) (fun i _ => 3 - (RowKit.intOf i).toNat)
    case atStart => exact ⟨0, 0, 0, 0, rfl, by omega, Q0, S0⟩
    case round =>
      obtain ⟨k, a0, a1, a2, rfl, hk3, HQ, ST⟩ := hrel
      clear S0 Q0
      match k, hk3 with
      | 0, _ =>
        have hcell := ST.out.word 0 (by simp)
        simp at hcell
        have HPU := hide (s13Number_any x0 wr (HD.out.keep ST.out.chg) (HZ.out x0 (by simp)))
        have hzz := ST.out.lts
        have hsz1 : w.heap.size + 2 < wr.heap.size := by omega
        go_wp2_with fail
        refine HPU.out.mono ?_
        rintro e wa ⟨hN, ca⟩
        have SA := hide (ST.out.keep ca)
        clear ca hcell hzz hsz1
        rcases hN with ⟨u, hu, hp, rfl⟩ | ⟨hno, m, rfl⟩
        · have HQN := hide (HQ.out.s0 hu hp)
          have d0 := Blk.cell SA.out.num 0
          have f0 := Blk.frozen SA.out.num 0
          have g0 := Blk.cell SA.out.into 0
          have SN := hide (SA.out.set0 u)
          have zz := SA.out.lts
          simp at d0 g0
          clear HQ hu hp
          go_wp2
          go_roundw
          case rel => exact ⟨0 + 1, _, _, _, by go_num, by omega, HQN, SN⟩
          case measure => simp [RowKit.intOf]
        · have HN := hide (NoCw.word HL.out.symm 0 _ rfl hno)
          obtain ⟨b0, b1, b2⟩ := Crv.cells3 (w' := wa) (f := 0) (l := 0) (r := 0) SA.out.res (Chg.refl _ _)
          have f0 := Blk.frozen SA.out.res 0
          have f1 := Blk.frozen SA.out.res 1
          have f2 := Blk.frozen SA.out.res 2
          have z2 := SA.out.lts
          have z3 : w.heap.size < wa.heap.size := by omega
          clear hno
          go_wp2
          refine bodyPost_ret (v := .tuple #[.agg #[.int .u64 0, .int .u64 0, .int .u64 0], .int .i64 2]) (by simp [results, Tryz.results23, go_sem, b0, b1, b2]) rfl ⟨.inr ⟨HN.out, rfl⟩, ?_⟩
          have C2 := SA.out.chg
          (repeat' (first | (with_reducible exact Chg.refl _ _) | (with_reducible assumption) | (with_reducible refine Chg.alloc ?_ _) | (with_reducible refine Chg.drewN ?_ _) | (with_reducible refine Chg.drew ?_) | (with_reducible refine Chg.setCell ?_ _ ?_) | (apply Or.inl; with_reducible rfl) | (apply Or.inl; simp; done) | (apply Or.inr; simp; done) | (apply Or.inr; simp; omega)))
      | 1, _ =>
        have hcell := ST.out.word 1 (by simp)
        simp at hcell
        have HPU := hide (s13Number_any x1 wr (HD.out.keep ST.out.chg) (HZ.out x1 (by simp)))
        have hzz := ST.out.lts
        have hsz1 : w.heap.size + 2 < wr.heap.size := by omega
        go_wp2_with fail
        refine HPU.out.mono ?_
        rintro e wa ⟨hN, ca⟩
        have SA := hide (ST.out.keep ca)
        clear ca hcell hzz hsz1
        rcases hN with ⟨u, hu, hp, rfl⟩ | ⟨hno, m, rfl⟩
        · have HQN := hide (HQ.out.s1 hu hp)
          have d1 := Blk.cell SA.out.num 1
          have f1 := Blk.frozen SA.out.num 1
          have g1 := Blk.cell SA.out.into 1
          have SN := hide (SA.out.set1 u)
          have zz := SA.out.lts
          simp at d1 g1
          clear HQ hu hp
          go_wp2
          go_roundw
          case rel => exact ⟨1 + 1, _, _, _, by go_num, by omega, HQN, SN⟩
          case measure => simp [RowKit.intOf]
        · have HN := hide (NoCw.word HL.out.symm 1 _ rfl hno)
          obtain ⟨b0, b1, b2⟩ := Crv.cells3 (w' := wa) (f := 0) (l := 0) (r := 0) SA.out.res (Chg.refl _ _)
          have f0 := Blk.frozen SA.out.res 0
          have f1 := Blk.frozen SA.out.res 1
          have f2 := Blk.frozen SA.out.res 2
          have z2 := SA.out.lts
          have z3 : w.heap.size < wa.heap.size := by omega
          clear hno
          go_wp2
          refine bodyPost_ret (v := .tuple #[.agg #[.int .u64 0, .int .u64 0, .int .u64 0], .int .i64 2]) (by simp [results, Tryz.results23, go_sem, b0, b1, b2]) rfl ⟨.inr ⟨HN.out, rfl⟩, ?_⟩
          have C2 := SA.out.chg
          (repeat' (first | (with_reducible exact Chg.refl _ _) | (with_reducible assumption) | (with_reducible refine Chg.alloc ?_ _) | (with_reducible refine Chg.drewN ?_ _) | (with_reducible refine Chg.drew ?_) | (with_reducible refine Chg.setCell ?_ _ ?_) | (apply Or.inl; with_reducible rfl) | (apply Or.inl; simp; done) | (apply Or.inr; simp; done) | (apply Or.inr; simp; omega)))
      | 2, _ =>
        have hcell := ST.out.word 2 (by simp)
        simp at hcell
        have HPU := hide (s13Number_any x2 wr (HD.out.keep ST.out.chg) (HZ.out x2 (by simp)))
        have hzz := ST.out.lts
        have hsz1 : w.heap.size + 2 < wr.heap.size := by omega
        go_wp2_with fail
        refine HPU.out.mono ?_
        rintro e wa ⟨hN, ca⟩
        have SA := hide (ST.out.keep ca)
        clear ca hcell hzz hsz1
        rcases hN with ⟨u, hu, hp, rfl⟩ | ⟨hno, m, rfl⟩
        · have HQN := hide (HQ.out.s2 hu hp)
          have d2 := Blk.cell SA.out.num 2
          have f2 := Blk.frozen SA.out.num 2
          have g2 := Blk.cell SA.out.into 2
          have SN := hide (SA.out.set2 u)
          have zz := SA.out.lts
          simp at d2 g2
          clear HQ hu hp
          go_wp2
          go_roundw
          case rel => exact ⟨2 + 1, _, _, _, by go_num, by omega, HQN, SN⟩
          case measure => simp [RowKit.intOf]
        · have HN := hide (NoCw.word HL.out.symm 2 _ rfl hno)
          obtain ⟨b0, b1, b2⟩ := Crv.cells3 (w' := wa) (f := 0) (l := 0) (r := 0) SA.out.res (Chg.refl _ _)
          have f0 := Blk.frozen SA.out.res 0
          have f1 := Blk.frozen SA.out.res 1
          have f2 := Blk.frozen SA.out.res 2
          have z2 := SA.out.lts
          have z3 : w.heap.size < wa.heap.size := by omega
          clear hno
          go_wp2
          refine bodyPost_ret (v := .tuple #[.agg #[.int .u64 0, .int .u64 0, .int .u64 0], .int .i64 2]) (by simp [results, Tryz.results23, go_sem, b0, b1, b2]) rfl ⟨.inr ⟨HN.out, rfl⟩, ?_⟩
          have C2 := SA.out.chg
          (repeat' (first | (with_reducible exact Chg.refl _ _) | (with_reducible assumption) | (with_reducible refine Chg.alloc ?_ _) | (with_reducible refine Chg.drewN ?_ _) | (with_reducible refine Chg.drew ?_) | (with_reducible refine Chg.setCell ?_ _ ?_) | (apply Or.inl; with_reducible rfl) | (apply Or.inl; simp; done) | (apply Or.inr; simp; done) | (apply Or.inr; simp; omega)))
      | 3, _ =>
        obtain ⟨q0, q1, q2, q3, q4, q5⟩ := HQ.out
        have HP := hide (IsCw.mk (l := s.data.toList) (c := ⟨a0, a1, a2⟩) (by rw [← HL.out]; simp [q3 (by omega), q4 (by omega), q5 (by omega)]) ⟨q0, q1, q2⟩)
        clear q0 q1 q2 q3 q4 q5
        obtain ⟨b0, b1, b2⟩ := Crv.cells3 (w' := wr) (f := 0) (l := 0) (r := 0) ST.out.res (Chg.refl _ _)
        obtain ⟨p0, p1, p2⟩ := Crv.cells3 (w' := wr) ST.out.num (Chg.refl _ _)
        have f0 := Blk.frozen ST.out.res 0
        have f1 := Blk.frozen ST.out.res 1
        have f2 := Blk.frozen ST.out.res 2
        have z2 := ST.out.lts
        have z3 : w.heap.size < wr.heap.size := by omega
        go_wp2
        refine bodyPost_ret (v := .tuple #[.agg #[.int .u64 (a0 : Int), .int .u64 (a1 : Int), .int .u64 (a2 : Int)], .int .i64 0]) (by simp [results, Tryz.results23, go_sem, b0, b1, b2]) rfl ⟨.inl ⟨_, HP.out, rfl⟩, ?_⟩
        have C2 := ST.out.chg
        (repeat' (first | (with_reducible exact Chg.refl _ _) | (with_reducible assumption) | (with_reducible refine Chg.alloc ?_ _) | (with_reducible refine Chg.drewN ?_ _) | (with_reducible refine Chg.drew ?_) | (with_reducible refine Chg.setCell ?_ _ ?_) | (apply Or.inl; with_reducible rfl) | (apply Or.inl; simp; done) | (apply Or.inr; simp; done) | (apply Or.inr; simp; omega)))
  · have h3' : ((L.length : Int) != 3) = true := by simp; omega
    have S1 := hide (S0.out.keep (Chg.refl _ _))
    have HN := hide (NoCw.words (l := s.data.toList) (by omega))
    clear hll h3
    go_wp2
    refine bodyPost_ret (v := .tuple #[.agg #[.int .u64 0, .int .u64 0, .int .u64 0], .int .i64 2]) (by simp [results, Tryz.results23, go_sem]) rfl ⟨.inr ⟨HN.out, rfl⟩, ?_⟩
    (repeat' (first | (with_reducible exact Chg.refl _ _) | (with_reducible assumption) | (with_reducible refine Chg.alloc ?_ _) | (with_reducible refine Chg.drewN ?_ _) | (with_reducible refine Chg.drew ?_) | (with_reducible refine Chg.setCell ?_ _ ?_) | (apply Or.inl; with_reducible rfl) | (apply Or.inl; simp; done) | (apply Or.inr; simp; done) | (apply Or.inr; simp; omega)))
end Go.Proofs.YtofgajlpdnokdaaGreatDoor
