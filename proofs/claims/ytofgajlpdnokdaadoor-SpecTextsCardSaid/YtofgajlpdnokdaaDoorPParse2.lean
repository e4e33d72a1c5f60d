/- packet.Parse, walked. Conditions: at most 1000 bytes; the library's tables and errors are what it lays. -/
import Derived.Test.YtofgajlpdnokdaaDoorPParse
namespace Go.Proofs.YtofgajlpdnokdaaDoor
set_option linter.unusedVariables false
open Go.Shelf Go.RowKit Go.Sort Go.Lib

/-- The state of the loop. -/
structure PSt (w : World) (L : List ByteArray) (wr : World) (a0 a1 a2 a3 : Nat) : Prop where
  chg : Chg NoChg w wr
  res : Blk wr w.heap.size #[.int .u64 0, .int .i64 0, .int .i64 0, .int .u64 0] 24
  spl : Blk wr (w.heap.size + 1) (L.map Value.string).toArray 9
  num : Blk wr (w.heap.size + 2) #[.int .u64 (a0 : Int), .int .u64 (a1 : Int), .int .u64 (a2 : Int), .int .u64 (a3 : Int)] 77
section
variable {w wr w' : World} {L : List ByteArray} {a0 a1 a2 a3 : Nat}
theorem PSt.keep (h : PSt w L wr a0 a1 a2 a3) (c : Chg NoChg wr w') : PSt w L w' a0 a1 a2 a3 :=
  ⟨h.chg.trans' c, c.blk h.res (fun h => h), c.blk h.spl (fun h => h), c.blk h.num (fun h => h)⟩
theorem PSt.set0 (h : PSt w L wr a0 a1 a2 a3) (u : Nat) : PSt w L (wr.setCell ⟨w.heap.size + 2, 0, none⟩ (.int .u64 (u : Int))) u a1 a2 a3 :=
  ⟨h.chg.setCell _ (.inr (by simp)), h.res.other _ (by simp), h.spl.other _ (by simp), h.num.set' _ _ (by simp)⟩
theorem PSt.set1 (h : PSt w L wr a0 a1 a2 a3) (u : Nat) : PSt w L (wr.setCell ⟨w.heap.size + 2, 1, none⟩ (.int .u64 (u : Int))) a0 u a2 a3 :=
  ⟨h.chg.setCell _ (.inr (by simp)), h.res.other _ (by simp), h.spl.other _ (by simp), h.num.set' _ _ (by simp)⟩
theorem PSt.set2 (h : PSt w L wr a0 a1 a2 a3) (u : Nat) : PSt w L (wr.setCell ⟨w.heap.size + 2, 2, none⟩ (.int .u64 (u : Int))) a0 a1 u a3 :=
  ⟨h.chg.setCell _ (.inr (by simp)), h.res.other _ (by simp), h.spl.other _ (by simp), h.num.set' _ _ (by simp)⟩
theorem PSt.set3 (h : PSt w L wr a0 a1 a2 a3) (u : Nat) : PSt w L (wr.setCell ⟨w.heap.size + 2, 3, none⟩ (.int .u64 (u : Int))) a0 a1 a2 u :=
  ⟨h.chg.setCell _ (.inr (by simp)), h.res.other _ (by simp), h.spl.other _ (by simp), h.num.set' _ _ (by simp)⟩
theorem PSt.word (h : PSt w L wr a0 a1 a2 a3) (k : Nat) (hk : k < L.length) : wr.cell? ⟨w.heap.size + 1, k, none⟩ = some (.string L[k]) := by
  rw [Blk.cell h.spl]
  simp [hk]
theorem PSt.start (w : World) (L : List ByteArray) : PSt w L (((w.alloc (.cells #[.int .u64 0, .int .i64 0, .int .i64 0, .int .u64 0] 24)).alloc (.cells (L.map Value.string).toArray 9)).alloc (.cells #[.int .u64 0, .int .u64 0, .int .u64 0, .int .u64 0] 77)) 0 0 0 0 :=
  ⟨(((Chg.refl NoChg w).alloc _).alloc _).alloc _, ((Blk.new' _ _ rfl).alloc _).alloc _, (Blk.new' _ _ (by simp)).alloc _, Blk.new' _ _ (by simp)⟩
theorem PSt.lts (h : PSt w L wr a0 a1 a2 a3) : w.heap.size + 2 < wr.heap.size := h.num.lt
end

set_option maxRecDepth 100000 in
set_option maxHeartbeats 8000000 in
theorem pkParse_any (s : ByteArray) (w : World) (hd : Door w) (hs : s.size ≤ 1000) : Calls Tryd.prog 11 #[.string s] w fun e w' => PkIs s.data.toList e ∧ Chg NoChg w w' := by
  have HD := hide hd
  have HS := hide (split_any s (w.alloc (.cells #[.int .u64 0, .int .i64 0, .int .i64 0, .int .u64 0] 24)) (hd.keep ((Chg.refl NoChg w).alloc _)) hs)
  clear hd
  go_enter Tryd.func11, Tryd.ntmps11
  go_wp2_with fail
  refine HS.out.mono ?_
  rintro e w1 ⟨L, hL, rfl, rfl⟩
  have HL := hide hL
  have S0 := hide (PSt.start w L)
  have Q0 := hide (QInv.start L)
  have hsz : ∀ (k : Nat) (hk : k < L.length), L[k].size ≤ 1000 := fun k hk => by
    have := piece_length 32 s.data.toList L[k].data.toList (by rw [← hL]; exact List.mem_map_of_mem (List.getElem_mem hk))
    simp at this
    omega
  have hlen : L.length ≤ 1001 := by
    have h1 := congrArg List.length hL
    rw [pieces_length] at h1
    have h2 := List.count_le_length (a := (32 : UInt8)) (l := s.data.toList)
    simp at h1 h2
    omega
  have HZ := hide hsz
  clear hsz hL HS
  go_wp2
  go_loopw [17] (fun i wr => ∃ k a0 a1 a2 a3 : Nat, i = .int .i64 k ∧ k ≤ 4 ∧ k ≤ L.length ∧ Hid (QInv L k a0 a1 a2 a3) ∧ Hid (PSt w L wr a0 a1 a2 a3)) (fun i _ => L.length - (RowKit.intOf i).toNat)
  case atStart => exact ⟨0, 0, 0, 0, 0, rfl, by omega, by omega, Q0, S0⟩
  case round =>
    obtain ⟨k, a0, a1, a2, a3, rfl, hk4, hkl, HQ, ST⟩ := hrel
    clear S0 Q0
    by_cases hlt : k < L.length
    · have hx := HZ.out k hlt
      have HX := hide (rfl : L[k]'hlt = L[k]'hlt)
      have hcell := ST.out.word k hlt
      have HBAD := hide (fun h => NoPk.bad HL.out k hlt h)
      have HPU := hide (parseU_any (L[k]'hlt) wr (HD.out.keep ST.out.chg) hx)
      have HDG := hide (digits_any (L[k]'hlt))
      have HDD := hide (digits_dec (L[k]'hlt))
      have HQ0 := hide (fun (e : k = 0) (u : Nat) (hu : u < 18446744073709551616) (hp : Lib.parseUintB 64 (L[k]'hlt).data.toList = .ok u) => (by subst e; exact QInv.s0 HQ.out hu hlt hp : QInv L 1 u a1 a2 a3))
      have HQ1 := hide (fun (e : k = 1) (u : Nat) (hu : u < 18446744073709551616) (hp : Lib.parseUintB 64 (L[k]'hlt).data.toList = .ok u) => (by subst e; exact QInv.s1 HQ.out hu hlt hp : QInv L 2 a0 u a2 a3))
      have HQ2 := hide (fun (e : k = 2) (u : Nat) (hu : u < 18446744073709551616) (hp : Lib.parseUintB 64 (L[k]'hlt).data.toList = .ok u) => (by subst e; exact QInv.s2 HQ.out hu hlt hp : QInv L 3 a0 a1 u a3))
      have HQ3 := hide (fun (e : k = 3) (u : Nat) (hu : u < 18446744073709551616) (hp : Lib.parseUintB 64 (L[k]'hlt).data.toList = .ok u) => (by subst e; exact QInv.s3 HQ.out hu hlt hp : QInv L 4 a0 a1 a2 u))
      have hzz := ST.out.lts
      have hsz1 : w.heap.size + 1 < wr.heap.size := by omega
      have hlt' : (k : Int) < (L.length : Int) := by omega
      go_wp2_with fail
      refine HPU.out.mono ?_
      rintro e wa ⟨hN, ca⟩
      have SA := hide (ST.out.keep ca)
      clear ca hcell hzz hsz1
      rcases hN with ⟨u, hu, hp, rfl⟩ | ⟨hno, m, N, rfl⟩
      · cases hdg : digitsB (L[k]'hlt) with
        | true => 
          rw [hdg] at HDG
          have HU := hide hu
          have HP := hide hp
          clear hu hp hdg
          go_wp2_with fail
          refine (HDG.out _).mono ?_
          rintro e wb ⟨rfl, cb⟩
          have SB := hide (SA.out.keep cb)
          clear cb
          have z1 := SB.out.lts
          rcases (by omega : k = 0 ∨ k = 1 ∨ k = 2 ∨ k = 3 ∨ k = 4) with hk | hk | hk | hk | hk
          · have HQN := hide (HQ0.out hk u HU.out HP.out)
            subst hk
            have d0 := Blk.cell SB.out.num 0
            have f0 := Blk.frozen SB.out.num 0
            have SN := hide (SB.out.set0 u)
            simp at d0
            clear HQ HQ0 HQ1 HQ2 HQ3 HU HP
            go_wp2
            go_roundw
            case rel => exact ⟨0 + 1, _, _, _, _, by go_num, by omega, by omega, HQN, SN⟩
            case measure => simp [RowKit.intOf]; omega
          · have HQN := hide (HQ1.out hk u HU.out HP.out)
            subst hk
            have d1 := Blk.cell SB.out.num 1
            have f1 := Blk.frozen SB.out.num 1
            have SN := hide (SB.out.set1 u)
            simp at d1
            clear HQ HQ0 HQ1 HQ2 HQ3 HU HP
            go_wp2
            go_roundw
            case rel => exact ⟨1 + 1, _, _, _, _, by go_num, by omega, by omega, HQN, SN⟩
            case measure => simp [RowKit.intOf]; omega
          · have HQN := hide (HQ2.out hk u HU.out HP.out)
            subst hk
            have d2 := Blk.cell SB.out.num 2
            have f2 := Blk.frozen SB.out.num 2
            have SN := hide (SB.out.set2 u)
            simp at d2
            clear HQ HQ0 HQ1 HQ2 HQ3 HU HP
            go_wp2
            go_roundw
            case rel => exact ⟨2 + 1, _, _, _, _, by go_num, by omega, by omega, HQN, SN⟩
            case measure => simp [RowKit.intOf]; omega
          · have HQN := hide (HQ3.out hk u HU.out HP.out)
            subst hk
            have d3 := Blk.cell SB.out.num 3
            have f3 := Blk.frozen SB.out.num 3
            have SN := hide (SB.out.set3 u)
            simp at d3
            clear HQ HQ0 HQ1 HQ2 HQ3 HU HP
            go_wp2
            go_roundw
            case rel => exact ⟨3 + 1, _, _, _, _, by go_num, by omega, by omega, HQN, SN⟩
            case measure => simp [RowKit.intOf]; omega
          · have HN := hide (NoPk.words (by rw [← HL.out]; simp; omega))
            obtain ⟨b0, b1, b2, b3⟩ := Pkt.cells4 (w' := wb) (c := 0) (i := 0) (n := 0) (t := 0) SB.out.res (Chg.refl _ _)
            have f0 := Blk.frozen SB.out.res 0
            have f1 := Blk.frozen SB.out.res 1
            have f2 := Blk.frozen SB.out.res 2
            have f3 := Blk.frozen SB.out.res 3
            have z2 := SB.out.lts
            have z3 : w.heap.size < wb.heap.size := by omega
            go_wp2
            refine bodyPost_ret (v := .tuple #[.agg #[.int .u64 0, .int .i64 0, .int .i64 0, .int .u64 0], .int .i64 2]) (by simp [results, Tryd.results11, go_sem, b0, b1, b2, b3]) rfl ⟨.inr ⟨HN.out, rfl⟩, ?_⟩
            have C2 := SB.out.chg
            (repeat' (first | (with_reducible exact Chg.refl _ _) | (with_reducible assumption) | (with_reducible refine Chg.alloc ?_ _) | (with_reducible refine Chg.drewN ?_ _) | (with_reducible refine Chg.drew ?_) | (with_reducible refine Chg.setCell ?_ _ ?_) | (apply Or.inl; with_reducible rfl) | (apply Or.inl; simp; done) | (apply Or.inr; simp; done) | (apply Or.inr; simp; omega)))
        | false =>
          rw [hdg] at HDG
          go_wp2_with fail
          refine (HDG.out _).mono ?_
          rintro e wb ⟨rfl, cb⟩
          have SB := hide (SA.out.keep cb)
          have HN := hide (HBAD.out (fun u hu e => by have := HDD.out u e; rw [hdg] at this; cases this))
          obtain ⟨b0, b1, b2, b3⟩ := Pkt.cells4 (w' := wb) (c := 0) (i := 0) (n := 0) (t := 0) SB.out.res (Chg.refl _ _)
          have f0 := Blk.frozen SB.out.res 0
          have f1 := Blk.frozen SB.out.res 1
          have f2 := Blk.frozen SB.out.res 2
          have f3 := Blk.frozen SB.out.res 3
          have z2 := SB.out.lts
          have z3 : w.heap.size < wb.heap.size := by omega
          clear cb hdg hp hu
          go_wp2
          refine bodyPost_ret (v := .tuple #[.agg #[.int .u64 0, .int .i64 0, .int .i64 0, .int .u64 0], .int .i64 2]) (by simp [results, Tryd.results11, go_sem, b0, b1, b2, b3]) rfl ⟨.inr ⟨HN.out, rfl⟩, ?_⟩
          have C2 := SB.out.chg
          (repeat' (first | (with_reducible exact Chg.refl _ _) | (with_reducible assumption) | (with_reducible refine Chg.alloc ?_ _) | (with_reducible refine Chg.drewN ?_ _) | (with_reducible refine Chg.drew ?_) | (with_reducible refine Chg.setCell ?_ _ ?_) | (apply Or.inl; with_reducible rfl) | (apply Or.inl; simp; done) | (apply Or.inr; simp; done) | (apply Or.inr; simp; omega)))
      · have HNO := hide hno
        clear hno
        cases hdg : digitsB (L[k]'hlt) with
        | true =>
          rw [hdg] at HDG
          go_wp2_with fail
          refine (HDG.out _).mono ?_
          rintro e wb ⟨rfl, cb⟩
          have SB := hide (SA.out.keep cb)
          have HN := hide (HBAD.out (fun u hu e => HNO.out u (by rw [e]; exact parse_dec u hu)))
          obtain ⟨b0, b1, b2, b3⟩ := Pkt.cells4 (w' := wb) (c := 0) (i := 0) (n := 0) (t := 0) SB.out.res (Chg.refl _ _)
          have f0 := Blk.frozen SB.out.res 0
          have f1 := Blk.frozen SB.out.res 1
          have f2 := Blk.frozen SB.out.res 2
          have f3 := Blk.frozen SB.out.res 3
          have z2 := SB.out.lts
          have z3 : w.heap.size < wb.heap.size := by omega
          clear cb hdg
          go_wp2
          refine bodyPost_ret (v := .tuple #[.agg #[.int .u64 0, .int .i64 0, .int .i64 0, .int .u64 0], .int .i64 2]) (by simp [results, Tryd.results11, go_sem, b0, b1, b2, b3]) rfl ⟨.inr ⟨HN.out, rfl⟩, ?_⟩
          have C2 := SB.out.chg
          (repeat' (first | (with_reducible exact Chg.refl _ _) | (with_reducible assumption) | (with_reducible refine Chg.alloc ?_ _) | (with_reducible refine Chg.drewN ?_ _) | (with_reducible refine Chg.drew ?_) | (with_reducible refine Chg.setCell ?_ _ ?_) | (apply Or.inl; with_reducible rfl) | (apply Or.inl; simp; done) | (apply Or.inr; simp; done) | (apply Or.inr; simp; omega)))
        | false =>
          rw [hdg] at HDG
          go_wp2_with fail
          refine (HDG.out _).mono ?_
          rintro e wb ⟨rfl, cb⟩
          have SB := hide (SA.out.keep cb)
          have HN := hide (HBAD.out (fun u hu e => HNO.out u (by rw [e]; exact parse_dec u hu)))
          obtain ⟨b0, b1, b2, b3⟩ := Pkt.cells4 (w' := wb) (c := 0) (i := 0) (n := 0) (t := 0) SB.out.res (Chg.refl _ _)
          have f0 := Blk.frozen SB.out.res 0
          have f1 := Blk.frozen SB.out.res 1
          have f2 := Blk.frozen SB.out.res 2
          have f3 := Blk.frozen SB.out.res 3
          have z2 := SB.out.lts
          have z3 : w.heap.size < wb.heap.size := by omega
          clear cb hdg
          go_wp2
          refine bodyPost_ret (v := .tuple #[.agg #[.int .u64 0, .int .i64 0, .int .i64 0, .int .u64 0], .int .i64 2]) (by simp [results, Tryd.results11, go_sem, b0, b1, b2, b3]) rfl ⟨.inr ⟨HN.out, rfl⟩, ?_⟩
          have C2 := SB.out.chg
          (repeat' (first | (with_reducible exact Chg.refl _ _) | (with_reducible assumption) | (with_reducible refine Chg.alloc ?_ _) | (with_reducible refine Chg.drewN ?_ _) | (with_reducible refine Chg.drew ?_) | (with_reducible refine Chg.setCell ?_ _ ?_) | (apply Or.inl; with_reducible rfl) | (apply Or.inl; simp; done) | (apply Or.inr; simp; done) | (apply Or.inr; simp; omega)))
    · obtain rfl : k = L.length := by omega
      have HF := hide (fun i c n t hp => HQ.out.fin HL.out (i := i) (c := c) (n := n) (t := t) hp)
      obtain ⟨q0, q1, q2, q3, -⟩ := HQ.out
      by_cases hg : a1 < 9223372036854775808 ∧ a2 < 9223372036854775808
      · obtain ⟨g1, g2⟩ := hg
        have e1 : IntKind.i64.wrap (a1 : Int) = (a1 : Int) := IntWalk.i64_in _ (by omega)
        have e2 : IntKind.i64.wrap (a2 : Int) = (a2 : Int) := IntWalk.i64_in _ (by omega)
        have HT := hide (fun w hd => pkText_good a0 a1 a2 a3 q0 g1 g2 q3 w hd)
        have HI : Hid (s.data.toList = pkText a0 a1 a2 a3 → IsPk s.data.toList a0 a1 a2 a3) := hide (fun h => ⟨h, q0, g1, g2, q3⟩)
        have HNO := hide (fun (h : s.data.toList ≠ pkText a0 a1 a2 a3) => (fun i c n t hp => h (by obtain ⟨rfl, rfl, rfl, rfl⟩ := HF.out i c n t hp; exact hp.1) : NoPk s.data.toList))
        generalize pkText a0 a1 a2 a3 = T at HT HI HNO
        clear q0 q1 q2 q3 g1 g2
        have n0 := Blk.cell ST.out.num 0
        have n1 := Blk.cell ST.out.num 1
        have n2 := Blk.cell ST.out.num 2
        have n3 := Blk.cell ST.out.num 3
        have z1 := ST.out.lts
        simp at n0 n1 n2 n3

        go_wp2_with fail
        refine (HT.out _ (HD.out.keep (ST.out.chg.alloc _))).mono ?_
        rintro e w2 ⟨rfl, c2⟩
        have P2 := hide (c2.blk (Blk.new wr #[.int .u64 (a0 : Int), .int .i64 (a1 : Int), .int .i64 (a2 : Int), .int .u64 (a3 : Int)] 24) (fun h => h))
        have S2 := hide (ST.out.keep (((Chg.refl NoChg wr).alloc (.cells #[.int .u64 (a0 : Int), .int .i64 (a1 : Int), .int .i64 (a2 : Int), .int .u64 (a3 : Int)] 24)).trans' c2))
        clear c2 n0 n1 n2 n3

        cases ht : ((bs T).toList == s.toList) with
        | true =>
          have HP := hide (HI.out (by rw [beq_iff_eq] at ht; rw [ByteArray.toList_eq, ByteArray.toList_eq, bs_list] at ht; exact ht.symm))
          obtain ⟨b0, b1, b2, b3⟩ := Pkt.cells4 (w' := w2) (c := 0) (i := 0) (n := 0) (t := 0) S2.out.res (Chg.refl _ _)
          obtain ⟨p0, p1, p2, p3⟩ := Pkt.cells4 (w' := w2) P2.out (Chg.refl _ _)
          have f0 := Blk.frozen S2.out.res 0
          have f1 := Blk.frozen S2.out.res 1
          have f2 := Blk.frozen S2.out.res 2
          have f3 := Blk.frozen S2.out.res 3
          have z2 := S2.out.lts
          have z3 : w.heap.size < w2.heap.size := by omega
          go_wp2
          refine bodyPost_ret (v := .tuple #[.agg #[.int .u64 (a0 : Int), .int .i64 (a1 : Int), .int .i64 (a2 : Int), .int .u64 (a3 : Int)], .int .i64 0]) (by simp [results, Tryd.results11, go_sem, b0, b1, b2, b3]) rfl ⟨.inl ⟨_, _, _, _, HP.out, rfl⟩, ?_⟩
          have C2 := S2.out.chg
          (repeat' (first | (with_reducible exact Chg.refl _ _) | (with_reducible assumption) | (with_reducible refine Chg.alloc ?_ _) | (with_reducible refine Chg.drewN ?_ _) | (with_reducible refine Chg.drew ?_) | (with_reducible refine Chg.setCell ?_ _ ?_) | (apply Or.inl; with_reducible rfl) | (apply Or.inl; simp; done) | (apply Or.inr; simp; done) | (apply Or.inr; simp; omega)))
        | false =>
          have HN := hide (HNO.out (fun e => by rw [beq_eq_false_iff_ne] at ht; rw [ByteArray.toList_eq, ByteArray.toList_eq, bs_list] at ht; exact ht e.symm))
          obtain ⟨b0, b1, b2, b3⟩ := Pkt.cells4 (w' := w2) (c := 0) (i := 0) (n := 0) (t := 0) S2.out.res (Chg.refl _ _)
          have f0 := Blk.frozen S2.out.res 0
          have f1 := Blk.frozen S2.out.res 1
          have f2 := Blk.frozen S2.out.res 2
          have f3 := Blk.frozen S2.out.res 3
          have z2 := S2.out.lts
          have z3 : w.heap.size < w2.heap.size := by omega
          go_wp2
          refine bodyPost_ret (v := .tuple #[.agg #[.int .u64 0, .int .i64 0, .int .i64 0, .int .u64 0], .int .i64 2]) (by simp [results, Tryd.results11, go_sem, b0, b1, b2, b3]) rfl ⟨.inr ⟨HN.out, rfl⟩, ?_⟩
          have C2 := S2.out.chg
          (repeat' (first | (with_reducible exact Chg.refl _ _) | (with_reducible assumption) | (with_reducible refine Chg.alloc ?_ _) | (with_reducible refine Chg.drewN ?_ _) | (with_reducible refine Chg.drew ?_) | (with_reducible refine Chg.setCell ?_ _ ?_) | (apply Or.inl; with_reducible rfl) | (apply Or.inl; simp; done) | (apply Or.inr; simp; done) | (apply Or.inr; simp; omega)))

      · obtain ⟨c1, hc1⟩ : ∃ c1, IntKind.i64.wrap (a1 : Int) = c1 := ⟨_, rfl⟩
        obtain ⟨c2, hc2⟩ : ∃ c2, IntKind.i64.wrap (a2 : Int) = c2 := ⟨_, rfl⟩
        have hneg : c1 < 0 ∨ c2 < 0 := by
          rw [IntKind.wrap_i64] at hc1 hc2
          omega
        have HN := hide (fun i c n t hp => hg (by obtain ⟨rfl, rfl, rfl, rfl⟩ := HF.out i c n t hp; exact ⟨hp.2.2.1, hp.2.2.2.1⟩) : NoPk s.data.toList)
        have HT := hide (fun w => pkText_bad a0 a3 c1 c2 w hneg)
        clear q0 q1 q2 q3 hneg hg
        have n0 := Blk.cell ST.out.num 0
        have n1 := Blk.cell ST.out.num 1
        have n2 := Blk.cell ST.out.num 2
        have n3 := Blk.cell ST.out.num 3
        have z1 := ST.out.lts
        simp at n0 n1 n2 n3

        go_wp2_with fail
        refine (HT.out _).mono ?_
        rintro e w2 ⟨rfl, cc2⟩
        have P2 := hide (cc2.blk (Blk.new wr #[.int .u64 (a0 : Int), .int .i64 c1, .int .i64 c2, .int .u64 (a3 : Int)] 24) (fun h => h))
        have S2 := hide (ST.out.keep (((Chg.refl NoChg wr).alloc (.cells #[.int .u64 (a0 : Int), .int .i64 c1, .int .i64 c2, .int .u64 (a3 : Int)] 24)).trans' cc2))
        clear hc1 hc2 cc2 n0 n1 n2 n3

        have HN := hide (HN.out)
        obtain ⟨b0, b1, b2, b3⟩ := Pkt.cells4 (w' := w2) (c := 0) (i := 0) (n := 0) (t := 0) S2.out.res (Chg.refl _ _)
        have f0 := Blk.frozen S2.out.res 0
        have f1 := Blk.frozen S2.out.res 1
        have f2 := Blk.frozen S2.out.res 2
        have f3 := Blk.frozen S2.out.res 3
        have z2 := S2.out.lts
        have z3 : w.heap.size < w2.heap.size := by omega
        go_wp2
        refine bodyPost_ret (v := .tuple #[.agg #[.int .u64 0, .int .i64 0, .int .i64 0, .int .u64 0], .int .i64 2]) (by simp [results, Tryd.results11, go_sem, b0, b1, b2, b3]) rfl ⟨.inr ⟨HN.out, rfl⟩, ?_⟩
        have C2 := S2.out.chg
        (repeat' (first | (with_reducible exact Chg.refl _ _) | (with_reducible assumption) | (with_reducible refine Chg.alloc ?_ _) | (with_reducible refine Chg.drewN ?_ _) | (with_reducible refine Chg.drew ?_) | (with_reducible refine Chg.setCell ?_ _ ?_) | (apply Or.inl; with_reducible rfl) | (apply Or.inl; simp; done) | (apply Or.inr; simp; done) | (apply Or.inr; simp; omega)))
end Go.Proofs.YtofgajlpdnokdaaDoor
