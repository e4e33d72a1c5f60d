/- PacketBack, walked. Condition: the library's tables and errors are what it lays. -/
import Derived.Test.YtofgajlpdnokdaaDoorAwake10
namespace Go.Proofs.YtofgajlpdnokdaaDoor
set_option linter.unusedVariables false
open Go.Shelf Go.RowKit Go.Sort Go.Lib
attribute [local go_sem ↓] run_eql_pkt run_neq_pkt

theorem parse_text (i c n t : Nat) (hi : i < 18446744073709551616) (hc : c < 9223372036854775808) (hn : n < 9223372036854775808) (ht : t < 18446744073709551616) (w : World) (hd : Door w) :
    Calls Tryd.prog 11 #[.string (bs (pkText i c n t))] w fun e w' => e = .returned (.tuple #[.agg #[.int .u64 (i : Int), .int .i64 (c : Int), .int .i64 (n : Int), .int .u64 (t : Int)], .int .i64 0]) ∧ Chg NoChg w w' :=
  (pkParse_any (bs (pkText i c n t)) w hd (by have := pkText_length hi (show c < 18446744073709551616 by omega) (show n < 18446744073709551616 by omega) ht; show (pkText i c n t).toArray.size ≤ 1000; simp only [List.size_toArray]; omega)).mono fun e w' ⟨h, c'⟩ => ⟨by
    rw [bs_list] at h
    have hp : IsPk (pkText i c n t) i c n t := ⟨rfl, hi, hc, hn, ht⟩
    rcases h with ⟨i', c', n', t', hp', rfl⟩ | ⟨hno, _⟩
    · obtain ⟨rfl, rfl, rfl, rfl⟩ := pkText_inj (hp.1.symm.trans hp'.1)
      rfl
    · exact absurd hp (hno i c n t), c'⟩

set_option maxRecDepth 100000 in
set_option maxHeartbeats 8000000 in
theorem packetBack_any (i t : Nat) (c n : Int) (hi : i < 18446744073709551616) (ht : t < 18446744073709551616) (hc : c ≤ 9223372036854775807) (hn : n ≤ 9223372036854775807) (s : ByteArray) (w : World) (hd : Door w) :
    Calls Tryd.prog 4 #[.agg #[.int .u64 (i : Int), .int .i64 c, .int .i64 n, .int .u64 (t : Int)], .string s] w fun e w' => e = .returned (.bool true) ∧ Chg NoChg w w' := by
  have HD := hide hd
  have HA := hide (fun w hd => l10awake_any w hd)
  clear hd
  by_cases hs : 200 < s.size
  · have hs1 : (200 : Int) < (s.size : Int) := by omega
    have C0 := hide ((Chg.refl NoChg w).alloc (.cells #[.int .u64 (i : Int), .int .i64 c, .int .i64 n, .int .u64 (t : Int)] 24))
    clear hs hi ht hc hn
    go_enter Tryd.func4, Tryd.ntmps4
    go_wp2_with fail
    refine (HA.out _ (HD.out.keep C0.out)).mono ?_
    rintro e w1 ⟨rfl, c1⟩
    have C1 := hide (C0.out.trans' c1)
    clear c1
    go_wp2
    go_ret
    exact ⟨rfl, C1.out⟩
  · have hs1 : ¬ (200 : Int) < (s.size : Int) := by omega
    have HP := hide (fun w hd => pkParse_any s w hd (by omega))
    clear hs
    by_cases hneg : c < 0 ∨ n < 0
    · have HT := hide (fun w (_ : Door w) => pkText_bad i t c n w hneg)
      obtain ⟨x0, hx0⟩ : ∃ x0, decide ((0 : Int) ≤ c) = x0 := ⟨_, rfl⟩
      obtain ⟨x1, hx1⟩ : ∃ x1, decide ((0 : Int) ≤ n) = x1 := ⟨_, rfl⟩
      have hx2 : (x0 && x1) = false := by
        rw [← hx0, ← hx1]
        simp
        omega
      have B0 := hide (Blk.new w #[.int .u64 (i : Int), .int .i64 c, .int .i64 n, .int .u64 (t : Int)] 24)
      have C0 := hide ((Chg.refl NoChg w).alloc (.cells #[.int .u64 (i : Int), .int .i64 c, .int .i64 n, .int .u64 (t : Int)] 24))
      clear hi ht hc hn hneg
      go_enter Tryd.func4, Tryd.ntmps4
      go_wp2_with fail
      refine (HA.out _ (HD.out.keep C0.out)).mono ?_
      rintro e w1 ⟨rfl, c1⟩
      have C1 := hide (C0.out.trans' c1)
      have B1 := hide (c1.blk B0.out (fun h => h))
      clear c1
      obtain ⟨p0, p1, p2, p3⟩ := Pkt.cells4 B1.out (Chg.refl _ _)
      have hz := B1.out.lt
      go_wp2_with fail
      refine (HT.out _ (HD.out.keep C1.out)).mono ?_
      rintro e w2 ⟨rfl, c2⟩
      have C2 := hide (C1.out.trans' c2)
      have B2 := hide (c2.blk B1.out (fun h => h))
      clear c2 p0 p1 p2 p3 hz
      obtain ⟨p0, p1, p2, p3⟩ := Pkt.cells4 B2.out (Chg.refl _ _)
      have hz := B2.out.lt
      cases x0 with
      | true =>
        obtain rfl : x1 = false := by simpa using hx2
        clear hx2
        go_wp2_with fail
        refine (HP.out _ (HD.out.keep C2.out)).mono ?_
        rintro e w4 ⟨he, c4⟩
        have C4 := hide (C2.out.trans' c4)
        clear c4 p0 p1 p2 p3 hz
        rcases he with ⟨i', c', n', t', hp, rfl⟩ | ⟨hno, rfl⟩
        · have HT2 := hide (fun w hd => pkText_good i' c' n' t' hp.2.1 hp.2.2.1 hp.2.2.2.1 hp.2.2.2.2 w hd)
          have hss : bs (pkText i' c' n' t') = s := by rw [← hp.1, bs_of]
          rw [hss] at HT2
          clear hp hss
          go_wp2_with fail
          refine (HT2.out _ (HD.out.keep (C4.out.alloc _))).mono ?_
          rintro e w5 ⟨rfl, c5⟩
          have C5 := hide ((C4.out.alloc _).trans' c5)
          clear c5
          go_wp2
          go_ret
          exact ⟨rfl, C5.out⟩
        · clear hno
          go_wp2
          go_ret
          refine ⟨rfl, ?_⟩
          have C5 := C4.out
          (repeat' (first | (with_reducible exact Chg.refl _ _) | (with_reducible assumption) | (with_reducible refine Chg.alloc ?_ _) | (with_reducible refine Chg.drewN ?_ _) | (with_reducible refine Chg.drew ?_) | (with_reducible refine Chg.setCell ?_ _ ?_) | (apply Or.inl; with_reducible rfl) | (apply Or.inl; simp; done) | (apply Or.inr; simp; done) | (apply Or.inr; simp; omega)))
      | false =>
        clear hx2
        go_wp2_with fail
        refine (HP.out _ (HD.out.keep C2.out)).mono ?_
        rintro e w4 ⟨he, c4⟩
        have C4 := hide (C2.out.trans' c4)
        clear c4 p0 p1 p2 p3 hz
        rcases he with ⟨i', c', n', t', hp, rfl⟩ | ⟨hno, rfl⟩
        · have HT2 := hide (fun w hd => pkText_good i' c' n' t' hp.2.1 hp.2.2.1 hp.2.2.2.1 hp.2.2.2.2 w hd)
          have hss : bs (pkText i' c' n' t') = s := by rw [← hp.1, bs_of]
          rw [hss] at HT2
          clear hp hss
          go_wp2_with fail
          refine (HT2.out _ (HD.out.keep (C4.out.alloc _))).mono ?_
          rintro e w5 ⟨rfl, c5⟩
          have C5 := hide ((C4.out.alloc _).trans' c5)
          clear c5
          go_wp2
          go_ret
          exact ⟨rfl, C5.out⟩
        · clear hno
          go_wp2
          go_ret
          refine ⟨rfl, ?_⟩
          have C5 := C4.out
          (repeat' (first | (with_reducible exact Chg.refl _ _) | (with_reducible assumption) | (with_reducible refine Chg.alloc ?_ _) | (with_reducible refine Chg.drewN ?_ _) | (with_reducible refine Chg.drew ?_) | (with_reducible refine Chg.setCell ?_ _ ?_) | (apply Or.inl; with_reducible rfl) | (apply Or.inl; simp; done) | (apply Or.inr; simp; done) | (apply Or.inr; simp; omega)))
    · obtain ⟨c, rfl⟩ : ∃ c' : Nat, c = (c' : Int) := ⟨c.toNat, by omega⟩
      obtain ⟨n, rfl⟩ : ∃ n' : Nat, n = (n' : Int) := ⟨n.toNat, by omega⟩
      have HT := hide (fun w hd => pkText_good i c n t hi (by omega) (by omega) ht w hd)
      have HPT := hide (fun w hd => parse_text i c n t hi (by omega) (by omega) ht w hd)
      have g0 : decide ((0 : Int) ≤ (c : Int)) = true := by simp
      have g1 : decide ((0 : Int) ≤ (n : Int)) = true := by simp
      generalize pkText i c n t = T at HT HPT
      have B0 := hide (Blk.new w #[.int .u64 (i : Int), .int .i64 (c : Int), .int .i64 (n : Int), .int .u64 (t : Int)] 24)
      have C0 := hide ((Chg.refl NoChg w).alloc (.cells #[.int .u64 (i : Int), .int .i64 (c : Int), .int .i64 (n : Int), .int .u64 (t : Int)] 24))
      clear hi ht hc hn hneg
      go_enter Tryd.func4, Tryd.ntmps4
      go_wp2_with fail
      refine (HA.out _ (HD.out.keep C0.out)).mono ?_
      rintro e w1 ⟨rfl, c1⟩
      have C1 := hide (C0.out.trans' c1)
      have B1 := hide (c1.blk B0.out (fun h => h))
      clear c1
      obtain ⟨p0, p1, p2, p3⟩ := Pkt.cells4 B1.out (Chg.refl _ _)
      have hz := B1.out.lt
      go_wp2_with fail
      refine (HT.out _ (HD.out.keep C1.out)).mono ?_
      rintro e w2 ⟨rfl, c2⟩
      have C2 := hide (C1.out.trans' c2)
      have B2 := hide (c2.blk B1.out (fun h => h))
      clear c2 p0 p1 p2 p3 hz
      obtain ⟨p0, p1, p2, p3⟩ := Pkt.cells4 B2.out (Chg.refl _ _)
      have hz := B2.out.lt
      go_wp2_with fail
      refine (HPT.out _ (HD.out.keep C2.out)).mono ?_
      rintro e w3 ⟨rfl, c3⟩
      have C3 := hide ((C2.out.trans' c3).alloc (.cells #[.int .u64 (i : Int), .int .i64 (c : Int), .int .i64 (n : Int), .int .u64 (t : Int)] 24))
      have B3 := hide (c3.blk B2.out (fun h => h))
      clear c3 p0 p1 p2 p3 hz
      obtain ⟨p0, p1, p2, p3⟩ := Pkt.cells4 B3.out (Chg.refl _ _)
      have hz := B3.out.lt
      go_wp2_with fail
      refine (HP.out _ (HD.out.keep C3.out)).mono ?_
      rintro e w4 ⟨he, c4⟩
      have C4 := hide (C3.out.trans' c4)
      clear c4 p0 p1 p2 p3 hz
      rcases he with ⟨i', c', n', t', hp, rfl⟩ | ⟨hno, rfl⟩
      · have HT2 := hide (fun w hd => pkText_good i' c' n' t' hp.2.1 hp.2.2.1 hp.2.2.2.1 hp.2.2.2.2 w hd)
        have hss : bs (pkText i' c' n' t') = s := by rw [← hp.1, bs_of]
        rw [hss] at HT2
        clear hp hss
        go_wp2_with fail
        refine (HT2.out _ (HD.out.keep (C4.out.alloc _))).mono ?_
        rintro e w5 ⟨rfl, c5⟩
        have C5 := hide ((C4.out.alloc _).trans' c5)
        clear c5
        go_wp2
        go_ret
        exact ⟨rfl, C5.out⟩
      · clear hno
        go_wp2
        go_ret
        refine ⟨rfl, ?_⟩
        have C5 := C4.out
        (repeat' (first | (with_reducible exact Chg.refl _ _) | (with_reducible assumption) | (with_reducible refine Chg.alloc ?_ _) | (with_reducible refine Chg.drewN ?_ _) | (with_reducible refine Chg.drew ?_) | (with_reducible refine Chg.setCell ?_ _ ?_) | (apply Or.inl; with_reducible rfl) | (apply Or.inl; simp; done) | (apply Or.inr; simp; done) | (apply Or.inr; simp; omega)))
end Go.Proofs.YtofgajlpdnokdaaDoor
