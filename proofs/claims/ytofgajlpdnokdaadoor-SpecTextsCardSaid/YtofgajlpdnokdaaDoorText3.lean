/- The document's text of a packet. No condition. -/
import Derived.Test.YtofgajlpdnokdaaDoorText2
import Derived.Deep.RegionHeld3
namespace Go.Proofs.YtofgajlpdnokdaaDoor
set_option linter.unusedVariables false
open Go.Shelf Go.RowKit Go.Sort Go.Lib

theorem bs_app (a b : List UInt8) : (⟨a.toArray⟩ : ByteArray) ++ ⟨b.toArray⟩ = ⟨(a ++ b).toArray⟩ := by
  apply ByteArray.ext
  simp
theorem num_any (u : Nat) (hu : u < 18446744073709551616) (w : World) : Calls Tryd.prog 35 #[.int .u64 (u : Int)] w fun e w' => e = .returned (.string ⟨(Lib.decDigits u).toArray⟩) ∧ Chg NoChg w w' :=
  (r10Number_any u hu w).mono fun e w' h => ⟨h.1, Chg.ofBelow h.2⟩

set_option maxRecDepth 100000 in
theorem r10Text_bad (i t : Nat) (c n : Int) (w : World) (h : c < 0 ∨ n < 0) :
    Calls Tryd.prog 10 #[.agg #[.int .u64 (i : Int), .int .i64 c, .int .i64 n, .int .u64 (t : Int)]] w fun e w' => e = .returned (.tuple #[.string ⟨#[]⟩, .int .i64 2]) ∧ Chg NoChg w w' := by
  by_cases hc : c < 0
  · go_enter Tryd.func10, Tryd.ntmps10
    go_wp2
    refine bodyPost_ret (v := .tuple #[.string ⟨#[]⟩, .int .i64 2]) (by simp [results, Tryd.results10, go_sem]) rfl ⟨rfl, ?_⟩
    (repeat' (first | (with_reducible exact Chg.refl _ _) | (with_reducible assumption) | (with_reducible refine Chg.alloc ?_ _) | (with_reducible refine Chg.drewN ?_ _) | (with_reducible refine Chg.drew ?_) | (with_reducible refine Chg.setCell ?_ _ ?_) | (apply Or.inl; with_reducible rfl) | (apply Or.inl; simp; done) | (apply Or.inr; simp; done) | (apply Or.inr; simp; omega)))
  · have hn : n < 0 := by omega
    have hc : decide (c < 0) = false := by simp; omega
    go_enter Tryd.func10, Tryd.ntmps10
    go_wp2
    refine bodyPost_ret (v := .tuple #[.string ⟨#[]⟩, .int .i64 2]) (by simp [results, Tryd.results10, go_sem]) rfl ⟨rfl, ?_⟩
    (repeat' (first | (with_reducible exact Chg.refl _ _) | (with_reducible assumption) | (with_reducible refine Chg.alloc ?_ _) | (with_reducible refine Chg.drewN ?_ _) | (with_reducible refine Chg.drew ?_) | (with_reducible refine Chg.setCell ?_ _ ?_) | (apply Or.inl; with_reducible rfl) | (apply Or.inl; simp; done) | (apply Or.inr; simp; done) | (apply Or.inr; simp; omega)))

theorem Pkt.cells4 {w w' : World} {b : Nat} {i c n t : Int} (h : Blk w b #[.int .u64 i, .int .i64 c, .int .i64 n, .int .u64 t] 24) (c' : Chg NoChg w w') :
    w'.cell? ⟨b, 0, none⟩ = some (.int .u64 i) ∧ w'.cell? ⟨b, 1, none⟩ = some (.int .i64 c) ∧ w'.cell? ⟨b, 2, none⟩ = some (.int .i64 n) ∧ w'.cell? ⟨b, 3, none⟩ = some (.int .u64 t) :=
  have h' := c'.blk h (fun h => h)
  ⟨h'.cell 0, h'.cell 1, h'.cell 2, h'.cell 3⟩

set_option maxRecDepth 100000 in
set_option maxHeartbeats 4000000 in
theorem r10Text_good (i c n t : Nat) (hi : i < 18446744073709551616) (hc : c < 9223372036854775808) (hn : n < 9223372036854775808) (ht : t < 18446744073709551616) (w : World) :
    Calls Tryd.prog 10 #[.agg #[.int .u64 (i : Int), .int .i64 (c : Int), .int .i64 (n : Int), .int .u64 (t : Int)]] w fun e w' => e = .returned (.tuple #[.string (bs (pkText i c n t)), .int .i64 0]) ∧ Chg NoChg w w' := by
  have hc0 : decide ((c : Int) < 0) = false := by simp
  have hn0 : decide ((n : Int) < 0) = false := by simp
  have F0 := hide (num_any i hi)
  have F1 := hide (num_any c (by omega))
  have F2 := hide (num_any n (by omega))
  have F3 := hide (num_any t ht)
  have C0 := hide ((Chg.refl NoChg w).alloc (.cells #[.int .u64 (i : Int), .int .i64 (c : Int), .int .i64 (n : Int), .int .u64 (t : Int)] 24))
  have KEEP := hide (fun (w' : World) (x : Chg NoChg (w.alloc (.cells #[.int .u64 (i : Int), .int .i64 (c : Int), .int .i64 (n : Int), .int .u64 (t : Int)] 24)) w') => Pkt.cells4 (Blk.new w #[.int .u64 (i : Int), .int .i64 (c : Int), .int .i64 (n : Int), .int .u64 (t : Int)] 24) x)
  have HT : pkText i c n t = Lib.decDigits i ++ [32] ++ Lib.decDigits c ++ [32] ++ Lib.decDigits n ++ [32] ++ Lib.decDigits t := by
    simp [pkText, Lib.join_cons, Lib.joinTail]
  have HT := hide HT
  have l0 := dec_length i hi
  have l1 := dec_length c (by omega)
  have l2 := dec_length n (by omega)
  have l3 := dec_length t ht
  generalize pkText i c n t = T at HT ⊢
  generalize Lib.decDigits i = d0 at F0 l0 HT
  generalize Lib.decDigits c = d1 at F1 l1 HT
  generalize Lib.decDigits n = d2 at F2 l2 HT
  generalize Lib.decDigits t = d3 at F3 l3 HT
  have hcu : IntKind.u64.wrap (c : Int) = (c : Int) := IntWalk.u64_in _ (by omega)
  have hnu : IntKind.u64.wrap (n : Int) = (n : Int) := IntWalk.u64_in _ (by omega)
  have q1 : ¬ 9223372036854775807 < d0.length + 1 := by omega
  have q2 : ¬ 9223372036854775807 < d0.length + 1 + d1.length := by omega
  have q3 : ¬ 9223372036854775807 < d0.length + 1 + d1.length + 1 := by omega
  have q4 : ¬ 9223372036854775807 < d0.length + 1 + d1.length + 1 + d2.length := by omega
  have q5 : ¬ 9223372036854775807 < d0.length + 1 + d1.length + 1 + d2.length + 1 := by omega
  have q6 : ¬ 9223372036854775807 < d0.length + 1 + d1.length + 1 + d2.length + 1 + d3.length := by omega
  clear hi hc hn ht l0 l1 l2 l3
  go_enter Tryd.func10, Tryd.ntmps10
  go_wp2
  go_region_held3 (fun w' : World => w'.cell? ⟨w.heap.size, 0, none⟩ = some (.int .u64 (i : Int)) ∧ w'.cell? ⟨w.heap.size, 1, none⟩ = some (.int .i64 (c : Int)) ∧ w'.cell? ⟨w.heap.size, 2, none⟩ = some (.int .i64 (n : Int)) ∧ w'.cell? ⟨w.heap.size, 3, none⟩ = some (.int .u64 (t : Int))) (exact KEEP.out _ (by (repeat' (first | (with_reducible exact Chg.refl _ _) | (with_reducible assumption) | (with_reducible refine Chg.alloc ?_ _) | (with_reducible refine Chg.drewN ?_ _) | (with_reducible refine Chg.drew ?_) | (with_reducible refine Chg.setCell ?_ _ ?_) | (apply Or.inl; with_reducible rfl) | (apply Or.inl; simp; done) | (apply Or.inr; simp; done) | (apply Or.inr; simp; omega))))) (first | (go_at_call 35; with_reducible refine (F0.out _).mono ?_; rintro e w5 ⟨rfl, c5⟩; replace c5 : Chg NoChg (w.alloc (.cells #[.int .u64 (i : Int), .int .i64 (c : Int), .int .i64 (n : Int), .int .u64 (t : Int)] 24)) w5 := Chg.trans' (by (repeat' (first | (with_reducible exact Chg.refl _ _) | (with_reducible assumption) | (with_reducible refine Chg.alloc ?_ _) | (with_reducible refine Chg.drewN ?_ _) | (with_reducible refine Chg.drew ?_) | (with_reducible refine Chg.setCell ?_ _ ?_) | (apply Or.inl; with_reducible rfl) | (apply Or.inl; simp; done) | (apply Or.inr; simp; done) | (apply Or.inr; simp; omega)))) c5) | (go_at_call 35; with_reducible refine (F1.out _).mono ?_; rintro e w6 ⟨rfl, c6⟩; replace c6 : Chg NoChg (w.alloc (.cells #[.int .u64 (i : Int), .int .i64 (c : Int), .int .i64 (n : Int), .int .u64 (t : Int)] 24)) w6 := Chg.trans' (by (repeat' (first | (with_reducible exact Chg.refl _ _) | (with_reducible assumption) | (with_reducible refine Chg.alloc ?_ _) | (with_reducible refine Chg.drewN ?_ _) | (with_reducible refine Chg.drew ?_) | (with_reducible refine Chg.setCell ?_ _ ?_) | (apply Or.inl; with_reducible rfl) | (apply Or.inl; simp; done) | (apply Or.inr; simp; done) | (apply Or.inr; simp; omega)))) c6) | (go_at_call 35; with_reducible refine (F2.out _).mono ?_; rintro e w7 ⟨rfl, c7⟩; replace c7 : Chg NoChg (w.alloc (.cells #[.int .u64 (i : Int), .int .i64 (c : Int), .int .i64 (n : Int), .int .u64 (t : Int)] 24)) w7 := Chg.trans' (by (repeat' (first | (with_reducible exact Chg.refl _ _) | (with_reducible assumption) | (with_reducible refine Chg.alloc ?_ _) | (with_reducible refine Chg.drewN ?_ _) | (with_reducible refine Chg.drew ?_) | (with_reducible refine Chg.setCell ?_ _ ?_) | (apply Or.inl; with_reducible rfl) | (apply Or.inl; simp; done) | (apply Or.inr; simp; done) | (apply Or.inr; simp; omega)))) c7) | (go_at_call 35; with_reducible refine (F3.out _).mono ?_; rintro e w8 ⟨rfl, c8⟩; replace c8 : Chg NoChg (w.alloc (.cells #[.int .u64 (i : Int), .int .i64 (c : Int), .int .i64 (n : Int), .int .u64 (t : Int)] 24)) w8 := Chg.trans' (by (repeat' (first | (with_reducible exact Chg.refl _ _) | (with_reducible assumption) | (with_reducible refine Chg.alloc ?_ _) | (with_reducible refine Chg.drewN ?_ _) | (with_reducible refine Chg.drew ?_) | (with_reducible refine Chg.setCell ?_ _ ?_) | (apply Or.inl; with_reducible rfl) | (apply Or.inl; simp; done) | (apply Or.inr; simp; done) | (apply Or.inr; simp; omega)))) c8))
  all_goals
    have c9 : Hid (Chg NoChg w _) := hide (C0.out.trans' c8)
    clear c5 c6 c7 c8
    go_wp2
    refine bodyPost_ret (v := .tuple #[.string (bs T), .int .i64 0]) (by simp [results, Tryd.results10, go_sem, HT.out, bs, bs_app]) rfl ⟨rfl, c9.out⟩
end Go.Proofs.YtofgajlpdnokdaaDoor
