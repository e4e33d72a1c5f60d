/- PacketTexts holds for every input. No condition. -/
import Derived.Test.YtofgajlpdnokdaaDoorPParse2
import Derived.Test.YtofgajlpdnokdaaDoorDoorLaid
import Derived.Test.YtofgajlpdnokdaaDoorPacketTextsCard
import Derived.ChangeMaps5
namespace Go.Proofs.YtofgajlpdnokdaaDoor
set_option linter.unusedVariables false
open Go.ChangeShapes Go.WideShapes Go.ChangeAt Go.RowKit

theorem eqGuard_pkt : Tryd.prog.eqGuardType Tryd.prog.depth 24 = false := by kernel_rfl
theorem stood_pkt : Tryd.prog.stoodInHeld 24 = false := by kernel_rfl
attribute [local go_sem] eqGuard_pkt stood_pkt
theorem run_eql_pkt (a b c d : Int) (w : World) : (binOp .eql 24 (.agg #[.int .u64 a, .int .i64 b, .int .i64 c, .int .u64 d]) (.agg #[.int .u64 a, .int .i64 b, .int .i64 c, .int .u64 d])).run Tryd.prog w = .ok (.bool true) w := by
  go_simp
attribute [local go_sem ↓] run_eql_pkt

theorem PkIs.det (l : List UInt8) : ∃ (i c n t : Nat) (E : Int), ∀ e, PkIs l e → e = .returned (.tuple #[.agg #[.int .u64 (i : Int), .int .i64 (c : Int), .int .i64 (n : Int), .int .u64 (t : Int)], .int .i64 E]) := by
  by_cases h : ∃ i c n t, IsPk l i c n t
  · obtain ⟨i, c, n, t, hp⟩ := h
    refine ⟨i, c, n, t, 0, fun e he => ?_⟩
    rcases he with ⟨i', c', n', t', hp', rfl⟩ | ⟨hno, _⟩
    · obtain ⟨rfl, rfl, rfl, rfl⟩ := pkText_inj (hp.1.symm.trans hp'.1)
      rfl
    · exact absurd hp (hno i c n t)
  · refine ⟨0, 0, 0, 0, 2, fun e he => ?_⟩
    rcases he with ⟨i', c', n', t', hp', rfl⟩ | ⟨hno, rfl⟩
    · exact absurd ⟨i', c', n', t', hp'⟩ h
    · rfl

theorem text_det (i t : Nat) (c n : Int) (hi : i < 18446744073709551616) (ht : t < 18446744073709551616) (hc : c ≤ 9223372036854775807) (hn : n ≤ 9223372036854775807) : ∃ (X : ByteArray) (E : Int),
    (∀ w, Door w → Calls Tryd.prog 9 #[.agg #[.int .u64 (i : Int), .int .i64 c, .int .i64 n, .int .u64 (t : Int)]] w fun e w' => e = .returned (.tuple #[.string X, .int .i64 E]) ∧ Chg NoChg w w') ∧
    (∀ w, Calls Tryd.prog 10 #[.agg #[.int .u64 (i : Int), .int .i64 c, .int .i64 n, .int .u64 (t : Int)]] w fun e w' => e = .returned (.tuple #[.string X, .int .i64 E]) ∧ Chg NoChg w w') := by
  by_cases h : c < 0 ∨ n < 0
  · exact ⟨⟨#[]⟩, 2, fun w _ => pkText_bad i t c n w h, fun w => r10Text_bad i t c n w h⟩
  · obtain ⟨c', rfl⟩ : ∃ c' : Nat, c = (c' : Int) := ⟨c.toNat, by omega⟩
    obtain ⟨n', rfl⟩ : ∃ n' : Nat, n = (n' : Int) := ⟨n.toNat, by omega⟩
    exact ⟨_, 0, fun w hd => pkText_good i c' n' t hi (by omega) (by omega) ht w hd, fun w => r10Text_good i c' n' t hi (by omega) (by omega) ht w⟩

set_option maxRecDepth 100000 in
set_option maxHeartbeats 4000000 in
theorem packetTexts_any (i t : Nat) (c n : Int) (hi : i < 18446744073709551616) (ht : t < 18446744073709551616) (hc : c ≤ 9223372036854775807) (hn : n ≤ 9223372036854775807) (s : ByteArray) (w : World) (hd : Door w) :
    Calls Tryd.prog 3 #[.agg #[.int .u64 (i : Int), .int .i64 c, .int .i64 n, .int .u64 (t : Int)], .string s] w fun e w' => e = .returned (.bool true) ∧ Chg NoChg w w' := by
  by_cases hs : 200 < s.size
  · have hs1 : (200 : Int) < (s.size : Int) := by omega
    go_enter Tryd.func3, Tryd.ntmps3
    go_wp2
    go_ret
    refine ⟨rfl, ?_⟩
    (repeat' (first | (with_reducible exact Chg.refl _ _) | (with_reducible assumption) | (with_reducible refine Chg.alloc ?_ _) | (with_reducible refine Chg.drewN ?_ _) | (with_reducible refine Chg.drew ?_) | (with_reducible refine Chg.setCell ?_ _ ?_) | (apply Or.inl; with_reducible rfl) | (apply Or.inl; simp; done) | (apply Or.inr; simp; done) | (apply Or.inr; simp; omega)))
  · have hs1 : ¬ (200 : Int) < (s.size : Int) := by omega
    obtain ⟨X, E, hX, hX2⟩ := text_det i t c n hi ht hc hn
    obtain ⟨i', c', n', t', F, hF⟩ := PkIs.det s.data.toList
    have HX := hide hX
    have HX2 := hide hX2
    have HF := hide hF
    have HD := hide hd
    have HP := hide (fun w hd => pkParse_any s w hd (by omega))
    have HP2 := hide (fun w => r10Parse_any s w (by omega))
    have B0 := hide (Blk.new w #[.int .u64 (i : Int), .int .i64 c, .int .i64 n, .int .u64 (t : Int)] 24)
    have C0 := hide ((Chg.refl NoChg w).alloc (.cells #[.int .u64 (i : Int), .int .i64 c, .int .i64 n, .int .u64 (t : Int)] 24))
    clear hX hX2 hF hd hs hi ht hc hn
    go_enter Tryd.func3, Tryd.ntmps3
    go_wp2_with fail
    refine (HX.out _ (HD.out.keep C0.out)).mono ?_
    rintro e w1 ⟨rfl, c1⟩
    have C1 := hide (C0.out.trans' c1)
    obtain ⟨p0, p1, p2, p3⟩ := Pkt.cells4 B0.out c1
    clear c1
    go_wp2_with fail
    refine (HX2.out _).mono ?_
    rintro e w2 ⟨rfl, c2⟩
    have C2 := hide (C1.out.trans' c2)
    clear c2 p0 p1 p2 p3
    go_wp2_with fail
    refine (HP.out _ (HD.out.keep C2.out)).mono ?_
    rintro e w3 ⟨he, c3⟩
    obtain rfl := HF.out e he
    have C3 := hide (C2.out.trans' c3)
    clear c3 he
    go_wp2_with fail
    refine (HP2.out _).mono ?_
    rintro e w4 ⟨he, c4⟩
    obtain rfl := HF.out e he
    have B4 := hide (c4.blk (Blk.new w3 #[.int .u64 (i' : Int), .int .i64 (c' : Int), .int .i64 (n' : Int), .int .u64 (t' : Int)] 24) (fun h => h))
    have C4 := hide ((C3.out.alloc (.cells #[.int .u64 (i' : Int), .int .i64 (c' : Int), .int .i64 (n' : Int), .int .u64 (t' : Int)] 24)).trans' c4)
    clear c4 he
    obtain ⟨q0, q1, q2, q3⟩ := Pkt.cells4 B4.out (Chg.refl _ _)
    have z4 := B4.out.lt
    go_wp2
    go_ret
    refine ⟨rfl, ?_⟩
    have C5 := C4.out
    (repeat' (first | (with_reducible exact Chg.refl _ _) | (with_reducible assumption) | (with_reducible refine Chg.alloc ?_ _) | (with_reducible refine Chg.drewN ?_ _) | (with_reducible refine Chg.drew ?_) | (with_reducible refine Chg.setCell ?_ _ ?_) | (apply Or.inl; with_reducible rfl) | (apply Or.inl; simp; done) | (apply Or.inr; simp; done) | (apply Or.inr; simp; omega)))

theorem u64_nat {n : Int} (h : (Lit.int .u64 n).wf = true) : ∃ k : Nat, n = (k : Int) ∧ k < 18446744073709551616 := by
  refine ⟨n.toNat, ?_⟩
  simp [Lit.wf] at h
  have h1 : IntKind.u64.min = 0 := by kernel_rfl
  have h2 : IntKind.u64.max = 18446744073709551615 := by kernel_rfl
  omega
theorem i64_le {n : Int} (h : (Lit.int .i64 n).wf = true) : -9223372036854775808 ≤ n ∧ n ≤ 9223372036854775807 := by
  simp [Lit.wf] at h
  have h1 : IntKind.i64.min = -9223372036854775808 := by kernel_rfl
  have h2 : IntKind.i64.max = 9223372036854775807 := by kernel_rfl
  omega

def pktKinds : List (Option IntKind) := [some .u64, some .i64, some .i64, some .u64]
theorem pktK : flatKinds Tryd.prog 5 24 = some pktKinds := by kernel_rfl
theorem pkt_of_fits {x : List Value} (h : Fits pktKinds x) : ∃ (i t : Nat) (c n : Int), x.toArray = #[.int .u64 (i : Int), .int .i64 c, .int .i64 n, .int .u64 (t : Int)] ∧ i < 18446744073709551616 ∧ t < 18446744073709551616 ∧ (-9223372036854775808 ≤ c ∧ c ≤ 9223372036854775807) ∧ (-9223372036854775808 ≤ n ∧ n ≤ 9223372036854775807) := by
  unfold pktKinds at h
  obtain ⟨u0, y1, rfl, w0, h1⟩ := h.int1
  obtain ⟨u1, y2, rfl, w1, h2⟩ := h1.int1
  obtain ⟨u2, y3, rfl, w2, h3⟩ := h2.int1
  obtain ⟨u3, y4, rfl, w3, h4⟩ := h3.int1
  have := h4.nil0
  subst this
  obtain ⟨v0, rfl, b0⟩ := u64_nat w0
  obtain ⟨v3, rfl, b3⟩ := u64_nat w3
  exact ⟨v0, v3, u1, u2, rfl, b0, b3, i64_le w1, i64_le w2⟩

set_option maxRecDepth 100000 in
theorem packetTexts_law {H : Type} (enc : TypeId × Value → H) : LawWalkL enc Tryd.prog Rows.packetTextsRow.laid 3 Tryd.f3 := by
  intro W base args ds p hval0 hA0 hsz hlt hL hS
  have hd := door_of_laid hL hS
  have hval : ∀ (j : Nat) t v, Tryd.f3.params[j]? = some t → args[j]? = some v → Value.okWide Tryd.prog W .any base t v := hval0
  have hA := hA0
  rw [Tryd.params3] at hA hval
  obtain ⟨v0, v1, d0, d1, p0, p1, rfl, rfl, rfl, h0, h1⟩ := trodAll_two hA
  obtain ⟨cs, rfl, hcs⟩ := open_flat Tryd.underlying24 pktK (hval 0 24 v0 rfl rfl) h0
  obtain ⟨i, t, c, n, hs, hi, ht, ⟨_, hc⟩, _, hn⟩ := pkt_of_fits hcs
  rw [hs]
  obtain ⟨s, rfl, -⟩ := Go.ChangeMaps.open_string Tryd.underlying9 (hval 1 9 v1 rfl rfl) h1
  exact (packetTexts_any i t c n hi ht hc hn s W hd).mono fun e w' h => ⟨h.1, h.2.below⟩

theorem packetTexts_holds : Rows.PacketTextsCardSaid := packetTexts_card fun H enc => packetTexts_law enc
end Go.Proofs.YtofgajlpdnokdaaDoor
