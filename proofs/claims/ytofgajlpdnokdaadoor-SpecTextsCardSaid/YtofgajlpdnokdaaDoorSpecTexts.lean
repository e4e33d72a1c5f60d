/- SpecTexts holds for every input. No condition. -/
import Derived.Test.YtofgajlpdnokdaaDoorSpEq
import Derived.Test.YtofgajlpdnokdaaDoorSPParse
import Derived.Test.YtofgajlpdnokdaaDoorSRParse
import Derived.Test.YtofgajlpdnokdaaDoorDoorLaid
import Derived.Test.YtofgajlpdnokdaaDoorSpecTextsCard
import Derived.ChangeMaps5
namespace Go.Proofs.YtofgajlpdnokdaaDoor
set_option linter.unusedVariables false
open Go.ChangeShapes Go.WideShapes Go.ChangeAt Go.RowKit
attribute [local go_sem ↓] run_eql_spc run_eql_crv

set_option maxRecDepth 100000 in
set_option maxHeartbeats 8000000 in
theorem specTexts_any (s : Spc) (hok : s.ok) (x y : ByteArray) (w : World) (hd : Door w) :
    Calls Tryd.prog 6 #[.agg #[.int .i64 s.id, .int .i64 s.par, .bool s.leaf, .int .u64 (s.real.f : Int), .int .u64 (s.real.l : Int), .int .u64 (s.real.r : Int), .int .u64 (s.share.f : Int), .int .u64 (s.share.l : Int), .int .u64 (s.share.r : Int), .int .u64 (s.upper.f : Int), .int .u64 (s.upper.l : Int), .int .u64 (s.upper.r : Int), .int .i64 s.pk, .int .i64 s.bt], .string x, .string y] w fun e w' => e = .returned (.bool true) ∧ Chg NoChg w w' := by
  by_cases hs : 400 < x.size
  · have hs1 : (400 : Int) < (x.size : Int) := by omega
    go_enter Tryd.func6, Tryd.ntmps6
    go_wp2
    go_ret
    refine ⟨rfl, ?_⟩
    (repeat' (first | (with_reducible exact Chg.refl _ _) | (with_reducible assumption) | (with_reducible refine Chg.alloc ?_ _) | (with_reducible refine Chg.drewN ?_ _) | (with_reducible refine Chg.drew ?_) | (with_reducible refine Chg.setCell ?_ _ ?_) | (apply Or.inl; with_reducible rfl) | (apply Or.inl; simp; done) | (apply Or.inr; simp; done) | (apply Or.inr; simp; omega)))
  have hs1 : ¬ (400 : Int) < (x.size : Int) := by omega
  by_cases hs' : 400 < y.size
  · have hs2 : (400 : Int) < (y.size : Int) := by omega
    go_enter Tryd.func6, Tryd.ntmps6
    go_wp2
    go_ret
    refine ⟨rfl, ?_⟩
    (repeat' (first | (with_reducible exact Chg.refl _ _) | (with_reducible assumption) | (with_reducible refine Chg.alloc ?_ _) | (with_reducible refine Chg.drewN ?_ _) | (with_reducible refine Chg.drew ?_) | (with_reducible refine Chg.setCell ?_ _ ?_) | (apply Or.inl; with_reducible rfl) | (apply Or.inl; simp; done) | (apply Or.inr; simp; done) | (apply Or.inr; simp; omega)))
  have hs2 : ¬ (400 : Int) < (y.size : Int) := by omega
  obtain ⟨X, E, hX, hX2⟩ := spText_det s hok
  obtain ⟨s', F, hF⟩ := SpIs.det x.data.toList
  obtain ⟨c', G, hG, -⟩ := crv_known y.data.toList
  have HX := hide hX
  have HX2 := hide hX2
  have HF := hide hF
  have HG := hide hG
  have HD := hide hd
  have HP := hide (fun w hd => s13Parse_any x w hd (by omega))
  have HP2 := hide (fun w => r13Parse_any x w (by omega))
  have HC := hide (fun w hd => s13Curve_any y w hd (by omega))
  have HC2 := hide (fun w => r13Curve_any y w (by omega))
  have B0 := hide (Blk.new w #[.int .i64 s.id, .int .i64 s.par, .bool s.leaf, .int .u64 (s.real.f : Int), .int .u64 (s.real.l : Int), .int .u64 (s.real.r : Int), .int .u64 (s.share.f : Int), .int .u64 (s.share.l : Int), .int .u64 (s.share.r : Int), .int .u64 (s.upper.f : Int), .int .u64 (s.upper.l : Int), .int .u64 (s.upper.r : Int), .int .i64 s.pk, .int .i64 s.bt] 41)
  have C0 := hide ((Chg.refl NoChg w).alloc (.cells #[.int .i64 s.id, .int .i64 s.par, .bool s.leaf, .int .u64 (s.real.f : Int), .int .u64 (s.real.l : Int), .int .u64 (s.real.r : Int), .int .u64 (s.share.f : Int), .int .u64 (s.share.l : Int), .int .u64 (s.share.r : Int), .int .u64 (s.upper.f : Int), .int .u64 (s.upper.l : Int), .int .u64 (s.upper.r : Int), .int .i64 s.pk, .int .i64 s.bt] 41))
  clear hX hX2 hF hG hd hs hs' hok
  go_enter Tryd.func6, Tryd.ntmps6
  obtain ⟨a0, a1, a2, a3, a4, a5, a6, a7, a8, a9, a10, a11, a12, a13⟩ := spc_cellsA B0.out
  go_wp2_with fail
  refine (HX.out _ (HD.out.keep C0.out)).mono ?_
  rintro e w1 ⟨rfl, c1⟩
  have C1 := hide (C0.out.trans' c1)
  have B1 := hide (c1.blk B0.out (fun h => h))
  clear c1 a0 a1 a2 a3 a4 a5 a6 a7 a8 a9 a10 a11 a12 a13
  obtain ⟨a0, a1, a2, a3, a4, a5, a6, a7, a8, a9, a10, a11, a12, a13⟩ := spc_cellsA B1.out
  go_wp2_with fail
  refine (HX2.out _).mono ?_
  rintro e w2 ⟨rfl, c2⟩
  have C2 := hide (C1.out.trans' c2)
  clear c2 a0 a1 a2 a3 a4 a5 a6 a7 a8 a9 a10 a11 a12 a13
  go_wp2_with fail
  refine (HP.out _ (HD.out.keep C2.out)).mono ?_
  rintro e w3 ⟨he, c3⟩
  obtain rfl := HF.out e he
  have C3 := hide (C2.out.trans' c3)
  clear c3 he
  have B3 := hide (Blk.new w3 #[.int .i64 s'.id, .int .i64 s'.par, .bool s'.leaf, .int .u64 (s'.real.f : Int), .int .u64 (s'.real.l : Int), .int .u64 (s'.real.r : Int), .int .u64 (s'.share.f : Int), .int .u64 (s'.share.l : Int), .int .u64 (s'.share.r : Int), .int .u64 (s'.upper.f : Int), .int .u64 (s'.upper.l : Int), .int .u64 (s'.upper.r : Int), .int .i64 s'.pk, .int .i64 s'.bt] 41)
  have D3 := hide (C3.out.alloc (.cells #[.int .i64 s'.id, .int .i64 s'.par, .bool s'.leaf, .int .u64 (s'.real.f : Int), .int .u64 (s'.real.l : Int), .int .u64 (s'.real.r : Int), .int .u64 (s'.share.f : Int), .int .u64 (s'.share.l : Int), .int .u64 (s'.share.r : Int), .int .u64 (s'.upper.f : Int), .int .u64 (s'.upper.l : Int), .int .u64 (s'.upper.r : Int), .int .i64 s'.pk, .int .i64 s'.bt] 41))
  go_wp2_with fail
  refine (HP2.out _).mono ?_
  rintro e w4 ⟨he, c4⟩
  obtain rfl := HF.out e he
  have C4 := hide (D3.out.trans' c4)
  have B4 := hide ((c4.alloc (.cells #[.int .i64 s'.id, .int .i64 s'.par, .bool s'.leaf, .int .u64 (s'.real.f : Int), .int .u64 (s'.real.l : Int), .int .u64 (s'.real.r : Int), .int .u64 (s'.share.f : Int), .int .u64 (s'.share.l : Int), .int .u64 (s'.share.r : Int), .int .u64 (s'.upper.f : Int), .int .u64 (s'.upper.l : Int), .int .u64 (s'.upper.r : Int), .int .i64 s'.pk, .int .i64 s'.bt] 41)).blk B3.out (fun h => h))
  have E4 := hide (Blk.new w4 #[.int .i64 s'.id, .int .i64 s'.par, .bool s'.leaf, .int .u64 (s'.real.f : Int), .int .u64 (s'.real.l : Int), .int .u64 (s'.real.r : Int), .int .u64 (s'.share.f : Int), .int .u64 (s'.share.l : Int), .int .u64 (s'.share.r : Int), .int .u64 (s'.upper.f : Int), .int .u64 (s'.upper.l : Int), .int .u64 (s'.upper.r : Int), .int .i64 s'.pk, .int .i64 s'.bt] 41)
  have D4' := hide (C4.out.alloc (.cells #[.int .i64 s'.id, .int .i64 s'.par, .bool s'.leaf, .int .u64 (s'.real.f : Int), .int .u64 (s'.real.l : Int), .int .u64 (s'.real.r : Int), .int .u64 (s'.share.f : Int), .int .u64 (s'.share.l : Int), .int .u64 (s'.share.r : Int), .int .u64 (s'.upper.f : Int), .int .u64 (s'.upper.l : Int), .int .u64 (s'.upper.r : Int), .int .i64 s'.pk, .int .i64 s'.bt] 41))
  clear c4 he
  go_wp2_with fail
  refine (HC.out _ (HD.out.keep D4'.out)).mono ?_
  rintro e w5 ⟨he, c5⟩
  obtain rfl := HG.out e he
  have C5 := hide (D4'.out.trans' c5)
  have B5 := hide ((c5.alloc (.cells #[.int .u64 (c'.f : Int), .int .u64 (c'.l : Int), .int .u64 (c'.r : Int)] 39)).blk B4.out (fun h => h))
  have E5 := hide ((c5.alloc (.cells #[.int .u64 (c'.f : Int), .int .u64 (c'.l : Int), .int .u64 (c'.r : Int)] 39)).blk E4.out (fun h => h))
  have G5 := hide (Blk.new w5 #[.int .u64 (c'.f : Int), .int .u64 (c'.l : Int), .int .u64 (c'.r : Int)] 39)
  have D5 := hide (C5.out.alloc (.cells #[.int .u64 (c'.f : Int), .int .u64 (c'.l : Int), .int .u64 (c'.r : Int)] 39))
  clear c5 he
  go_wp2_with fail
  refine (HC2.out _).mono ?_
  rintro e w6 ⟨he, c6⟩
  obtain rfl := HG.out e he
  have C6 := hide (D5.out.trans' c6)
  have B6 := hide (c6.blk B5.out (fun h => h))
  have E6 := hide (c6.blk E5.out (fun h => h))
  have G6 := hide (c6.blk G5.out (fun h => h))
  clear c6 he
  obtain ⟨a0, a1, a2, a3, a4, a5, a6, a7, a8, a9, a10, a11, a12, a13⟩ := spc_cellsA B6.out
  obtain ⟨b0, b1, b2, b3, b4, b5, b6, b7, b8, b9, b10, b11, b12, b13⟩ := spc_cellsA E6.out
  obtain ⟨g0, g1, g2⟩ := crv_cellsA G6.out
  have z1 := B6.out.lt
  have z2 := E6.out.lt
  have z3 := G6.out.lt
  go_wp2
  go_ret
  refine ⟨rfl, ?_⟩
  have C7 := C6.out
  (repeat' (first | (with_reducible exact Chg.refl _ _) | (with_reducible assumption) | (with_reducible refine Chg.alloc ?_ _) | (with_reducible refine Chg.drewN ?_ _) | (with_reducible refine Chg.drew ?_) | (with_reducible refine Chg.setCell ?_ _ ?_) | (apply Or.inl; with_reducible rfl) | (apply Or.inl; simp; done) | (apply Or.inr; simp; done) | (apply Or.inr; simp; omega)))

theorem u64_nat {n : Int} (h : (Lit.int .u64 n).wf = true) : ∃ k : Nat, n = (k : Int) ∧ k < 18446744073709551616 := by
  refine ⟨n.toNat, ?_⟩
  simp [Lit.wf] at h
  have h1 : IntKind.u64.min = 0 := by kernel_rfl
  have h2 : IntKind.u64.max = 18446744073709551615 := by kernel_rfl
  omega
theorem i64_le {n : Int} (h : (Lit.int .i64 n).wf = true) : n ≤ 9223372036854775807 := by
  simp [Lit.wf] at h
  have h1 : IntKind.i64.min = -9223372036854775808 := by kernel_rfl
  have h2 : IntKind.i64.max = 9223372036854775807 := by kernel_rfl
  omega

def spcKinds : List (Option IntKind) := [some .i64, some .i64, none, some .u64, some .u64, some .u64, some .u64, some .u64, some .u64, some .u64, some .u64, some .u64, some .i64, some .i64]
theorem spcK : flatKinds Tryd.prog 5 41 = some spcKinds := by kernel_rfl
theorem Spc.of_fits {x : List Value} (h : Fits spcKinds x) : ∃ s : Spc, s.ok ∧ x.toArray = #[.int .i64 s.id, .int .i64 s.par, .bool s.leaf, .int .u64 (s.real.f : Int), .int .u64 (s.real.l : Int), .int .u64 (s.real.r : Int), .int .u64 (s.share.f : Int), .int .u64 (s.share.l : Int), .int .u64 (s.share.r : Int), .int .u64 (s.upper.f : Int), .int .u64 (s.upper.l : Int), .int .u64 (s.upper.r : Int), .int .i64 s.pk, .int .i64 s.bt] := by
  unfold spcKinds at h
  obtain ⟨v0, y1, rfl, w0, h1⟩ := h.int1
  obtain ⟨v1, y2, rfl, w1, h2⟩ := h1.int1
  obtain ⟨v2, y3, rfl, h3⟩ := h2.bool1
  obtain ⟨u3, y4, rfl, w3, h4⟩ := h3.int1
  obtain ⟨v3, rfl, q3⟩ := u64_nat w3
  clear w3
  obtain ⟨u4, y5, rfl, w4, h5⟩ := h4.int1
  obtain ⟨v4, rfl, q4⟩ := u64_nat w4
  clear w4
  obtain ⟨u5, y6, rfl, w5, h6⟩ := h5.int1
  obtain ⟨v5, rfl, q5⟩ := u64_nat w5
  clear w5
  obtain ⟨u6, y7, rfl, w6, h7⟩ := h6.int1
  obtain ⟨v6, rfl, q6⟩ := u64_nat w6
  clear w6
  obtain ⟨u7, y8, rfl, w7, h8⟩ := h7.int1
  obtain ⟨v7, rfl, q7⟩ := u64_nat w7
  clear w7
  obtain ⟨u8, y9, rfl, w8, h9⟩ := h8.int1
  obtain ⟨v8, rfl, q8⟩ := u64_nat w8
  clear w8
  obtain ⟨u9, y10, rfl, w9, h10⟩ := h9.int1
  obtain ⟨v9, rfl, q9⟩ := u64_nat w9
  clear w9
  obtain ⟨u10, y11, rfl, w10, h11⟩ := h10.int1
  obtain ⟨v10, rfl, q10⟩ := u64_nat w10
  clear w10
  obtain ⟨u11, y12, rfl, w11, h12⟩ := h11.int1
  obtain ⟨v11, rfl, q11⟩ := u64_nat w11
  clear w11
  obtain ⟨v12, y13, rfl, w12, h13⟩ := h12.int1
  obtain ⟨v13, y14, rfl, w13, h14⟩ := h13.int1
  have := h14.nil0
  subst this
  exact ⟨⟨v0, v1, v2, ⟨v3, v4, v5⟩, ⟨v6, v7, v8⟩, ⟨v9, v10, v11⟩, v12, v13⟩, ⟨i64_le w0, i64_le w1, i64_le w12, i64_le w13, ⟨q3, q4, q5⟩, ⟨q6, q7, q8⟩, ⟨q9, q10, q11⟩⟩, rfl⟩

set_option maxRecDepth 100000 in
theorem specTexts_law {H : Type} (enc : TypeId × Value → H) : LawWalkL enc Tryd.prog Rows.specTextsRow.laid 6 Tryd.f6 := by
  intro W base args ds p hval0 hA0 hsz hlt hL hS
  have hd := door_of_laid hL hS
  have hval : ∀ (j : Nat) t v, Tryd.f6.params[j]? = some t → args[j]? = some v → Value.okWide Tryd.prog W .any base t v := hval0
  have hA := hA0
  rw [Tryd.params6] at hA hval
  obtain ⟨v0, v1, v2, d0, d1, d2, p0, p1, p2, rfl, rfl, rfl, h0, h1, h2⟩ := trodAll_three hA
  obtain ⟨cs, rfl, hcs⟩ := open_flat Tryd.underlying41 spcK (hval 0 41 v0 rfl rfl) h0
  obtain ⟨s, hok, hs⟩ := Spc.of_fits hcs
  rw [hs]
  obtain ⟨x, rfl, -⟩ := Go.ChangeMaps.open_string Tryd.underlying9 (hval 1 9 v1 rfl rfl) h1
  obtain ⟨y, rfl, -⟩ := Go.ChangeMaps.open_string Tryd.underlying9 (hval 2 9 v2 rfl rfl) h2
  exact (specTexts_any s hok x y W hd).mono fun e w' h => ⟨h.1, h.2.below⟩

theorem specTexts_holds : Rows.SpecTextsCardSaid := specTexts_card fun H enc => specTexts_law enc
end Go.Proofs.YtofgajlpdnokdaaDoor
