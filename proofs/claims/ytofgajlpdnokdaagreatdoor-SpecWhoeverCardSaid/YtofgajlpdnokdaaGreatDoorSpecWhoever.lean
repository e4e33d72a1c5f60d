/- SpecWhoever, walked. Conditions of the lemmas here: what is called tells so. -/
import Derived.Test.YtofgajlpdnokdaaGreatDoorLaw13
import Derived.Test.YtofgajlpdnokdaaGreatDoorBase
import Derived.Deep.RegionHeld3
import Derived.Deep.DeepCutAuto
namespace Go.Proofs.YtofgajlpdnokdaaGreatDoor
set_option linter.unusedVariables false
open Go.RowKit
attribute [local go_sem ↓] run_eql_spc run_neq_spc

theorem run_load_spec {d v : Nat} {ty : TypeId} {pos : String} {af : Array Edge} {gd : Option (Nat × Bool)} {a : Act} {g : Nat} {w : World} (i p' k t r1 r2 r3 h1 h2 h3 u1 u2 u3 : Int) (b : Bool)
    (hp : a.tmps[v]? = some (.pointer (some ⟨g, 0, none⟩)))
    (hb : Blk w g #[.int .i64 i, .int .i64 p', .bool b, .int .u64 r1, .int .u64 r2, .int .u64 r3, .int .u64 h1, .int .u64 h2, .int .u64 h3, .int .u64 u1, .int .u64 u2, .int .u64 u3, .int .i64 k, .int .i64 t] 26) :
    (execOp a.eval (⟨some d, .load 26 (.tmp v), ty, pos, af, gd⟩ : Oper)).run Tryz.prog w = .ok (.value (.agg #[.int .i64 i, .int .i64 p', .bool b, .int .u64 r1, .int .u64 r2, .int .u64 r3, .int .u64 h1, .int .u64 h2, .int .u64 h3, .int .u64 u1, .int .u64 u2, .int .u64 u3, .int .i64 k, .int .i64 t])) w := by
  have ep : a.eval (.tmp v) = .pointer (some ⟨g, 0, none⟩) := by simp [Act.eval, hp]
  obtain ⟨z0, z1, z2, z3, z4, z5, z6, z7, z8, z9, z10, z11, z12, z13⟩ := spc_cellsI hb
  go_simp
theorem three_cells {w : World} {g1 g3 : Nat} {i p k t r1 r2 r3 h1 h2 h3 u1 u2 u3 : Int} {b b2 : Bool} {r1' r2' r3' h1' h2' h3' u1' u2' u3' : Int} (hm : Blk w g1 #[.int .i64 i, .int .i64 p, .bool b2, .int .u64 r1', .int .u64 r2', .int .u64 r3', .int .u64 h1', .int .u64 h2', .int .u64 h3', .int .u64 u1', .int .u64 u2', .int .u64 u3', .int .i64 k, .int .i64 t] 26) (hs : Blk w g3 #[.int .i64 i, .int .i64 p, .bool b, .int .u64 r1, .int .u64 r2, .int .u64 r3, .int .u64 h1, .int .u64 h2, .int .u64 h3, .int .u64 u1, .int .u64 u2, .int .u64 u3, .int .i64 k, .int .i64 t] 26) : w.cell? ⟨g1, 0, none⟩ = some (.int .i64 i) ∧ w.cell? ⟨g1, 12, none⟩ = some (.int .i64 k) ∧ w.cell? ⟨g3, 0, none⟩ = some (.int .i64 i) ∧ w.cell? ⟨g3, 12, none⟩ = some (.int .i64 k) := by
  refine ⟨?_, ?_, ?_, ?_⟩
  all_goals (first | (rw [Blk.cell hm]; rfl) | (rw [Blk.cell hs]; rfl))

set_option maxRecDepth 100000 in
set_option maxHeartbeats 16000000 in
theorem who_F (i p k t r1 r2 r3 h1 h2 h3 u1 u2 u3 : Int) (b : Bool) (i' p' k' t' r1' r2' r3' h1' h2' h3' u1' u2' u3' : Int) (b' : Bool) (d q : Int) (g ws : Bool) (hg : g = true ↔ 1 ≤ d ∧ d ≤ 65535 ∧ 0 ≤ q ∧ q ≤ 65535 ∧ d ≠ q) (hs : ws = true ↔ 1 ≤ i ∧ i ≤ 65535 ∧ 0 ≤ p ∧ p ≤ 65535 ∧ i ≠ p) (es eo kk ko : Int) (hgv : g = false) (hMm : ∀ w, Calls Tryz.prog 10 #[.agg #[.int .i64 d, .int .i64 q, .bool b, .int .u64 r1, .int .u64 r2, .int .u64 r3, .int .u64 h1, .int .u64 h2, .int .u64 h3, .int .u64 u1, .int .u64 u2, .int .u64 u3, .int .i64 k, .int .i64 t]] w fun e w' => e = .returned (.int .i64 130) ∧ Chg NoChg w w') (hMs : ∀ w, Calls Tryz.prog 10 #[.agg #[.int .i64 i, .int .i64 p, .bool b, .int .u64 r1, .int .u64 r2, .int .u64 r3, .int .u64 h1, .int .u64 h2, .int .u64 h3, .int .u64 u1, .int .u64 u2, .int .u64 u3, .int .i64 k, .int .i64 t]] w fun e w' => e = .returned (.int .i64 es) ∧ Chg NoChg w w') (hMo : ∀ w, Calls Tryz.prog 10 #[.agg #[.int .i64 i', .int .i64 p', .bool b', .int .u64 r1', .int .u64 r2', .int .u64 r3', .int .u64 h1', .int .u64 h2', .int .u64 h3', .int .u64 u1', .int .u64 u2', .int .u64 u3', .int .i64 k', .int .i64 t']] w fun e w' => e = .returned (.int .i64 eo) ∧ Chg NoChg w w') (hKm : ∀ w, Calls Tryz.prog 11 #[.agg #[.int .i64 d, .int .i64 q, .bool b, .int .u64 r1, .int .u64 r2, .int .u64 r3, .int .u64 h1, .int .u64 h2, .int .u64 h3, .int .u64 u1, .int .u64 u2, .int .u64 u3, .int .i64 k, .int .i64 t]] w fun e w' => e = .returned (.int .u8 kk) ∧ Chg NoChg w w') (hKs : ∀ w, Calls Tryz.prog 11 #[.agg #[.int .i64 i, .int .i64 p, .bool b, .int .u64 r1, .int .u64 r2, .int .u64 r3, .int .u64 h1, .int .u64 h2, .int .u64 h3, .int .u64 u1, .int .u64 u2, .int .u64 u3, .int .i64 k, .int .i64 t]] w fun e w' => e = .returned (.int .u8 kk) ∧ Chg NoChg w w') (hKo : ∀ w, Calls Tryz.prog 11 #[.agg #[.int .i64 i', .int .i64 p', .bool b', .int .u64 r1', .int .u64 r2', .int .u64 r3', .int .u64 h1', .int .u64 h2', .int .u64 h3', .int .u64 u1', .int .u64 u2', .int .u64 u3', .int .i64 k', .int .i64 t']] w fun e w' => e = .returned (.int .u8 ko) ∧ Chg NoChg w w') (hWs : ∀ w, Calls Tryz.prog 15 #[.agg #[.int .i64 i, .int .i64 p, .bool b, .int .u64 r1, .int .u64 r2, .int .u64 r3, .int .u64 h1, .int .u64 h2, .int .u64 h3, .int .u64 u1, .int .u64 u2, .int .u64 u3, .int .i64 k, .int .i64 t], .agg #[.int .i64 i, .int .i64 p, .bool b, .int .u64 r1, .int .u64 r2, .int .u64 r3, .int .u64 h1, .int .u64 h2, .int .u64 h3, .int .u64 u1, .int .u64 u2, .int .u64 u3, .int .i64 k, .int .i64 t]] w fun e w' => e = .returned (.agg #[.int .i64 i, .int .i64 p, .bool b, .int .u64 r1, .int .u64 r2, .int .u64 r3, .int .u64 h1, .int .u64 h2, .int .u64 h3, .int .u64 u1, .int .u64 u2, .int .u64 u3, .int .i64 k, .int .i64 t]) ∧ Chg NoChg w w') (hWo : ∀ w, Calls Tryz.prog 15 #[.agg #[.int .i64 i, .int .i64 p, .bool b, .int .u64 r1, .int .u64 r2, .int .u64 r3, .int .u64 h1, .int .u64 h2, .int .u64 h3, .int .u64 u1, .int .u64 u2, .int .u64 u3, .int .i64 k, .int .i64 t], .agg #[.int .i64 i', .int .i64 p', .bool b', .int .u64 r1', .int .u64 r2', .int .u64 r3', .int .u64 h1', .int .u64 h2', .int .u64 h3', .int .u64 u1', .int .u64 u2', .int .u64 u3', .int .i64 k', .int .i64 t']] w fun e w' => e = .returned (.agg #[.int .i64 i, .int .i64 p, .bool b, .int .u64 r1', .int .u64 r2', .int .u64 r3', .int .u64 h1', .int .u64 h2', .int .u64 h3', .int .u64 u1', .int .u64 u2', .int .u64 u3', .int .i64 k, .int .i64 t]) ∧ Chg NoChg w w') (hw : es = 0 → eo = 0 → b = b' → ((∀ w, Calls Tryz.prog 10 #[.agg #[.int .i64 i, .int .i64 p, .bool b, .int .u64 r1', .int .u64 r2', .int .u64 r3', .int .u64 h1', .int .u64 h2', .int .u64 h3', .int .u64 u1', .int .u64 u2', .int .u64 u3', .int .i64 k, .int .i64 t]] w fun e w' => e = .returned (.int .i64 0) ∧ Chg NoChg w w') ∧ (∀ w, Calls Tryz.prog 11 #[.agg #[.int .i64 i, .int .i64 p, .bool b, .int .u64 r1', .int .u64 r2', .int .u64 r3', .int .u64 h1', .int .u64 h2', .int .u64 h3', .int .u64 u1', .int .u64 u2', .int .u64 u3', .int .i64 k, .int .i64 t]] w fun e w' => e = .returned (.int .u8 ko) ∧ Chg NoChg w w'))) (w : World) (hd : Door w) :
    Calls Tryz.prog 5 #[.agg #[.int .i64 i, .int .i64 p, .bool b, .int .u64 r1, .int .u64 r2, .int .u64 r3, .int .u64 h1, .int .u64 h2, .int .u64 h3, .int .u64 u1, .int .u64 u2, .int .u64 u3, .int .i64 k, .int .i64 t], .agg #[.int .i64 i', .int .i64 p', .bool b', .int .u64 r1', .int .u64 r2', .int .u64 r3', .int .u64 h1', .int .u64 h2', .int .u64 h3', .int .u64 u1', .int .u64 u2', .int .u64 u3', .int .i64 k', .int .i64 t'], .int .i64 d, .int .i64 q] w fun e w' => e = .returned (.bool true) ∧ Chg NoChg w w' := by
  have HD := hide hd
  have HG := hide hg
  have HS := hide hs
  have HW := hide hw
  have Hgv := hide hgv
  have HMs := hide hMs
  have HMo := hide hMo
  have HKm := hide hKm
  have HKs := hide hKs
  have HKo := hide hKo
  have HWs := hide hWs
  have HWo := hide hWo
  have HMm := hide hMm
  clear hd hg hs hw hgv hMs hMo hKm hKs hKo hWs hWo hMm
  have Bs0 := hide ((Blk.new w #[.int .i64 i, .int .i64 p, .bool b, .int .u64 r1, .int .u64 r2, .int .u64 r3, .int .u64 h1, .int .u64 h2, .int .u64 h3, .int .u64 u1, .int .u64 u2, .int .u64 u3, .int .i64 k, .int .i64 t] 26).alloc (.cells #[.int .i64 i', .int .i64 p', .bool b', .int .u64 r1', .int .u64 r2', .int .u64 r3', .int .u64 h1', .int .u64 h2', .int .u64 h3', .int .u64 u1', .int .u64 u2', .int .u64 u3', .int .i64 k', .int .i64 t'] 26))
  have Bo0 := hide (Blk.new (w.alloc (.cells #[.int .i64 i, .int .i64 p, .bool b, .int .u64 r1, .int .u64 r2, .int .u64 r3, .int .u64 h1, .int .u64 h2, .int .u64 h3, .int .u64 u1, .int .u64 u2, .int .u64 u3, .int .i64 k, .int .i64 t] 26)) #[.int .i64 i', .int .i64 p', .bool b', .int .u64 r1', .int .u64 r2', .int .u64 r3', .int .u64 h1', .int .u64 h2', .int .u64 h3', .int .u64 u1', .int .u64 u2', .int .u64 u3', .int .i64 k', .int .i64 t'] 26)
  have C0 := hide (((Chg.refl NoChg w).alloc (.cells #[.int .i64 i, .int .i64 p, .bool b, .int .u64 r1, .int .u64 r2, .int .u64 r3, .int .u64 h1, .int .u64 h2, .int .u64 h3, .int .u64 u1, .int .u64 u2, .int .u64 u3, .int .i64 k, .int .i64 t] 26)).alloc (.cells #[.int .i64 i', .int .i64 p', .bool b', .int .u64 r1', .int .u64 r2', .int .u64 r3', .int .u64 h1', .int .u64 h2', .int .u64 h3', .int .u64 u1', .int .u64 u2', .int .u64 u3', .int .i64 k', .int .i64 t'] 26))
  simp only [World.size_alloc] at Bs0 Bo0
  go_enter Tryz.func5, Tryz.ntmps5
  go_wp2_with fail
  refine (l13awake_any _ (HD.out.keep C0.out)).mono ?_
  rintro e w1 ⟨rfl, c1⟩
  have D1 := hide (c1)
  have Bs1 := hide (D1.out.blk Bs0.out (fun h => h))
  have Bo1 := hide (D1.out.blk Bo0.out (fun h => h))
  have C1 := hide (C0.out.trans' D1.out)
  clear c1 D1 C0 Bs0 Bo0
  have D2 := hide ((Chg.refl NoChg w1).alloc (.cells #[.int .i64 d, .int .i64 q, .bool b, .int .u64 r1, .int .u64 r2, .int .u64 r3, .int .u64 h1, .int .u64 h2, .int .u64 h3, .int .u64 u1, .int .u64 u2, .int .u64 u3, .int .i64 k, .int .i64 t] 26))
  have Bm2 := hide (Blk.new w1 #[.int .i64 d, .int .i64 q, .bool b, .int .u64 r1, .int .u64 r2, .int .u64 r3, .int .u64 h1, .int .u64 h2, .int .u64 h3, .int .u64 u1, .int .u64 u2, .int .u64 u3, .int .i64 k, .int .i64 t] 26)
  have Bs2 := hide (D2.out.blk Bs1.out (fun h => h))
  have Bo2 := hide (D2.out.blk Bo1.out (fun h => h))
  have C2 := hide (C1.out.trans' D2.out)
  clear D2
  obtain ⟨a0, a1, a2, a3, a4, a5, a6, a7, a8, a9, a10, a11, a12, a13⟩ := spc_cellsI Bs1.out
  have l0 := Bs1.out.lt
  go_upto_region 5 with fail
  clear a0 a1 a2 a3 a4 a5 a6 a7 a8 a9 a10 a11 a12 a13
  go_cut [10] (fun s10 wz => s10 = .bool g ∧ wz = w1.alloc (.cells #[.int .i64 d, .int .i64 q, .bool b, .int .u64 r1, .int .u64 r2, .int .u64 r3, .int .u64 h1, .int .u64 h2, .int .u64 h3, .int .u64 u1, .int .u64 u2, .int .u64 u3, .int .i64 k, .int .i64 t] 26))
  case first =>
    go_wp2_with fail
    all_goals go_meet
    all_goals refine ⟨congrArg Value.bool (Bool.eq_iff_iff.2 ?_), rfl⟩
    all_goals (rw [HG.out]; simp; omega)
  case rest =>
    obtain ⟨rfl, rfl⟩ := hcut
    obtain ⟨a0, a1, a2, a3, a4, a5, a6, a7, a8, a9, a10, a11, a12, a13⟩ := spc_cellsI Bs2.out
    go_upto_region 6 with fail
    go_cut [11] (fun s11 wz => s11 = .bool ws ∧ wz = w1.alloc (.cells #[.int .i64 d, .int .i64 q, .bool b, .int .u64 r1, .int .u64 r2, .int .u64 r3, .int .u64 h1, .int .u64 h2, .int .u64 h3, .int .u64 u1, .int .u64 u2, .int .u64 u3, .int .i64 k, .int .i64 t] 26))
    case first =>
      go_wp2_with fail
      all_goals go_meet
      all_goals refine ⟨congrArg Value.bool (Bool.eq_iff_iff.2 ?_), rfl⟩
      all_goals (rw [HS.out]; simp; omega)
    case rest =>
      obtain ⟨rfl, rfl⟩ := hcut
      have hgv := Hgv.out
      subst hgv
      
  
      obtain ⟨w2, hw2⟩ : ∃ x, x = w1.alloc (.cells #[.int .i64 d, .int .i64 q, .bool b, .int .u64 r1, .int .u64 r2, .int .u64 r3, .int .u64 h1, .int .u64 h2, .int .u64 h3, .int .u64 u1, .int .u64 u2, .int .u64 u3, .int .i64 k, .int .i64 t] 26) := ⟨_, rfl⟩
      rw [← hw2] at Bm2 Bs2 Bo2 C2 a0 a1 a2 a3 a4 a5 a6 a7 a8 a9 a10 a11 a12 a13 ⊢
      have lm := Bm2.out.lt
      obtain ⟨n1, hn1⟩ : ∃ x, x = w1.heap.size := ⟨_, rfl⟩
      go_upto_region 7 with fail
      rw [← hn1] at Bm2 ⊢
      clear hn1 hw2 l0
      clear a0 a1 a2 a3 a4 a5 a6 a7 a8 a9 a10 a11 a12 a13
      go_cut [97] (fun s97 wz => s97 = .bool false ∧ Chg NoChg w2 wz)
      case first =>
        have KM := hide (fun (w' : World) (h : Chg NoChg w2 w') => h.blk Bm2.out (fun h => h))
        have KS := hide (fun (w' : World) (h : Chg NoChg w2 w') => h.blk Bs2.out (fun h => h))
      
        refine wp_region_mix [(true, 0), (true, 1), (true, 2), (true, 3), (false, 4), (true, 5), (true, 6), (true, 7), (true, 8), (true, 9), (true, 10), (true, 11), (true, 12), (true, 13), (true, 15), (false, 14), (false, 16), (true, 17), (true, 18), (true, 19), (true, 20), (true, 21), (true, 23), (false, 22), (false, 24), (true, 25), (true, 26), (true, 27), (true, 28), (true, 29), (true, 31), (false, 30), (true, 32), (true, 33)] (fun w' => Chg NoChg w2 w') (by kernel_rfl) (by kernel_rfl) ?_ (by (repeat' (first | (with_reducible exact Chg.refl _ _) | (with_reducible assumption) | (with_reducible refine Chg.alloc ?_ _) | (with_reducible refine Chg.drewN ?_ _) | (with_reducible refine Chg.drew ?_) | (with_reducible refine Chg.setCell ?_ _ ?_) | (apply Or.inl; with_reducible rfl) | (apply Or.inl; simp; done) | (apply Or.inr; simp; done) | (apply Or.inr; simp; omega)))) ?_
        · exact fun _ _ _ _ _ h => h
        simp only [mixOps, List.getElem?_toArray, List.getElem?_cons_zero, List.getElem?_cons_succ]
        refine mix_on (by kernel_rfl) (fun wv hv => (by go_simp; try with_reducible rfl)) ?_
        try simp only [Act.put, List.setIfInBounds_toArray, List.set_cons_zero, List.set_cons_succ]
        refine mix_on (by kernel_rfl) (fun wv hv => (by go_simp; try with_reducible rfl)) ?_
        try simp only [Act.put, List.setIfInBounds_toArray, List.set_cons_zero, List.set_cons_succ]
        refine mix_on (by kernel_rfl) (fun wv hv => (by go_simp; try with_reducible rfl)) ?_
        try simp only [Act.put, List.setIfInBounds_toArray, List.set_cons_zero, List.set_cons_succ]
        refine mix_on (by kernel_rfl) (fun wv hv => run_load_spec d q k t r1 r2 r3 h1 h2 h3 u1 u2 u3 b rfl (KM.out wv hv)) ?_
        try simp only [Act.put, List.setIfInBounds_toArray, List.set_cons_zero, List.set_cons_succ]
        refine mix_do (fun wv hv => ?_)
        go_wp2_with fail
        refine (HMm.out _).mono ?_
        rintro e wy ⟨rfl, cy⟩
        go_wp2
        refine ⟨hv.trans' cy, ?_⟩
        clear cy hv
        try simp only [Act.put, List.setIfInBounds_toArray, List.set_cons_zero, List.set_cons_succ]
        refine mix_on (by kernel_rfl) (fun wv hv => (by go_simp; try with_reducible rfl)) ?_
        try simp only [Act.put, List.setIfInBounds_toArray, List.set_cons_zero, List.set_cons_succ]
        refine mix_on (by kernel_rfl) (fun wv hv => (by go_simp; try with_reducible rfl)) ?_
        try simp only [Act.put, List.setIfInBounds_toArray, List.set_cons_zero, List.set_cons_succ]
        refine mix_on (by kernel_rfl) (fun wv hv => (by go_simp; try with_reducible rfl)) ?_
        try simp only [Act.put, List.setIfInBounds_toArray, List.set_cons_zero, List.set_cons_succ]
        refine mix_on (by kernel_rfl) (fun wv hv => (by go_simp; try with_reducible rfl)) ?_
        try simp only [Act.put, List.setIfInBounds_toArray, List.set_cons_zero, List.set_cons_succ]
        refine mix_on (by kernel_rfl) (fun wv hv => (by go_simp; try with_reducible rfl)) ?_
        try simp only [Act.put, List.setIfInBounds_toArray, List.set_cons_zero, List.set_cons_succ]
        refine mix_off (by kernel_rfl) ?_
        try simp only [Act.put, List.setIfInBounds_toArray, List.set_cons_zero, List.set_cons_succ]
        refine mix_on (by kernel_rfl) (fun wv hv => (by go_simp; try with_reducible rfl)) ?_
        try simp only [Act.put, List.setIfInBounds_toArray, List.set_cons_zero, List.set_cons_succ]
        refine mix_on (by kernel_rfl) (fun wv hv => (by go_simp; try with_reducible rfl)) ?_
        try simp only [Act.put, List.setIfInBounds_toArray, List.set_cons_zero, List.set_cons_succ]
        refine mix_off (by kernel_rfl) ?_
        try simp only [Act.put, List.setIfInBounds_toArray, List.set_cons_zero, List.set_cons_succ]
        refine mix_off (by kernel_rfl) ?_
        try simp only [Act.put, List.setIfInBounds_toArray, List.set_cons_zero, List.set_cons_succ]
        refine mix_not (by kernel_rfl) ?_
        try simp only [Act.put, List.setIfInBounds_toArray, List.set_cons_zero, List.set_cons_succ]
        refine mix_not (by kernel_rfl) ?_
        try simp only [Act.put, List.setIfInBounds_toArray, List.set_cons_zero, List.set_cons_succ]
        refine mix_off (by kernel_rfl) ?_
        try simp only [Act.put, List.setIfInBounds_toArray, List.set_cons_zero, List.set_cons_succ]
        refine mix_on (by kernel_rfl) (fun wv hv => (by go_simp; try with_reducible rfl)) ?_
        try simp only [Act.put, List.setIfInBounds_toArray, List.set_cons_zero, List.set_cons_succ]
        refine mix_on (by kernel_rfl) (fun wv hv => (by go_simp; try with_reducible rfl)) ?_
        try simp only [Act.put, List.setIfInBounds_toArray, List.set_cons_zero, List.set_cons_succ]
        refine mix_on (by kernel_rfl) (fun wv hv => (by go_simp; try with_reducible rfl)) ?_
        try simp only [Act.put, List.setIfInBounds_toArray, List.set_cons_zero, List.set_cons_succ]
        refine mix_on (by kernel_rfl) (fun wv hv => run_load_spec d q k t r1 r2 r3 h1 h2 h3 u1 u2 u3 b rfl (KM.out wv hv)) ?_
        try simp only [Act.put, List.setIfInBounds_toArray, List.set_cons_zero, List.set_cons_succ]
        refine mix_on (by kernel_rfl) (fun wv hv => run_load_spec i p k t r1 r2 r3 h1 h2 h3 u1 u2 u3 b rfl (KS.out wv hv)) ?_
        try simp only [Act.put, List.setIfInBounds_toArray, List.set_cons_zero, List.set_cons_succ]
        refine mix_do (fun wv hv => ?_)
        go_wp2_with fail
        refine (HKm.out _).mono ?_
        rintro e wy ⟨rfl, cy⟩
        go_wp2
        refine ⟨hv.trans' cy, ?_⟩
        clear cy hv
        try simp only [Act.put, List.setIfInBounds_toArray, List.set_cons_zero, List.set_cons_succ]
        refine mix_do (fun wv hv => ?_)
        go_wp2_with fail
        refine (HKs.out _).mono ?_
        rintro e wy ⟨rfl, cy⟩
        go_wp2
        refine ⟨hv.trans' cy, ?_⟩
        clear cy hv
        try simp only [Act.put, List.setIfInBounds_toArray, List.set_cons_zero, List.set_cons_succ]
        refine mix_on (by kernel_rfl) (fun wv hv => (by go_simp; try with_reducible rfl)) ?_
        try simp only [Act.put, List.setIfInBounds_toArray, List.set_cons_zero, List.set_cons_succ]
        refine mix_on (by kernel_rfl) (fun wv hv => (by go_simp; try with_reducible rfl)) ?_
        try simp only [Act.put, List.setIfInBounds_toArray, List.set_cons_zero, List.set_cons_succ]
        refine mix_on (by kernel_rfl) (fun wv hv => (by go_simp; try with_reducible rfl)) ?_
        try simp only [Act.put, List.setIfInBounds_toArray, List.set_cons_zero, List.set_cons_succ]
        refine mix_on (by kernel_rfl) (fun wv hv => run_load_spec i p k t r1 r2 r3 h1 h2 h3 u1 u2 u3 b rfl (KS.out wv hv)) ?_
        try simp only [Act.put, List.setIfInBounds_toArray, List.set_cons_zero, List.set_cons_succ]
        refine mix_on (by kernel_rfl) (fun wv hv => run_load_spec i p k t r1 r2 r3 h1 h2 h3 u1 u2 u3 b rfl (KS.out wv hv)) ?_
        try simp only [Act.put, List.setIfInBounds_toArray, List.set_cons_zero, List.set_cons_succ]
        refine mix_on (by kernel_rfl) (fun wv hv => run_load_spec i p k t r1 r2 r3 h1 h2 h3 u1 u2 u3 b rfl (KS.out wv hv)) ?_
        try simp only [Act.put, List.setIfInBounds_toArray, List.set_cons_zero, List.set_cons_succ]
        refine mix_do (fun wv hv => ?_)
        go_wp2_with fail
        refine (HWs.out _).mono ?_
        rintro e wy ⟨rfl, cy⟩
        go_wp2
        refine ⟨hv.trans' cy, ?_⟩
        clear cy hv
        try simp only [Act.put, List.setIfInBounds_toArray, List.set_cons_zero, List.set_cons_succ]
        refine mix_on (by kernel_rfl) (fun wv hv => (by go_simp; try with_reducible rfl)) ?_
        try simp only [Act.put, List.setIfInBounds_toArray, List.set_cons_zero, List.set_cons_succ]
        refine mix_on (by kernel_rfl) (fun wv hv => (by go_simp; try with_reducible rfl)) ?_
        try simp only [Act.put, List.setIfInBounds_toArray, List.set_cons_zero, List.set_cons_succ]
        refine mix_end (fun wz hz => ?_)
        go_wp2_with fail
        go_meet
        exact ⟨rfl, hz⟩
      case rest =>
        obtain ⟨rfl, c3⟩ := hcut
        obtain ⟨w3, hw3⟩ : ∃ x, x = wc := ⟨_, rfl⟩
        rw [← hw3] at c3 ⊢
        clear hw3
        have Bs3 := hide (c3.blk Bs2.out (fun h => h))
        have Bo3 := hide (c3.blk Bo2.out (fun h => h))
        have C3 := hide (C2.out.trans' c3)
        clear c3 Bm2 Bs2 Bo2 C2 lm
        obtain ⟨a0, a1, a2, a3, a4, a5, a6, a7, a8, a9, a10, a11, a12, a13⟩ := spc_cellsI Bs3.out
        by_cases g1 : es = 0
        · subst g1
          go_wp2_with fail
          refine (HMs.out _).mono ?_
          rintro e w4 ⟨rfl, c4⟩
          have Bs4 := hide (c4.blk Bs3.out (fun h => h))
          have Bo4 := hide (c4.blk Bo3.out (fun h => h))
          have C4 := hide (C3.out.trans' c4)
          clear c4 Bs3 Bo3 C3 a0 a1 a2 a3 a4 a5 a6 a7 a8 a9 a10 a11 a12 a13
          obtain ⟨a0, a1, a2, a3, a4, a5, a6, a7, a8, a9, a10, a11, a12, a13⟩ := spc_cellsI Bo4.out
          by_cases g2 : eo = 0
          · subst g2
            go_wp2_with fail
            refine (HMo.out _).mono ?_
            rintro e w5 ⟨rfl, c5⟩
            have Bs5 := hide (c5.blk Bs4.out (fun h => h))
            have Bo5 := hide (c5.blk Bo4.out (fun h => h))
            have C5 := hide (C4.out.trans' c5)
            clear c5 Bs4 Bo4 C4 a0 a1 a2 a3 a4 a5 a6 a7 a8 a9 a10 a11 a12 a13
            obtain ⟨a0, a1, a2, a3, a4, a5, a6, a7, a8, a9, a10, a11, a12, a13⟩ := spc_cellsI Bs5.out
            obtain ⟨b0, b1, b2, b3, b4, b5, b6, b7, b8, b9, b10, b11, b12, b13⟩ := spc_cellsI Bo5.out
            by_cases g3 : b = b'
            · subst g3
              obtain ⟨hWM, hWK⟩ := HW.out (by simp) (by simp) (by simp)
              have HWM := hide hWM
              have HWK := hide hWK
              clear hWM hWK
              go_wp2_with fail
              refine (HWo.out _).mono ?_
              rintro e w6 ⟨rfl, c6⟩
              have D6 := hide (c6.alloc (.cells #[.int .i64 i, .int .i64 p, .bool b, .int .u64 r1', .int .u64 r2', .int .u64 r3', .int .u64 h1', .int .u64 h2', .int .u64 h3', .int .u64 u1', .int .u64 u2', .int .u64 u3', .int .i64 k, .int .i64 t] 26))
              have Bw6 := hide (Blk.new w6 #[.int .i64 i, .int .i64 p, .bool b, .int .u64 r1', .int .u64 r2', .int .u64 r3', .int .u64 h1', .int .u64 h2', .int .u64 h3', .int .u64 u1', .int .u64 u2', .int .u64 u3', .int .i64 k, .int .i64 t] 26)
              have Bs6 := hide (D6.out.blk Bs5.out (fun h => h))
              have Bo6 := hide (D6.out.blk Bo5.out (fun h => h))
              have C6 := hide (C5.out.trans' D6.out)
              obtain ⟨n2, hn2⟩ : ∃ x, x = w6.heap.size := ⟨_, rfl⟩
              obtain ⟨w7, hw7⟩ : ∃ x, x = w6.alloc (.cells #[.int .i64 i, .int .i64 p, .bool b, .int .u64 r1', .int .u64 r2', .int .u64 r3', .int .u64 h1', .int .u64 h2', .int .u64 h3', .int .u64 u1', .int .u64 u2', .int .u64 u3', .int .i64 k, .int .i64 t] 26) := ⟨_, rfl⟩
              clear c6 D6 Bs5 Bo5 C5 a0 a1 a2 a3 a4 a5 a6 a7 a8 a9 a10 a11 a12 a13 b0 b1 b2 b3 b4 b5 b6 b7 b8 b9 b10 b11 b12 b13
              go_wp2_with fail
              rw [← hw7] at Bw6 Bs6 Bo6 C6 ⊢
              rw [← hn2] at Bw6 ⊢
              clear hw7 hn2
              have KW := hide (fun (w' : World) (h : Chg NoChg w7 w') => h.blk Bw6.out (fun h => h))
              have KO := hide (fun (w' : World) (h : Chg NoChg w7 w') => h.blk Bo6.out (fun h => h))
              have KC := hide (fun (w' : World) (h : Chg NoChg w7 w') => three_cells (h.blk Bw6.out (fun h => h)) (h.blk Bs6.out (fun h => h)))
              refine wp_region_mix [(true, 0), (false, 1), (true, 2), (true, 3), (true, 4), (true, 6), (false, 5), (false, 7), (true, 8), (true, 9), (true, 10), (true, 11), (true, 12), (true, 13), (true, 14), (true, 15), (true, 16), (true, 17), (true, 18), (true, 19), (true, 20), (true, 21), (true, 22), (true, 23), (true, 24)] (fun w' => Chg NoChg w7 w') (by kernel_rfl) (by kernel_rfl) ?_ (by (repeat' (first | (with_reducible exact Chg.refl _ _) | (with_reducible assumption) | (with_reducible refine Chg.alloc ?_ _) | (with_reducible refine Chg.drewN ?_ _) | (with_reducible refine Chg.drew ?_) | (with_reducible refine Chg.setCell ?_ _ ?_) | (apply Or.inl; with_reducible rfl) | (apply Or.inl; simp; done) | (apply Or.inr; simp; done) | (apply Or.inr; simp; omega)))) ?_
              · exact fun _ _ _ _ _ h => h
              simp only [mixOps, List.getElem?_toArray, List.getElem?_cons_zero, List.getElem?_cons_succ]
              refine mix_on (by kernel_rfl) (fun wv hv => run_load_spec i p k t r1' r2' r3' h1' h2' h3' u1' u2' u3' b rfl (KW.out wv hv)) ?_
              try simp only [Act.put, List.setIfInBounds_toArray, List.set_cons_zero, List.set_cons_succ]
              refine mix_do (fun wv hv => ?_)
              go_wp2_with fail
              refine (HWM.out _).mono ?_
              rintro e wy ⟨rfl, cy⟩
              go_wp2
              refine ⟨hv.trans' cy, ?_⟩
              clear cy hv
              try simp only [Act.put, List.setIfInBounds_toArray, List.set_cons_zero, List.set_cons_succ]
              refine mix_on (by kernel_rfl) (fun wv hv => (by go_simp; try with_reducible rfl)) ?_
              try simp only [Act.put, List.setIfInBounds_toArray, List.set_cons_zero, List.set_cons_succ]
              refine mix_on (by kernel_rfl) (fun wv hv => (by go_simp; try with_reducible rfl)) ?_
              try simp only [Act.put, List.setIfInBounds_toArray, List.set_cons_zero, List.set_cons_succ]
              refine mix_on (by kernel_rfl) (fun wv hv => run_load_spec i p k t r1' r2' r3' h1' h2' h3' u1' u2' u3' b rfl (KW.out wv hv)) ?_
              try simp only [Act.put, List.setIfInBounds_toArray, List.set_cons_zero, List.set_cons_succ]
              refine mix_on (by kernel_rfl) (fun wv hv => run_load_spec i' p' k' t' r1' r2' r3' h1' h2' h3' u1' u2' u3' b rfl (KO.out wv hv)) ?_
              try simp only [Act.put, List.setIfInBounds_toArray, List.set_cons_zero, List.set_cons_succ]
              refine mix_do (fun wv hv => ?_)
              go_wp2_with fail
              refine (HWK.out _).mono ?_
              rintro e wy ⟨rfl, cy⟩
              go_wp2
              refine ⟨hv.trans' cy, ?_⟩
              clear cy hv
              try simp only [Act.put, List.setIfInBounds_toArray, List.set_cons_zero, List.set_cons_succ]
              refine mix_do (fun wv hv => ?_)
              go_wp2_with fail
              refine (HKo.out _).mono ?_
              rintro e wy ⟨rfl, cy⟩
              go_wp2
              refine ⟨hv.trans' cy, ?_⟩
              clear cy hv
              try simp only [Act.put, List.setIfInBounds_toArray, List.set_cons_zero, List.set_cons_succ]
              refine mix_on (by kernel_rfl) (fun wv hv => (by go_simp; try with_reducible rfl)) ?_
              try simp only [Act.put, List.setIfInBounds_toArray, List.set_cons_zero, List.set_cons_succ]
              refine mix_on (by kernel_rfl) (fun wv hv => (by go_simp; try with_reducible rfl)) ?_
              try simp only [Act.put, List.setIfInBounds_toArray, List.set_cons_zero, List.set_cons_succ]
              refine mix_on (by kernel_rfl) (fun wv hv => (by go_simp; try with_reducible rfl)) ?_
              try simp only [Act.put, List.setIfInBounds_toArray, List.set_cons_zero, List.set_cons_succ]
              refine mix_on (by kernel_rfl) (fun wv hv => (by go_simp; try with_reducible rfl)) ?_
              try simp only [Act.put, List.setIfInBounds_toArray, List.set_cons_zero, List.set_cons_succ]
              refine mix_on (by kernel_rfl) (fun wv hv => (by obtain ⟨k0, k1, k2, k3⟩ := KC.out wv hv; go_simp; try with_reducible rfl)) ?_
              try simp only [Act.put, List.setIfInBounds_toArray, List.set_cons_zero, List.set_cons_succ]
              refine mix_on (by kernel_rfl) (fun wv hv => (by go_simp; try with_reducible rfl)) ?_
              try simp only [Act.put, List.setIfInBounds_toArray, List.set_cons_zero, List.set_cons_succ]
              refine mix_on (by kernel_rfl) (fun wv hv => (by obtain ⟨k0, k1, k2, k3⟩ := KC.out wv hv; go_simp; try with_reducible rfl)) ?_
              try simp only [Act.put, List.setIfInBounds_toArray, List.set_cons_zero, List.set_cons_succ]
              refine mix_on (by kernel_rfl) (fun wv hv => (by go_simp; try with_reducible rfl)) ?_
              try simp only [Act.put, List.setIfInBounds_toArray, List.set_cons_zero, List.set_cons_succ]
              refine mix_on (by kernel_rfl) (fun wv hv => (by go_simp; try with_reducible rfl)) ?_
              try simp only [Act.put, List.setIfInBounds_toArray, List.set_cons_zero, List.set_cons_succ]
              refine mix_on (by kernel_rfl) (fun wv hv => (by go_simp; try with_reducible rfl)) ?_
              try simp only [Act.put, List.setIfInBounds_toArray, List.set_cons_zero, List.set_cons_succ]
              refine mix_on (by kernel_rfl) (fun wv hv => (by go_simp; try with_reducible rfl)) ?_
              try simp only [Act.put, List.setIfInBounds_toArray, List.set_cons_zero, List.set_cons_succ]
              refine mix_on (by kernel_rfl) (fun wv hv => (by obtain ⟨k0, k1, k2, k3⟩ := KC.out wv hv; go_simp; try with_reducible rfl)) ?_
              try simp only [Act.put, List.setIfInBounds_toArray, List.set_cons_zero, List.set_cons_succ]
              refine mix_on (by kernel_rfl) (fun wv hv => (by go_simp; try with_reducible rfl)) ?_
              try simp only [Act.put, List.setIfInBounds_toArray, List.set_cons_zero, List.set_cons_succ]
              refine mix_on (by kernel_rfl) (fun wv hv => (by obtain ⟨k0, k1, k2, k3⟩ := KC.out wv hv; go_simp; try with_reducible rfl)) ?_
              try simp only [Act.put, List.setIfInBounds_toArray, List.set_cons_zero, List.set_cons_succ]
              refine mix_on (by kernel_rfl) (fun wv hv => (by go_simp; try with_reducible rfl)) ?_
              try simp only [Act.put, List.setIfInBounds_toArray, List.set_cons_zero, List.set_cons_succ]
              refine mix_on (by kernel_rfl) (fun wv hv => (by go_simp; try with_reducible rfl)) ?_
              try simp only [Act.put, List.setIfInBounds_toArray, List.set_cons_zero, List.set_cons_succ]
              refine mix_on (by kernel_rfl) (fun wv hv => (by go_simp; try with_reducible rfl)) ?_
              try simp only [Act.put, List.setIfInBounds_toArray, List.set_cons_zero, List.set_cons_succ]
              refine mix_end (fun wz hz => ?_)
              go_wp2
              go_ret
              exact ⟨rfl, C6.out.trans' hz⟩
            · have g4 : (b != b') = true := by simpa using g3
              have g5 : (b == b') = false := by simpa using g3
              go_wp2
              go_ret
              exact ⟨rfl, C5.out⟩
          · have g4 : (eo != 0) = true := by simpa using g2
            have g5 : (eo == 0) = false := by simpa using g2
            go_wp2_with fail
            refine (HMo.out _).mono ?_
            rintro e w5 ⟨rfl, c5⟩
            have C5 := hide (C4.out.trans' c5)
            clear c5
            go_wp2
            go_ret
            exact ⟨rfl, C5.out⟩
        · have g4 : (es != 0) = true := by simpa using g1
          have g5 : (es == 0) = false := by simpa using g1
          go_wp2_with fail
          refine (HMs.out _).mono ?_
          rintro e w4 ⟨rfl, c4⟩
          have C4 := hide (C3.out.trans' c4)
          clear c4
          go_wp2
          go_ret
          exact ⟨rfl, C4.out⟩

set_option maxRecDepth 100000 in
set_option maxHeartbeats 16000000 in
theorem who_TF (i p k t r1 r2 r3 h1 h2 h3 u1 u2 u3 : Int) (b : Bool) (i' p' k' t' r1' r2' r3' h1' h2' h3' u1' u2' u3' : Int) (b' : Bool) (d q : Int) (g ws : Bool) (hg : g = true ↔ 1 ≤ d ∧ d ≤ 65535 ∧ 0 ≤ q ∧ q ≤ 65535 ∧ d ≠ q) (hs : ws = true ↔ 1 ≤ i ∧ i ≤ 65535 ∧ 0 ≤ p ∧ p ≤ 65535 ∧ i ≠ p) (es eo kk ko : Int) (hgv : g = true) (hwv : ws = false) (hMs : ∀ w, Calls Tryz.prog 10 #[.agg #[.int .i64 i, .int .i64 p, .bool b, .int .u64 r1, .int .u64 r2, .int .u64 r3, .int .u64 h1, .int .u64 h2, .int .u64 h3, .int .u64 u1, .int .u64 u2, .int .u64 u3, .int .i64 k, .int .i64 t]] w fun e w' => e = .returned (.int .i64 es) ∧ Chg NoChg w w') (hMo : ∀ w, Calls Tryz.prog 10 #[.agg #[.int .i64 i', .int .i64 p', .bool b', .int .u64 r1', .int .u64 r2', .int .u64 r3', .int .u64 h1', .int .u64 h2', .int .u64 h3', .int .u64 u1', .int .u64 u2', .int .u64 u3', .int .i64 k', .int .i64 t']] w fun e w' => e = .returned (.int .i64 eo) ∧ Chg NoChg w w') (hKm : ∀ w, Calls Tryz.prog 11 #[.agg #[.int .i64 d, .int .i64 q, .bool b, .int .u64 r1, .int .u64 r2, .int .u64 r3, .int .u64 h1, .int .u64 h2, .int .u64 h3, .int .u64 u1, .int .u64 u2, .int .u64 u3, .int .i64 k, .int .i64 t]] w fun e w' => e = .returned (.int .u8 kk) ∧ Chg NoChg w w') (hKs : ∀ w, Calls Tryz.prog 11 #[.agg #[.int .i64 i, .int .i64 p, .bool b, .int .u64 r1, .int .u64 r2, .int .u64 r3, .int .u64 h1, .int .u64 h2, .int .u64 h3, .int .u64 u1, .int .u64 u2, .int .u64 u3, .int .i64 k, .int .i64 t]] w fun e w' => e = .returned (.int .u8 kk) ∧ Chg NoChg w w') (hKo : ∀ w, Calls Tryz.prog 11 #[.agg #[.int .i64 i', .int .i64 p', .bool b', .int .u64 r1', .int .u64 r2', .int .u64 r3', .int .u64 h1', .int .u64 h2', .int .u64 h3', .int .u64 u1', .int .u64 u2', .int .u64 u3', .int .i64 k', .int .i64 t']] w fun e w' => e = .returned (.int .u8 ko) ∧ Chg NoChg w w') (hWs : ∀ w, Calls Tryz.prog 15 #[.agg #[.int .i64 i, .int .i64 p, .bool b, .int .u64 r1, .int .u64 r2, .int .u64 r3, .int .u64 h1, .int .u64 h2, .int .u64 h3, .int .u64 u1, .int .u64 u2, .int .u64 u3, .int .i64 k, .int .i64 t], .agg #[.int .i64 i, .int .i64 p, .bool b, .int .u64 r1, .int .u64 r2, .int .u64 r3, .int .u64 h1, .int .u64 h2, .int .u64 h3, .int .u64 u1, .int .u64 u2, .int .u64 u3, .int .i64 k, .int .i64 t]] w fun e w' => e = .returned (.agg #[.int .i64 i, .int .i64 p, .bool b, .int .u64 r1, .int .u64 r2, .int .u64 r3, .int .u64 h1, .int .u64 h2, .int .u64 h3, .int .u64 u1, .int .u64 u2, .int .u64 u3, .int .i64 k, .int .i64 t]) ∧ Chg NoChg w w') (hWo : ∀ w, Calls Tryz.prog 15 #[.agg #[.int .i64 i, .int .i64 p, .bool b, .int .u64 r1, .int .u64 r2, .int .u64 r3, .int .u64 h1, .int .u64 h2, .int .u64 h3, .int .u64 u1, .int .u64 u2, .int .u64 u3, .int .i64 k, .int .i64 t], .agg #[.int .i64 i', .int .i64 p', .bool b', .int .u64 r1', .int .u64 r2', .int .u64 r3', .int .u64 h1', .int .u64 h2', .int .u64 h3', .int .u64 u1', .int .u64 u2', .int .u64 u3', .int .i64 k', .int .i64 t']] w fun e w' => e = .returned (.agg #[.int .i64 i, .int .i64 p, .bool b, .int .u64 r1', .int .u64 r2', .int .u64 r3', .int .u64 h1', .int .u64 h2', .int .u64 h3', .int .u64 u1', .int .u64 u2', .int .u64 u3', .int .i64 k, .int .i64 t]) ∧ Chg NoChg w w') (hw : es = 0 → eo = 0 → b = b' → ((∀ w, Calls Tryz.prog 10 #[.agg #[.int .i64 i, .int .i64 p, .bool b, .int .u64 r1', .int .u64 r2', .int .u64 r3', .int .u64 h1', .int .u64 h2', .int .u64 h3', .int .u64 u1', .int .u64 u2', .int .u64 u3', .int .i64 k, .int .i64 t]] w fun e w' => e = .returned (.int .i64 0) ∧ Chg NoChg w w') ∧ (∀ w, Calls Tryz.prog 11 #[.agg #[.int .i64 i, .int .i64 p, .bool b, .int .u64 r1', .int .u64 r2', .int .u64 r3', .int .u64 h1', .int .u64 h2', .int .u64 h3', .int .u64 u1', .int .u64 u2', .int .u64 u3', .int .i64 k, .int .i64 t]] w fun e w' => e = .returned (.int .u8 ko) ∧ Chg NoChg w w'))) (w : World) (hd : Door w) :
    Calls Tryz.prog 5 #[.agg #[.int .i64 i, .int .i64 p, .bool b, .int .u64 r1, .int .u64 r2, .int .u64 r3, .int .u64 h1, .int .u64 h2, .int .u64 h3, .int .u64 u1, .int .u64 u2, .int .u64 u3, .int .i64 k, .int .i64 t], .agg #[.int .i64 i', .int .i64 p', .bool b', .int .u64 r1', .int .u64 r2', .int .u64 r3', .int .u64 h1', .int .u64 h2', .int .u64 h3', .int .u64 u1', .int .u64 u2', .int .u64 u3', .int .i64 k', .int .i64 t'], .int .i64 d, .int .i64 q] w fun e w' => e = .returned (.bool true) ∧ Chg NoChg w w' := by
  have HD := hide hd
  have HG := hide hg
  have HS := hide hs
  have HW := hide hw
  have Hgv := hide hgv
  have Hwv := hide hwv
  have HMs := hide hMs
  have HMo := hide hMo
  have HKm := hide hKm
  have HKs := hide hKs
  have HKo := hide hKo
  have HWs := hide hWs
  have HWo := hide hWo
  clear hd hg hs hw hgv hwv hMs hMo hKm hKs hKo hWs hWo
  have Bs0 := hide ((Blk.new w #[.int .i64 i, .int .i64 p, .bool b, .int .u64 r1, .int .u64 r2, .int .u64 r3, .int .u64 h1, .int .u64 h2, .int .u64 h3, .int .u64 u1, .int .u64 u2, .int .u64 u3, .int .i64 k, .int .i64 t] 26).alloc (.cells #[.int .i64 i', .int .i64 p', .bool b', .int .u64 r1', .int .u64 r2', .int .u64 r3', .int .u64 h1', .int .u64 h2', .int .u64 h3', .int .u64 u1', .int .u64 u2', .int .u64 u3', .int .i64 k', .int .i64 t'] 26))
  have Bo0 := hide (Blk.new (w.alloc (.cells #[.int .i64 i, .int .i64 p, .bool b, .int .u64 r1, .int .u64 r2, .int .u64 r3, .int .u64 h1, .int .u64 h2, .int .u64 h3, .int .u64 u1, .int .u64 u2, .int .u64 u3, .int .i64 k, .int .i64 t] 26)) #[.int .i64 i', .int .i64 p', .bool b', .int .u64 r1', .int .u64 r2', .int .u64 r3', .int .u64 h1', .int .u64 h2', .int .u64 h3', .int .u64 u1', .int .u64 u2', .int .u64 u3', .int .i64 k', .int .i64 t'] 26)
  have C0 := hide (((Chg.refl NoChg w).alloc (.cells #[.int .i64 i, .int .i64 p, .bool b, .int .u64 r1, .int .u64 r2, .int .u64 r3, .int .u64 h1, .int .u64 h2, .int .u64 h3, .int .u64 u1, .int .u64 u2, .int .u64 u3, .int .i64 k, .int .i64 t] 26)).alloc (.cells #[.int .i64 i', .int .i64 p', .bool b', .int .u64 r1', .int .u64 r2', .int .u64 r3', .int .u64 h1', .int .u64 h2', .int .u64 h3', .int .u64 u1', .int .u64 u2', .int .u64 u3', .int .i64 k', .int .i64 t'] 26))
  simp only [World.size_alloc] at Bs0 Bo0
  go_enter Tryz.func5, Tryz.ntmps5
  go_wp2_with fail
  refine (l13awake_any _ (HD.out.keep C0.out)).mono ?_
  rintro e w1 ⟨rfl, c1⟩
  have D1 := hide (c1)
  have Bs1 := hide (D1.out.blk Bs0.out (fun h => h))
  have Bo1 := hide (D1.out.blk Bo0.out (fun h => h))
  have C1 := hide (C0.out.trans' D1.out)
  clear c1 D1 C0 Bs0 Bo0
  have D2 := hide ((Chg.refl NoChg w1).alloc (.cells #[.int .i64 d, .int .i64 q, .bool b, .int .u64 r1, .int .u64 r2, .int .u64 r3, .int .u64 h1, .int .u64 h2, .int .u64 h3, .int .u64 u1, .int .u64 u2, .int .u64 u3, .int .i64 k, .int .i64 t] 26))
  have Bm2 := hide (Blk.new w1 #[.int .i64 d, .int .i64 q, .bool b, .int .u64 r1, .int .u64 r2, .int .u64 r3, .int .u64 h1, .int .u64 h2, .int .u64 h3, .int .u64 u1, .int .u64 u2, .int .u64 u3, .int .i64 k, .int .i64 t] 26)
  have Bs2 := hide (D2.out.blk Bs1.out (fun h => h))
  have Bo2 := hide (D2.out.blk Bo1.out (fun h => h))
  have C2 := hide (C1.out.trans' D2.out)
  clear D2
  obtain ⟨a0, a1, a2, a3, a4, a5, a6, a7, a8, a9, a10, a11, a12, a13⟩ := spc_cellsI Bs1.out
  have l0 := Bs1.out.lt
  go_upto_region 5 with fail
  clear a0 a1 a2 a3 a4 a5 a6 a7 a8 a9 a10 a11 a12 a13
  go_cut [10] (fun s10 wz => s10 = .bool g ∧ wz = w1.alloc (.cells #[.int .i64 d, .int .i64 q, .bool b, .int .u64 r1, .int .u64 r2, .int .u64 r3, .int .u64 h1, .int .u64 h2, .int .u64 h3, .int .u64 u1, .int .u64 u2, .int .u64 u3, .int .i64 k, .int .i64 t] 26))
  case first =>
    go_wp2_with fail
    all_goals go_meet
    all_goals refine ⟨congrArg Value.bool (Bool.eq_iff_iff.2 ?_), rfl⟩
    all_goals (rw [HG.out]; simp; omega)
  case rest =>
    obtain ⟨rfl, rfl⟩ := hcut
    obtain ⟨a0, a1, a2, a3, a4, a5, a6, a7, a8, a9, a10, a11, a12, a13⟩ := spc_cellsI Bs2.out
    go_upto_region 6 with fail
    go_cut [11] (fun s11 wz => s11 = .bool ws ∧ wz = w1.alloc (.cells #[.int .i64 d, .int .i64 q, .bool b, .int .u64 r1, .int .u64 r2, .int .u64 r3, .int .u64 h1, .int .u64 h2, .int .u64 h3, .int .u64 u1, .int .u64 u2, .int .u64 u3, .int .i64 k, .int .i64 t] 26))
    case first =>
      go_wp2_with fail
      all_goals go_meet
      all_goals refine ⟨congrArg Value.bool (Bool.eq_iff_iff.2 ?_), rfl⟩
      all_goals (rw [HS.out]; simp; omega)
    case rest =>
      obtain ⟨rfl, rfl⟩ := hcut
      have hgv := Hgv.out
      subst hgv
      have hwv := Hwv.out; subst hwv
  
      obtain ⟨w2, hw2⟩ : ∃ x, x = w1.alloc (.cells #[.int .i64 d, .int .i64 q, .bool b, .int .u64 r1, .int .u64 r2, .int .u64 r3, .int .u64 h1, .int .u64 h2, .int .u64 h3, .int .u64 u1, .int .u64 u2, .int .u64 u3, .int .i64 k, .int .i64 t] 26) := ⟨_, rfl⟩
      rw [← hw2] at Bm2 Bs2 Bo2 C2 a0 a1 a2 a3 a4 a5 a6 a7 a8 a9 a10 a11 a12 a13 ⊢
      have lm := Bm2.out.lt
      obtain ⟨n1, hn1⟩ : ∃ x, x = w1.heap.size := ⟨_, rfl⟩
      go_upto_region 7 with fail
      rw [← hn1] at Bm2 ⊢
      clear hn1 hw2 l0
      clear a0 a1 a2 a3 a4 a5 a6 a7 a8 a9 a10 a11 a12 a13
      go_cut [97] (fun s97 wz => s97 = .bool false ∧ Chg NoChg w2 wz)
      case first =>
        have KM := hide (fun (w' : World) (h : Chg NoChg w2 w') => h.blk Bm2.out (fun h => h))
        have KS := hide (fun (w' : World) (h : Chg NoChg w2 w') => h.blk Bs2.out (fun h => h))
      
        refine wp_region_mix [(true, 0), (true, 1), (true, 2), (true, 3), (false, 4), (true, 5), (true, 6), (true, 7), (true, 8), (true, 9), (true, 10), (true, 11), (true, 12), (true, 13), (true, 15), (false, 14), (false, 16), (true, 17), (true, 18), (true, 19), (true, 20), (true, 21), (true, 23), (false, 22), (false, 24), (true, 25), (true, 26), (true, 27), (true, 28), (true, 29), (true, 31), (false, 30), (true, 32), (true, 33)] (fun w' => Chg NoChg w2 w') (by kernel_rfl) (by kernel_rfl) ?_ (by (repeat' (first | (with_reducible exact Chg.refl _ _) | (with_reducible assumption) | (with_reducible refine Chg.alloc ?_ _) | (with_reducible refine Chg.drewN ?_ _) | (with_reducible refine Chg.drew ?_) | (with_reducible refine Chg.setCell ?_ _ ?_) | (apply Or.inl; with_reducible rfl) | (apply Or.inl; simp; done) | (apply Or.inr; simp; done) | (apply Or.inr; simp; omega)))) ?_
        · exact fun _ _ _ _ _ h => h
        simp only [mixOps, List.getElem?_toArray, List.getElem?_cons_zero, List.getElem?_cons_succ]
        refine mix_on (by kernel_rfl) (fun wv hv => (by go_simp; try with_reducible rfl)) ?_
        try simp only [Act.put, List.setIfInBounds_toArray, List.set_cons_zero, List.set_cons_succ]
        refine mix_on (by kernel_rfl) (fun wv hv => (by go_simp; try with_reducible rfl)) ?_
        try simp only [Act.put, List.setIfInBounds_toArray, List.set_cons_zero, List.set_cons_succ]
        refine mix_on (by kernel_rfl) (fun wv hv => (by go_simp; try with_reducible rfl)) ?_
        try simp only [Act.put, List.setIfInBounds_toArray, List.set_cons_zero, List.set_cons_succ]
        refine mix_off (by kernel_rfl) ?_
        try simp only [Act.put, List.setIfInBounds_toArray, List.set_cons_zero, List.set_cons_succ]
        refine mix_not (by kernel_rfl) ?_
        try simp only [Act.put, List.setIfInBounds_toArray, List.set_cons_zero, List.set_cons_succ]
        refine mix_off (by kernel_rfl) ?_
        try simp only [Act.put, List.setIfInBounds_toArray, List.set_cons_zero, List.set_cons_succ]
        refine mix_on (by kernel_rfl) (fun wv hv => (by go_simp; try with_reducible rfl)) ?_
        try simp only [Act.put, List.setIfInBounds_toArray, List.set_cons_zero, List.set_cons_succ]
        refine mix_on (by kernel_rfl) (fun wv hv => (by go_simp; try with_reducible rfl)) ?_
        try simp only [Act.put, List.setIfInBounds_toArray, List.set_cons_zero, List.set_cons_succ]
        refine mix_on (by kernel_rfl) (fun wv hv => (by go_simp; try with_reducible rfl)) ?_
        try simp only [Act.put, List.setIfInBounds_toArray, List.set_cons_zero, List.set_cons_succ]
        refine mix_on (by kernel_rfl) (fun wv hv => (by go_simp; try with_reducible rfl)) ?_
        try simp only [Act.put, List.setIfInBounds_toArray, List.set_cons_zero, List.set_cons_succ]
        refine mix_on (by kernel_rfl) (fun wv hv => (by go_simp; try with_reducible rfl)) ?_
        try simp only [Act.put, List.setIfInBounds_toArray, List.set_cons_zero, List.set_cons_succ]
        refine mix_on (by kernel_rfl) (fun wv hv => (by go_simp; try with_reducible rfl)) ?_
        try simp only [Act.put, List.setIfInBounds_toArray, List.set_cons_zero, List.set_cons_succ]
        refine mix_on (by kernel_rfl) (fun wv hv => (by go_simp; try with_reducible rfl)) ?_
        try simp only [Act.put, List.setIfInBounds_toArray, List.set_cons_zero, List.set_cons_succ]
        refine mix_off (by kernel_rfl) ?_
        try simp only [Act.put, List.setIfInBounds_toArray, List.set_cons_zero, List.set_cons_succ]
        refine mix_off (by kernel_rfl) ?_
        try simp only [Act.put, List.setIfInBounds_toArray, List.set_cons_zero, List.set_cons_succ]
        refine mix_not (by kernel_rfl) ?_
        try simp only [Act.put, List.setIfInBounds_toArray, List.set_cons_zero, List.set_cons_succ]
        refine mix_not (by kernel_rfl) ?_
        try simp only [Act.put, List.setIfInBounds_toArray, List.set_cons_zero, List.set_cons_succ]
        refine mix_off (by kernel_rfl) ?_
        try simp only [Act.put, List.setIfInBounds_toArray, List.set_cons_zero, List.set_cons_succ]
        refine mix_on (by kernel_rfl) (fun wv hv => (by go_simp; try with_reducible rfl)) ?_
        try simp only [Act.put, List.setIfInBounds_toArray, List.set_cons_zero, List.set_cons_succ]
        refine mix_on (by kernel_rfl) (fun wv hv => (by go_simp; try with_reducible rfl)) ?_
        try simp only [Act.put, List.setIfInBounds_toArray, List.set_cons_zero, List.set_cons_succ]
        refine mix_on (by kernel_rfl) (fun wv hv => (by go_simp; try with_reducible rfl)) ?_
        try simp only [Act.put, List.setIfInBounds_toArray, List.set_cons_zero, List.set_cons_succ]
        refine mix_on (by kernel_rfl) (fun wv hv => run_load_spec d q k t r1 r2 r3 h1 h2 h3 u1 u2 u3 b rfl (KM.out wv hv)) ?_
        try simp only [Act.put, List.setIfInBounds_toArray, List.set_cons_zero, List.set_cons_succ]
        refine mix_on (by kernel_rfl) (fun wv hv => run_load_spec i p k t r1 r2 r3 h1 h2 h3 u1 u2 u3 b rfl (KS.out wv hv)) ?_
        try simp only [Act.put, List.setIfInBounds_toArray, List.set_cons_zero, List.set_cons_succ]
        refine mix_do (fun wv hv => ?_)
        go_wp2_with fail
        refine (HKm.out _).mono ?_
        rintro e wy ⟨rfl, cy⟩
        go_wp2
        refine ⟨hv.trans' cy, ?_⟩
        clear cy hv
        try simp only [Act.put, List.setIfInBounds_toArray, List.set_cons_zero, List.set_cons_succ]
        refine mix_do (fun wv hv => ?_)
        go_wp2_with fail
        refine (HKs.out _).mono ?_
        rintro e wy ⟨rfl, cy⟩
        go_wp2
        refine ⟨hv.trans' cy, ?_⟩
        clear cy hv
        try simp only [Act.put, List.setIfInBounds_toArray, List.set_cons_zero, List.set_cons_succ]
        refine mix_on (by kernel_rfl) (fun wv hv => (by go_simp; try with_reducible rfl)) ?_
        try simp only [Act.put, List.setIfInBounds_toArray, List.set_cons_zero, List.set_cons_succ]
        refine mix_on (by kernel_rfl) (fun wv hv => (by go_simp; try with_reducible rfl)) ?_
        try simp only [Act.put, List.setIfInBounds_toArray, List.set_cons_zero, List.set_cons_succ]
        refine mix_on (by kernel_rfl) (fun wv hv => (by go_simp; try with_reducible rfl)) ?_
        try simp only [Act.put, List.setIfInBounds_toArray, List.set_cons_zero, List.set_cons_succ]
        refine mix_on (by kernel_rfl) (fun wv hv => run_load_spec i p k t r1 r2 r3 h1 h2 h3 u1 u2 u3 b rfl (KS.out wv hv)) ?_
        try simp only [Act.put, List.setIfInBounds_toArray, List.set_cons_zero, List.set_cons_succ]
        refine mix_on (by kernel_rfl) (fun wv hv => run_load_spec i p k t r1 r2 r3 h1 h2 h3 u1 u2 u3 b rfl (KS.out wv hv)) ?_
        try simp only [Act.put, List.setIfInBounds_toArray, List.set_cons_zero, List.set_cons_succ]
        refine mix_on (by kernel_rfl) (fun wv hv => run_load_spec i p k t r1 r2 r3 h1 h2 h3 u1 u2 u3 b rfl (KS.out wv hv)) ?_
        try simp only [Act.put, List.setIfInBounds_toArray, List.set_cons_zero, List.set_cons_succ]
        refine mix_do (fun wv hv => ?_)
        go_wp2_with fail
        refine (HWs.out _).mono ?_
        rintro e wy ⟨rfl, cy⟩
        go_wp2
        refine ⟨hv.trans' cy, ?_⟩
        clear cy hv
        try simp only [Act.put, List.setIfInBounds_toArray, List.set_cons_zero, List.set_cons_succ]
        refine mix_on (by kernel_rfl) (fun wv hv => (by go_simp; try with_reducible rfl)) ?_
        try simp only [Act.put, List.setIfInBounds_toArray, List.set_cons_zero, List.set_cons_succ]
        refine mix_on (by kernel_rfl) (fun wv hv => (by go_simp; try with_reducible rfl)) ?_
        try simp only [Act.put, List.setIfInBounds_toArray, List.set_cons_zero, List.set_cons_succ]
        refine mix_end (fun wz hz => ?_)
        go_wp2_with fail
        go_meet
        exact ⟨rfl, hz⟩
      case rest =>
        obtain ⟨rfl, c3⟩ := hcut
        obtain ⟨w3, hw3⟩ : ∃ x, x = wc := ⟨_, rfl⟩
        rw [← hw3] at c3 ⊢
        clear hw3
        have Bs3 := hide (c3.blk Bs2.out (fun h => h))
        have Bo3 := hide (c3.blk Bo2.out (fun h => h))
        have C3 := hide (C2.out.trans' c3)
        clear c3 Bm2 Bs2 Bo2 C2 lm
        obtain ⟨a0, a1, a2, a3, a4, a5, a6, a7, a8, a9, a10, a11, a12, a13⟩ := spc_cellsI Bs3.out
        by_cases g1 : es = 0
        · subst g1
          go_wp2_with fail
          refine (HMs.out _).mono ?_
          rintro e w4 ⟨rfl, c4⟩
          have Bs4 := hide (c4.blk Bs3.out (fun h => h))
          have Bo4 := hide (c4.blk Bo3.out (fun h => h))
          have C4 := hide (C3.out.trans' c4)
          clear c4 Bs3 Bo3 C3 a0 a1 a2 a3 a4 a5 a6 a7 a8 a9 a10 a11 a12 a13
          obtain ⟨a0, a1, a2, a3, a4, a5, a6, a7, a8, a9, a10, a11, a12, a13⟩ := spc_cellsI Bo4.out
          by_cases g2 : eo = 0
          · subst g2
            go_wp2_with fail
            refine (HMo.out _).mono ?_
            rintro e w5 ⟨rfl, c5⟩
            have Bs5 := hide (c5.blk Bs4.out (fun h => h))
            have Bo5 := hide (c5.blk Bo4.out (fun h => h))
            have C5 := hide (C4.out.trans' c5)
            clear c5 Bs4 Bo4 C4 a0 a1 a2 a3 a4 a5 a6 a7 a8 a9 a10 a11 a12 a13
            obtain ⟨a0, a1, a2, a3, a4, a5, a6, a7, a8, a9, a10, a11, a12, a13⟩ := spc_cellsI Bs5.out
            obtain ⟨b0, b1, b2, b3, b4, b5, b6, b7, b8, b9, b10, b11, b12, b13⟩ := spc_cellsI Bo5.out
            by_cases g3 : b = b'
            · subst g3
              obtain ⟨hWM, hWK⟩ := HW.out (by simp) (by simp) (by simp)
              have HWM := hide hWM
              have HWK := hide hWK
              clear hWM hWK
              go_wp2_with fail
              refine (HWo.out _).mono ?_
              rintro e w6 ⟨rfl, c6⟩
              have D6 := hide (c6.alloc (.cells #[.int .i64 i, .int .i64 p, .bool b, .int .u64 r1', .int .u64 r2', .int .u64 r3', .int .u64 h1', .int .u64 h2', .int .u64 h3', .int .u64 u1', .int .u64 u2', .int .u64 u3', .int .i64 k, .int .i64 t] 26))
              have Bw6 := hide (Blk.new w6 #[.int .i64 i, .int .i64 p, .bool b, .int .u64 r1', .int .u64 r2', .int .u64 r3', .int .u64 h1', .int .u64 h2', .int .u64 h3', .int .u64 u1', .int .u64 u2', .int .u64 u3', .int .i64 k, .int .i64 t] 26)
              have Bs6 := hide (D6.out.blk Bs5.out (fun h => h))
              have Bo6 := hide (D6.out.blk Bo5.out (fun h => h))
              have C6 := hide (C5.out.trans' D6.out)
              obtain ⟨n2, hn2⟩ : ∃ x, x = w6.heap.size := ⟨_, rfl⟩
              obtain ⟨w7, hw7⟩ : ∃ x, x = w6.alloc (.cells #[.int .i64 i, .int .i64 p, .bool b, .int .u64 r1', .int .u64 r2', .int .u64 r3', .int .u64 h1', .int .u64 h2', .int .u64 h3', .int .u64 u1', .int .u64 u2', .int .u64 u3', .int .i64 k, .int .i64 t] 26) := ⟨_, rfl⟩
              clear c6 D6 Bs5 Bo5 C5 a0 a1 a2 a3 a4 a5 a6 a7 a8 a9 a10 a11 a12 a13 b0 b1 b2 b3 b4 b5 b6 b7 b8 b9 b10 b11 b12 b13
              go_wp2_with fail
              rw [← hw7] at Bw6 Bs6 Bo6 C6 ⊢
              rw [← hn2] at Bw6 ⊢
              clear hw7 hn2
              have KW := hide (fun (w' : World) (h : Chg NoChg w7 w') => h.blk Bw6.out (fun h => h))
              have KO := hide (fun (w' : World) (h : Chg NoChg w7 w') => h.blk Bo6.out (fun h => h))
              have KC := hide (fun (w' : World) (h : Chg NoChg w7 w') => three_cells (h.blk Bw6.out (fun h => h)) (h.blk Bs6.out (fun h => h)))
              refine wp_region_mix [(true, 0), (false, 1), (true, 2), (true, 3), (true, 4), (true, 6), (false, 5), (false, 7), (true, 8), (true, 9), (true, 10), (true, 11), (true, 12), (true, 13), (true, 14), (true, 15), (true, 16), (true, 17), (true, 18), (true, 19), (true, 20), (true, 21), (true, 22), (true, 23), (true, 24)] (fun w' => Chg NoChg w7 w') (by kernel_rfl) (by kernel_rfl) ?_ (by (repeat' (first | (with_reducible exact Chg.refl _ _) | (with_reducible assumption) | (with_reducible refine Chg.alloc ?_ _) | (with_reducible refine Chg.drewN ?_ _) | (with_reducible refine Chg.drew ?_) | (with_reducible refine Chg.setCell ?_ _ ?_) | (apply Or.inl; with_reducible rfl) | (apply Or.inl; simp; done) | (apply Or.inr; simp; done) | (apply Or.inr; simp; omega)))) ?_
              · exact fun _ _ _ _ _ h => h
              simp only [mixOps, List.getElem?_toArray, List.getElem?_cons_zero, List.getElem?_cons_succ]
              refine mix_on (by kernel_rfl) (fun wv hv => run_load_spec i p k t r1' r2' r3' h1' h2' h3' u1' u2' u3' b rfl (KW.out wv hv)) ?_
              try simp only [Act.put, List.setIfInBounds_toArray, List.set_cons_zero, List.set_cons_succ]
              refine mix_do (fun wv hv => ?_)
              go_wp2_with fail
              refine (HWM.out _).mono ?_
              rintro e wy ⟨rfl, cy⟩
              go_wp2
              refine ⟨hv.trans' cy, ?_⟩
              clear cy hv
              try simp only [Act.put, List.setIfInBounds_toArray, List.set_cons_zero, List.set_cons_succ]
              refine mix_on (by kernel_rfl) (fun wv hv => (by go_simp; try with_reducible rfl)) ?_
              try simp only [Act.put, List.setIfInBounds_toArray, List.set_cons_zero, List.set_cons_succ]
              refine mix_on (by kernel_rfl) (fun wv hv => (by go_simp; try with_reducible rfl)) ?_
              try simp only [Act.put, List.setIfInBounds_toArray, List.set_cons_zero, List.set_cons_succ]
              refine mix_on (by kernel_rfl) (fun wv hv => run_load_spec i p k t r1' r2' r3' h1' h2' h3' u1' u2' u3' b rfl (KW.out wv hv)) ?_
              try simp only [Act.put, List.setIfInBounds_toArray, List.set_cons_zero, List.set_cons_succ]
              refine mix_on (by kernel_rfl) (fun wv hv => run_load_spec i' p' k' t' r1' r2' r3' h1' h2' h3' u1' u2' u3' b rfl (KO.out wv hv)) ?_
              try simp only [Act.put, List.setIfInBounds_toArray, List.set_cons_zero, List.set_cons_succ]
              refine mix_do (fun wv hv => ?_)
              go_wp2_with fail
              refine (HWK.out _).mono ?_
              rintro e wy ⟨rfl, cy⟩
              go_wp2
              refine ⟨hv.trans' cy, ?_⟩
              clear cy hv
              try simp only [Act.put, List.setIfInBounds_toArray, List.set_cons_zero, List.set_cons_succ]
              refine mix_do (fun wv hv => ?_)
              go_wp2_with fail
              refine (HKo.out _).mono ?_
              rintro e wy ⟨rfl, cy⟩
              go_wp2
              refine ⟨hv.trans' cy, ?_⟩
              clear cy hv
              try simp only [Act.put, List.setIfInBounds_toArray, List.set_cons_zero, List.set_cons_succ]
              refine mix_on (by kernel_rfl) (fun wv hv => (by go_simp; try with_reducible rfl)) ?_
              try simp only [Act.put, List.setIfInBounds_toArray, List.set_cons_zero, List.set_cons_succ]
              refine mix_on (by kernel_rfl) (fun wv hv => (by go_simp; try with_reducible rfl)) ?_
              try simp only [Act.put, List.setIfInBounds_toArray, List.set_cons_zero, List.set_cons_succ]
              refine mix_on (by kernel_rfl) (fun wv hv => (by go_simp; try with_reducible rfl)) ?_
              try simp only [Act.put, List.setIfInBounds_toArray, List.set_cons_zero, List.set_cons_succ]
              refine mix_on (by kernel_rfl) (fun wv hv => (by go_simp; try with_reducible rfl)) ?_
              try simp only [Act.put, List.setIfInBounds_toArray, List.set_cons_zero, List.set_cons_succ]
              refine mix_on (by kernel_rfl) (fun wv hv => (by obtain ⟨k0, k1, k2, k3⟩ := KC.out wv hv; go_simp; try with_reducible rfl)) ?_
              try simp only [Act.put, List.setIfInBounds_toArray, List.set_cons_zero, List.set_cons_succ]
              refine mix_on (by kernel_rfl) (fun wv hv => (by go_simp; try with_reducible rfl)) ?_
              try simp only [Act.put, List.setIfInBounds_toArray, List.set_cons_zero, List.set_cons_succ]
              refine mix_on (by kernel_rfl) (fun wv hv => (by obtain ⟨k0, k1, k2, k3⟩ := KC.out wv hv; go_simp; try with_reducible rfl)) ?_
              try simp only [Act.put, List.setIfInBounds_toArray, List.set_cons_zero, List.set_cons_succ]
              refine mix_on (by kernel_rfl) (fun wv hv => (by go_simp; try with_reducible rfl)) ?_
              try simp only [Act.put, List.setIfInBounds_toArray, List.set_cons_zero, List.set_cons_succ]
              refine mix_on (by kernel_rfl) (fun wv hv => (by go_simp; try with_reducible rfl)) ?_
              try simp only [Act.put, List.setIfInBounds_toArray, List.set_cons_zero, List.set_cons_succ]
              refine mix_on (by kernel_rfl) (fun wv hv => (by go_simp; try with_reducible rfl)) ?_
              try simp only [Act.put, List.setIfInBounds_toArray, List.set_cons_zero, List.set_cons_succ]
              refine mix_on (by kernel_rfl) (fun wv hv => (by go_simp; try with_reducible rfl)) ?_
              try simp only [Act.put, List.setIfInBounds_toArray, List.set_cons_zero, List.set_cons_succ]
              refine mix_on (by kernel_rfl) (fun wv hv => (by obtain ⟨k0, k1, k2, k3⟩ := KC.out wv hv; go_simp; try with_reducible rfl)) ?_
              try simp only [Act.put, List.setIfInBounds_toArray, List.set_cons_zero, List.set_cons_succ]
              refine mix_on (by kernel_rfl) (fun wv hv => (by go_simp; try with_reducible rfl)) ?_
              try simp only [Act.put, List.setIfInBounds_toArray, List.set_cons_zero, List.set_cons_succ]
              refine mix_on (by kernel_rfl) (fun wv hv => (by obtain ⟨k0, k1, k2, k3⟩ := KC.out wv hv; go_simp; try with_reducible rfl)) ?_
              try simp only [Act.put, List.setIfInBounds_toArray, List.set_cons_zero, List.set_cons_succ]
              refine mix_on (by kernel_rfl) (fun wv hv => (by go_simp; try with_reducible rfl)) ?_
              try simp only [Act.put, List.setIfInBounds_toArray, List.set_cons_zero, List.set_cons_succ]
              refine mix_on (by kernel_rfl) (fun wv hv => (by go_simp; try with_reducible rfl)) ?_
              try simp only [Act.put, List.setIfInBounds_toArray, List.set_cons_zero, List.set_cons_succ]
              refine mix_on (by kernel_rfl) (fun wv hv => (by go_simp; try with_reducible rfl)) ?_
              try simp only [Act.put, List.setIfInBounds_toArray, List.set_cons_zero, List.set_cons_succ]
              refine mix_end (fun wz hz => ?_)
              go_wp2
              go_ret
              exact ⟨rfl, C6.out.trans' hz⟩
            · have g4 : (b != b') = true := by simpa using g3
              have g5 : (b == b') = false := by simpa using g3
              go_wp2
              go_ret
              exact ⟨rfl, C5.out⟩
          · have g4 : (eo != 0) = true := by simpa using g2
            have g5 : (eo == 0) = false := by simpa using g2
            go_wp2_with fail
            refine (HMo.out _).mono ?_
            rintro e w5 ⟨rfl, c5⟩
            have C5 := hide (C4.out.trans' c5)
            clear c5
            go_wp2
            go_ret
            exact ⟨rfl, C5.out⟩
        · have g4 : (es != 0) = true := by simpa using g1
          have g5 : (es == 0) = false := by simpa using g1
          go_wp2_with fail
          refine (HMs.out _).mono ?_
          rintro e w4 ⟨rfl, c4⟩
          have C4 := hide (C3.out.trans' c4)
          clear c4
          go_wp2
          go_ret
          exact ⟨rfl, C4.out⟩

set_option maxRecDepth 100000 in
set_option maxHeartbeats 16000000 in
theorem who_TT (i p k t r1 r2 r3 h1 h2 h3 u1 u2 u3 : Int) (b : Bool) (i' p' k' t' r1' r2' r3' h1' h2' h3' u1' u2' u3' : Int) (b' : Bool) (d q : Int) (g ws : Bool) (hg : g = true ↔ 1 ≤ d ∧ d ≤ 65535 ∧ 0 ≤ q ∧ q ≤ 65535 ∧ d ≠ q) (hs : ws = true ↔ 1 ≤ i ∧ i ≤ 65535 ∧ 0 ≤ p ∧ p ≤ 65535 ∧ i ≠ p) (es eo kk ko : Int) (hgv : g = true) (hwv : ws = true) (hMm : ∀ w, Calls Tryz.prog 10 #[.agg #[.int .i64 d, .int .i64 q, .bool b, .int .u64 r1, .int .u64 r2, .int .u64 r3, .int .u64 h1, .int .u64 h2, .int .u64 h3, .int .u64 u1, .int .u64 u2, .int .u64 u3, .int .i64 k, .int .i64 t]] w fun e w' => e = .returned (.int .i64 es) ∧ Chg NoChg w w') (hMs : ∀ w, Calls Tryz.prog 10 #[.agg #[.int .i64 i, .int .i64 p, .bool b, .int .u64 r1, .int .u64 r2, .int .u64 r3, .int .u64 h1, .int .u64 h2, .int .u64 h3, .int .u64 u1, .int .u64 u2, .int .u64 u3, .int .i64 k, .int .i64 t]] w fun e w' => e = .returned (.int .i64 es) ∧ Chg NoChg w w') (hMo : ∀ w, Calls Tryz.prog 10 #[.agg #[.int .i64 i', .int .i64 p', .bool b', .int .u64 r1', .int .u64 r2', .int .u64 r3', .int .u64 h1', .int .u64 h2', .int .u64 h3', .int .u64 u1', .int .u64 u2', .int .u64 u3', .int .i64 k', .int .i64 t']] w fun e w' => e = .returned (.int .i64 eo) ∧ Chg NoChg w w') (hKm : ∀ w, Calls Tryz.prog 11 #[.agg #[.int .i64 d, .int .i64 q, .bool b, .int .u64 r1, .int .u64 r2, .int .u64 r3, .int .u64 h1, .int .u64 h2, .int .u64 h3, .int .u64 u1, .int .u64 u2, .int .u64 u3, .int .i64 k, .int .i64 t]] w fun e w' => e = .returned (.int .u8 kk) ∧ Chg NoChg w w') (hKs : ∀ w, Calls Tryz.prog 11 #[.agg #[.int .i64 i, .int .i64 p, .bool b, .int .u64 r1, .int .u64 r2, .int .u64 r3, .int .u64 h1, .int .u64 h2, .int .u64 h3, .int .u64 u1, .int .u64 u2, .int .u64 u3, .int .i64 k, .int .i64 t]] w fun e w' => e = .returned (.int .u8 kk) ∧ Chg NoChg w w') (hKo : ∀ w, Calls Tryz.prog 11 #[.agg #[.int .i64 i', .int .i64 p', .bool b', .int .u64 r1', .int .u64 r2', .int .u64 r3', .int .u64 h1', .int .u64 h2', .int .u64 h3', .int .u64 u1', .int .u64 u2', .int .u64 u3', .int .i64 k', .int .i64 t']] w fun e w' => e = .returned (.int .u8 ko) ∧ Chg NoChg w w') (hWs : ∀ w, Calls Tryz.prog 15 #[.agg #[.int .i64 i, .int .i64 p, .bool b, .int .u64 r1, .int .u64 r2, .int .u64 r3, .int .u64 h1, .int .u64 h2, .int .u64 h3, .int .u64 u1, .int .u64 u2, .int .u64 u3, .int .i64 k, .int .i64 t], .agg #[.int .i64 i, .int .i64 p, .bool b, .int .u64 r1, .int .u64 r2, .int .u64 r3, .int .u64 h1, .int .u64 h2, .int .u64 h3, .int .u64 u1, .int .u64 u2, .int .u64 u3, .int .i64 k, .int .i64 t]] w fun e w' => e = .returned (.agg #[.int .i64 i, .int .i64 p, .bool b, .int .u64 r1, .int .u64 r2, .int .u64 r3, .int .u64 h1, .int .u64 h2, .int .u64 h3, .int .u64 u1, .int .u64 u2, .int .u64 u3, .int .i64 k, .int .i64 t]) ∧ Chg NoChg w w') (hWo : ∀ w, Calls Tryz.prog 15 #[.agg #[.int .i64 i, .int .i64 p, .bool b, .int .u64 r1, .int .u64 r2, .int .u64 r3, .int .u64 h1, .int .u64 h2, .int .u64 h3, .int .u64 u1, .int .u64 u2, .int .u64 u3, .int .i64 k, .int .i64 t], .agg #[.int .i64 i', .int .i64 p', .bool b', .int .u64 r1', .int .u64 r2', .int .u64 r3', .int .u64 h1', .int .u64 h2', .int .u64 h3', .int .u64 u1', .int .u64 u2', .int .u64 u3', .int .i64 k', .int .i64 t']] w fun e w' => e = .returned (.agg #[.int .i64 i, .int .i64 p, .bool b, .int .u64 r1', .int .u64 r2', .int .u64 r3', .int .u64 h1', .int .u64 h2', .int .u64 h3', .int .u64 u1', .int .u64 u2', .int .u64 u3', .int .i64 k, .int .i64 t]) ∧ Chg NoChg w w') (hw : es = 0 → eo = 0 → b = b' → ((∀ w, Calls Tryz.prog 10 #[.agg #[.int .i64 i, .int .i64 p, .bool b, .int .u64 r1', .int .u64 r2', .int .u64 r3', .int .u64 h1', .int .u64 h2', .int .u64 h3', .int .u64 u1', .int .u64 u2', .int .u64 u3', .int .i64 k, .int .i64 t]] w fun e w' => e = .returned (.int .i64 0) ∧ Chg NoChg w w') ∧ (∀ w, Calls Tryz.prog 11 #[.agg #[.int .i64 i, .int .i64 p, .bool b, .int .u64 r1', .int .u64 r2', .int .u64 r3', .int .u64 h1', .int .u64 h2', .int .u64 h3', .int .u64 u1', .int .u64 u2', .int .u64 u3', .int .i64 k, .int .i64 t]] w fun e w' => e = .returned (.int .u8 ko) ∧ Chg NoChg w w'))) (w : World) (hd : Door w) :
    Calls Tryz.prog 5 #[.agg #[.int .i64 i, .int .i64 p, .bool b, .int .u64 r1, .int .u64 r2, .int .u64 r3, .int .u64 h1, .int .u64 h2, .int .u64 h3, .int .u64 u1, .int .u64 u2, .int .u64 u3, .int .i64 k, .int .i64 t], .agg #[.int .i64 i', .int .i64 p', .bool b', .int .u64 r1', .int .u64 r2', .int .u64 r3', .int .u64 h1', .int .u64 h2', .int .u64 h3', .int .u64 u1', .int .u64 u2', .int .u64 u3', .int .i64 k', .int .i64 t'], .int .i64 d, .int .i64 q] w fun e w' => e = .returned (.bool true) ∧ Chg NoChg w w' := by
  have HD := hide hd
  have HG := hide hg
  have HS := hide hs
  have HW := hide hw
  have Hgv := hide hgv
  have Hwv := hide hwv
  have HMs := hide hMs
  have HMo := hide hMo
  have HKm := hide hKm
  have HKs := hide hKs
  have HKo := hide hKo
  have HWs := hide hWs
  have HWo := hide hWo
  have HMm := hide hMm
  clear hd hg hs hw hgv hwv hMs hMo hKm hKs hKo hWs hWo hMm
  have Bs0 := hide ((Blk.new w #[.int .i64 i, .int .i64 p, .bool b, .int .u64 r1, .int .u64 r2, .int .u64 r3, .int .u64 h1, .int .u64 h2, .int .u64 h3, .int .u64 u1, .int .u64 u2, .int .u64 u3, .int .i64 k, .int .i64 t] 26).alloc (.cells #[.int .i64 i', .int .i64 p', .bool b', .int .u64 r1', .int .u64 r2', .int .u64 r3', .int .u64 h1', .int .u64 h2', .int .u64 h3', .int .u64 u1', .int .u64 u2', .int .u64 u3', .int .i64 k', .int .i64 t'] 26))
  have Bo0 := hide (Blk.new (w.alloc (.cells #[.int .i64 i, .int .i64 p, .bool b, .int .u64 r1, .int .u64 r2, .int .u64 r3, .int .u64 h1, .int .u64 h2, .int .u64 h3, .int .u64 u1, .int .u64 u2, .int .u64 u3, .int .i64 k, .int .i64 t] 26)) #[.int .i64 i', .int .i64 p', .bool b', .int .u64 r1', .int .u64 r2', .int .u64 r3', .int .u64 h1', .int .u64 h2', .int .u64 h3', .int .u64 u1', .int .u64 u2', .int .u64 u3', .int .i64 k', .int .i64 t'] 26)
  have C0 := hide (((Chg.refl NoChg w).alloc (.cells #[.int .i64 i, .int .i64 p, .bool b, .int .u64 r1, .int .u64 r2, .int .u64 r3, .int .u64 h1, .int .u64 h2, .int .u64 h3, .int .u64 u1, .int .u64 u2, .int .u64 u3, .int .i64 k, .int .i64 t] 26)).alloc (.cells #[.int .i64 i', .int .i64 p', .bool b', .int .u64 r1', .int .u64 r2', .int .u64 r3', .int .u64 h1', .int .u64 h2', .int .u64 h3', .int .u64 u1', .int .u64 u2', .int .u64 u3', .int .i64 k', .int .i64 t'] 26))
  simp only [World.size_alloc] at Bs0 Bo0
  go_enter Tryz.func5, Tryz.ntmps5
  go_wp2_with fail
  refine (l13awake_any _ (HD.out.keep C0.out)).mono ?_
  rintro e w1 ⟨rfl, c1⟩
  have D1 := hide (c1)
  have Bs1 := hide (D1.out.blk Bs0.out (fun h => h))
  have Bo1 := hide (D1.out.blk Bo0.out (fun h => h))
  have C1 := hide (C0.out.trans' D1.out)
  clear c1 D1 C0 Bs0 Bo0
  have D2 := hide ((Chg.refl NoChg w1).alloc (.cells #[.int .i64 d, .int .i64 q, .bool b, .int .u64 r1, .int .u64 r2, .int .u64 r3, .int .u64 h1, .int .u64 h2, .int .u64 h3, .int .u64 u1, .int .u64 u2, .int .u64 u3, .int .i64 k, .int .i64 t] 26))
  have Bm2 := hide (Blk.new w1 #[.int .i64 d, .int .i64 q, .bool b, .int .u64 r1, .int .u64 r2, .int .u64 r3, .int .u64 h1, .int .u64 h2, .int .u64 h3, .int .u64 u1, .int .u64 u2, .int .u64 u3, .int .i64 k, .int .i64 t] 26)
  have Bs2 := hide (D2.out.blk Bs1.out (fun h => h))
  have Bo2 := hide (D2.out.blk Bo1.out (fun h => h))
  have C2 := hide (C1.out.trans' D2.out)
  clear D2
  obtain ⟨a0, a1, a2, a3, a4, a5, a6, a7, a8, a9, a10, a11, a12, a13⟩ := spc_cellsI Bs1.out
  have l0 := Bs1.out.lt
  go_upto_region 5 with fail
  clear a0 a1 a2 a3 a4 a5 a6 a7 a8 a9 a10 a11 a12 a13
  go_cut [10] (fun s10 wz => s10 = .bool g ∧ wz = w1.alloc (.cells #[.int .i64 d, .int .i64 q, .bool b, .int .u64 r1, .int .u64 r2, .int .u64 r3, .int .u64 h1, .int .u64 h2, .int .u64 h3, .int .u64 u1, .int .u64 u2, .int .u64 u3, .int .i64 k, .int .i64 t] 26))
  case first =>
    go_wp2_with fail
    all_goals go_meet
    all_goals refine ⟨congrArg Value.bool (Bool.eq_iff_iff.2 ?_), rfl⟩
    all_goals (rw [HG.out]; simp; omega)
  case rest =>
    obtain ⟨rfl, rfl⟩ := hcut
    obtain ⟨a0, a1, a2, a3, a4, a5, a6, a7, a8, a9, a10, a11, a12, a13⟩ := spc_cellsI Bs2.out
    go_upto_region 6 with fail
    go_cut [11] (fun s11 wz => s11 = .bool ws ∧ wz = w1.alloc (.cells #[.int .i64 d, .int .i64 q, .bool b, .int .u64 r1, .int .u64 r2, .int .u64 r3, .int .u64 h1, .int .u64 h2, .int .u64 h3, .int .u64 u1, .int .u64 u2, .int .u64 u3, .int .i64 k, .int .i64 t] 26))
    case first =>
      go_wp2_with fail
      all_goals go_meet
      all_goals refine ⟨congrArg Value.bool (Bool.eq_iff_iff.2 ?_), rfl⟩
      all_goals (rw [HS.out]; simp; omega)
    case rest =>
      obtain ⟨rfl, rfl⟩ := hcut
      have hgv := Hgv.out
      subst hgv
      have hwv := Hwv.out; subst hwv
  
      obtain ⟨w2, hw2⟩ : ∃ x, x = w1.alloc (.cells #[.int .i64 d, .int .i64 q, .bool b, .int .u64 r1, .int .u64 r2, .int .u64 r3, .int .u64 h1, .int .u64 h2, .int .u64 h3, .int .u64 u1, .int .u64 u2, .int .u64 u3, .int .i64 k, .int .i64 t] 26) := ⟨_, rfl⟩
      rw [← hw2] at Bm2 Bs2 Bo2 C2 a0 a1 a2 a3 a4 a5 a6 a7 a8 a9 a10 a11 a12 a13 ⊢
      have lm := Bm2.out.lt
      obtain ⟨n1, hn1⟩ : ∃ x, x = w1.heap.size := ⟨_, rfl⟩
      go_upto_region 7 with fail
      rw [← hn1] at Bm2 ⊢
      clear hn1 hw2 l0
      clear a0 a1 a2 a3 a4 a5 a6 a7 a8 a9 a10 a11 a12 a13
      go_cut [97] (fun s97 wz => s97 = .bool false ∧ Chg NoChg w2 wz)
      case first =>
        have KM := hide (fun (w' : World) (h : Chg NoChg w2 w') => h.blk Bm2.out (fun h => h))
        have KS := hide (fun (w' : World) (h : Chg NoChg w2 w') => h.blk Bs2.out (fun h => h))
      
        refine wp_region_mix [(true, 0), (true, 1), (true, 2), (true, 3), (false, 4), (true, 5), (true, 6), (true, 7), (true, 8), (true, 9), (true, 10), (true, 11), (true, 12), (true, 13), (true, 15), (false, 14), (false, 16), (true, 17), (true, 18), (true, 19), (true, 20), (true, 21), (true, 23), (false, 22), (false, 24), (true, 25), (true, 26), (true, 27), (true, 28), (true, 29), (true, 31), (false, 30), (true, 32), (true, 33)] (fun w' => Chg NoChg w2 w') (by kernel_rfl) (by kernel_rfl) ?_ (by (repeat' (first | (with_reducible exact Chg.refl _ _) | (with_reducible assumption) | (with_reducible refine Chg.alloc ?_ _) | (with_reducible refine Chg.drewN ?_ _) | (with_reducible refine Chg.drew ?_) | (with_reducible refine Chg.setCell ?_ _ ?_) | (apply Or.inl; with_reducible rfl) | (apply Or.inl; simp; done) | (apply Or.inr; simp; done) | (apply Or.inr; simp; omega)))) ?_
        · exact fun _ _ _ _ _ h => h
        simp only [mixOps, List.getElem?_toArray, List.getElem?_cons_zero, List.getElem?_cons_succ]
        refine mix_on (by kernel_rfl) (fun wv hv => (by go_simp; try with_reducible rfl)) ?_
        try simp only [Act.put, List.setIfInBounds_toArray, List.set_cons_zero, List.set_cons_succ]
        refine mix_on (by kernel_rfl) (fun wv hv => (by go_simp; try with_reducible rfl)) ?_
        try simp only [Act.put, List.setIfInBounds_toArray, List.set_cons_zero, List.set_cons_succ]
        refine mix_on (by kernel_rfl) (fun wv hv => (by go_simp; try with_reducible rfl)) ?_
        try simp only [Act.put, List.setIfInBounds_toArray, List.set_cons_zero, List.set_cons_succ]
        refine mix_off (by kernel_rfl) ?_
        try simp only [Act.put, List.setIfInBounds_toArray, List.set_cons_zero, List.set_cons_succ]
        refine mix_not (by kernel_rfl) ?_
        try simp only [Act.put, List.setIfInBounds_toArray, List.set_cons_zero, List.set_cons_succ]
        refine mix_off (by kernel_rfl) ?_
        try simp only [Act.put, List.setIfInBounds_toArray, List.set_cons_zero, List.set_cons_succ]
        refine mix_on (by kernel_rfl) (fun wv hv => (by go_simp; try with_reducible rfl)) ?_
        try simp only [Act.put, List.setIfInBounds_toArray, List.set_cons_zero, List.set_cons_succ]
        refine mix_on (by kernel_rfl) (fun wv hv => (by go_simp; try with_reducible rfl)) ?_
        try simp only [Act.put, List.setIfInBounds_toArray, List.set_cons_zero, List.set_cons_succ]
        refine mix_on (by kernel_rfl) (fun wv hv => (by go_simp; try with_reducible rfl)) ?_
        try simp only [Act.put, List.setIfInBounds_toArray, List.set_cons_zero, List.set_cons_succ]
        refine mix_on (by kernel_rfl) (fun wv hv => (by go_simp; try with_reducible rfl)) ?_
        try simp only [Act.put, List.setIfInBounds_toArray, List.set_cons_zero, List.set_cons_succ]
        refine mix_on (by kernel_rfl) (fun wv hv => (by go_simp; try with_reducible rfl)) ?_
        try simp only [Act.put, List.setIfInBounds_toArray, List.set_cons_zero, List.set_cons_succ]
        refine mix_on (by kernel_rfl) (fun wv hv => (by go_simp; try with_reducible rfl)) ?_
        try simp only [Act.put, List.setIfInBounds_toArray, List.set_cons_zero, List.set_cons_succ]
        refine mix_on (by kernel_rfl) (fun wv hv => (by go_simp; try with_reducible rfl)) ?_
        try simp only [Act.put, List.setIfInBounds_toArray, List.set_cons_zero, List.set_cons_succ]
        refine mix_on (by kernel_rfl) (fun wv hv => run_load_spec d q k t r1 r2 r3 h1 h2 h3 u1 u2 u3 b rfl (KM.out wv hv)) ?_
        try simp only [Act.put, List.setIfInBounds_toArray, List.set_cons_zero, List.set_cons_succ]
        refine mix_on (by kernel_rfl) (fun wv hv => run_load_spec i p k t r1 r2 r3 h1 h2 h3 u1 u2 u3 b rfl (KS.out wv hv)) ?_
        try simp only [Act.put, List.setIfInBounds_toArray, List.set_cons_zero, List.set_cons_succ]
        refine mix_do (fun wv hv => ?_)
        go_wp2_with fail
        refine (HMm.out _).mono ?_
        rintro e wy ⟨rfl, cy⟩
        go_wp2
        refine ⟨hv.trans' cy, ?_⟩
        clear cy hv
        try simp only [Act.put, List.setIfInBounds_toArray, List.set_cons_zero, List.set_cons_succ]
        refine mix_do (fun wv hv => ?_)
        go_wp2_with fail
        refine (HMs.out _).mono ?_
        rintro e wy ⟨rfl, cy⟩
        go_wp2
        refine ⟨hv.trans' cy, ?_⟩
        clear cy hv
        try simp only [Act.put, List.setIfInBounds_toArray, List.set_cons_zero, List.set_cons_succ]
        refine mix_on (by kernel_rfl) (fun wv hv => (by go_simp; try with_reducible rfl)) ?_
        try simp only [Act.put, List.setIfInBounds_toArray, List.set_cons_zero, List.set_cons_succ]
        refine mix_on (by kernel_rfl) (fun wv hv => (by go_simp; try with_reducible rfl)) ?_
        try simp only [Act.put, List.setIfInBounds_toArray, List.set_cons_zero, List.set_cons_succ]
        refine mix_on (by kernel_rfl) (fun wv hv => (by go_simp; try with_reducible rfl)) ?_
        try simp only [Act.put, List.setIfInBounds_toArray, List.set_cons_zero, List.set_cons_succ]
        refine mix_on (by kernel_rfl) (fun wv hv => (by go_simp; try with_reducible rfl)) ?_
        try simp only [Act.put, List.setIfInBounds_toArray, List.set_cons_zero, List.set_cons_succ]
        refine mix_on (by kernel_rfl) (fun wv hv => run_load_spec d q k t r1 r2 r3 h1 h2 h3 u1 u2 u3 b rfl (KM.out wv hv)) ?_
        try simp only [Act.put, List.setIfInBounds_toArray, List.set_cons_zero, List.set_cons_succ]
        refine mix_on (by kernel_rfl) (fun wv hv => run_load_spec i p k t r1 r2 r3 h1 h2 h3 u1 u2 u3 b rfl (KS.out wv hv)) ?_
        try simp only [Act.put, List.setIfInBounds_toArray, List.set_cons_zero, List.set_cons_succ]
        refine mix_do (fun wv hv => ?_)
        go_wp2_with fail
        refine (HKm.out _).mono ?_
        rintro e wy ⟨rfl, cy⟩
        go_wp2
        refine ⟨hv.trans' cy, ?_⟩
        clear cy hv
        try simp only [Act.put, List.setIfInBounds_toArray, List.set_cons_zero, List.set_cons_succ]
        refine mix_do (fun wv hv => ?_)
        go_wp2_with fail
        refine (HKs.out _).mono ?_
        rintro e wy ⟨rfl, cy⟩
        go_wp2
        refine ⟨hv.trans' cy, ?_⟩
        clear cy hv
        try simp only [Act.put, List.setIfInBounds_toArray, List.set_cons_zero, List.set_cons_succ]
        refine mix_on (by kernel_rfl) (fun wv hv => (by go_simp; try with_reducible rfl)) ?_
        try simp only [Act.put, List.setIfInBounds_toArray, List.set_cons_zero, List.set_cons_succ]
        refine mix_on (by kernel_rfl) (fun wv hv => (by go_simp; try with_reducible rfl)) ?_
        try simp only [Act.put, List.setIfInBounds_toArray, List.set_cons_zero, List.set_cons_succ]
        refine mix_on (by kernel_rfl) (fun wv hv => (by go_simp; try with_reducible rfl)) ?_
        try simp only [Act.put, List.setIfInBounds_toArray, List.set_cons_zero, List.set_cons_succ]
        refine mix_on (by kernel_rfl) (fun wv hv => run_load_spec i p k t r1 r2 r3 h1 h2 h3 u1 u2 u3 b rfl (KS.out wv hv)) ?_
        try simp only [Act.put, List.setIfInBounds_toArray, List.set_cons_zero, List.set_cons_succ]
        refine mix_on (by kernel_rfl) (fun wv hv => run_load_spec i p k t r1 r2 r3 h1 h2 h3 u1 u2 u3 b rfl (KS.out wv hv)) ?_
        try simp only [Act.put, List.setIfInBounds_toArray, List.set_cons_zero, List.set_cons_succ]
        refine mix_on (by kernel_rfl) (fun wv hv => run_load_spec i p k t r1 r2 r3 h1 h2 h3 u1 u2 u3 b rfl (KS.out wv hv)) ?_
        try simp only [Act.put, List.setIfInBounds_toArray, List.set_cons_zero, List.set_cons_succ]
        refine mix_do (fun wv hv => ?_)
        go_wp2_with fail
        refine (HWs.out _).mono ?_
        rintro e wy ⟨rfl, cy⟩
        go_wp2
        refine ⟨hv.trans' cy, ?_⟩
        clear cy hv
        try simp only [Act.put, List.setIfInBounds_toArray, List.set_cons_zero, List.set_cons_succ]
        refine mix_on (by kernel_rfl) (fun wv hv => (by go_simp; try with_reducible rfl)) ?_
        try simp only [Act.put, List.setIfInBounds_toArray, List.set_cons_zero, List.set_cons_succ]
        refine mix_on (by kernel_rfl) (fun wv hv => (by go_simp; try with_reducible rfl)) ?_
        try simp only [Act.put, List.setIfInBounds_toArray, List.set_cons_zero, List.set_cons_succ]
        refine mix_end (fun wz hz => ?_)
        go_wp2_with fail
        go_meet
        exact ⟨rfl, hz⟩
      case rest =>
        obtain ⟨rfl, c3⟩ := hcut
        obtain ⟨w3, hw3⟩ : ∃ x, x = wc := ⟨_, rfl⟩
        rw [← hw3] at c3 ⊢
        clear hw3
        have Bs3 := hide (c3.blk Bs2.out (fun h => h))
        have Bo3 := hide (c3.blk Bo2.out (fun h => h))
        have C3 := hide (C2.out.trans' c3)
        clear c3 Bm2 Bs2 Bo2 C2 lm
        obtain ⟨a0, a1, a2, a3, a4, a5, a6, a7, a8, a9, a10, a11, a12, a13⟩ := spc_cellsI Bs3.out
        by_cases g1 : es = 0
        · subst g1
          go_wp2_with fail
          refine (HMs.out _).mono ?_
          rintro e w4 ⟨rfl, c4⟩
          have Bs4 := hide (c4.blk Bs3.out (fun h => h))
          have Bo4 := hide (c4.blk Bo3.out (fun h => h))
          have C4 := hide (C3.out.trans' c4)
          clear c4 Bs3 Bo3 C3 a0 a1 a2 a3 a4 a5 a6 a7 a8 a9 a10 a11 a12 a13
          obtain ⟨a0, a1, a2, a3, a4, a5, a6, a7, a8, a9, a10, a11, a12, a13⟩ := spc_cellsI Bo4.out
          by_cases g2 : eo = 0
          · subst g2
            go_wp2_with fail
            refine (HMo.out _).mono ?_
            rintro e w5 ⟨rfl, c5⟩
            have Bs5 := hide (c5.blk Bs4.out (fun h => h))
            have Bo5 := hide (c5.blk Bo4.out (fun h => h))
            have C5 := hide (C4.out.trans' c5)
            clear c5 Bs4 Bo4 C4 a0 a1 a2 a3 a4 a5 a6 a7 a8 a9 a10 a11 a12 a13
            obtain ⟨a0, a1, a2, a3, a4, a5, a6, a7, a8, a9, a10, a11, a12, a13⟩ := spc_cellsI Bs5.out
            obtain ⟨b0, b1, b2, b3, b4, b5, b6, b7, b8, b9, b10, b11, b12, b13⟩ := spc_cellsI Bo5.out
            by_cases g3 : b = b'
            · subst g3
              obtain ⟨hWM, hWK⟩ := HW.out (by simp) (by simp) (by simp)
              have HWM := hide hWM
              have HWK := hide hWK
              clear hWM hWK
              go_wp2_with fail
              refine (HWo.out _).mono ?_
              rintro e w6 ⟨rfl, c6⟩
              have D6 := hide (c6.alloc (.cells #[.int .i64 i, .int .i64 p, .bool b, .int .u64 r1', .int .u64 r2', .int .u64 r3', .int .u64 h1', .int .u64 h2', .int .u64 h3', .int .u64 u1', .int .u64 u2', .int .u64 u3', .int .i64 k, .int .i64 t] 26))
              have Bw6 := hide (Blk.new w6 #[.int .i64 i, .int .i64 p, .bool b, .int .u64 r1', .int .u64 r2', .int .u64 r3', .int .u64 h1', .int .u64 h2', .int .u64 h3', .int .u64 u1', .int .u64 u2', .int .u64 u3', .int .i64 k, .int .i64 t] 26)
              have Bs6 := hide (D6.out.blk Bs5.out (fun h => h))
              have Bo6 := hide (D6.out.blk Bo5.out (fun h => h))
              have C6 := hide (C5.out.trans' D6.out)
              obtain ⟨n2, hn2⟩ : ∃ x, x = w6.heap.size := ⟨_, rfl⟩
              obtain ⟨w7, hw7⟩ : ∃ x, x = w6.alloc (.cells #[.int .i64 i, .int .i64 p, .bool b, .int .u64 r1', .int .u64 r2', .int .u64 r3', .int .u64 h1', .int .u64 h2', .int .u64 h3', .int .u64 u1', .int .u64 u2', .int .u64 u3', .int .i64 k, .int .i64 t] 26) := ⟨_, rfl⟩
              clear c6 D6 Bs5 Bo5 C5 a0 a1 a2 a3 a4 a5 a6 a7 a8 a9 a10 a11 a12 a13 b0 b1 b2 b3 b4 b5 b6 b7 b8 b9 b10 b11 b12 b13
              go_wp2_with fail
              rw [← hw7] at Bw6 Bs6 Bo6 C6 ⊢
              rw [← hn2] at Bw6 ⊢
              clear hw7 hn2
              have KW := hide (fun (w' : World) (h : Chg NoChg w7 w') => h.blk Bw6.out (fun h => h))
              have KO := hide (fun (w' : World) (h : Chg NoChg w7 w') => h.blk Bo6.out (fun h => h))
              have KC := hide (fun (w' : World) (h : Chg NoChg w7 w') => three_cells (h.blk Bw6.out (fun h => h)) (h.blk Bs6.out (fun h => h)))
              refine wp_region_mix [(true, 0), (false, 1), (true, 2), (true, 3), (true, 4), (true, 6), (false, 5), (false, 7), (true, 8), (true, 9), (true, 10), (true, 11), (true, 12), (true, 13), (true, 14), (true, 15), (true, 16), (true, 17), (true, 18), (true, 19), (true, 20), (true, 21), (true, 22), (true, 23), (true, 24)] (fun w' => Chg NoChg w7 w') (by kernel_rfl) (by kernel_rfl) ?_ (by (repeat' (first | (with_reducible exact Chg.refl _ _) | (with_reducible assumption) | (with_reducible refine Chg.alloc ?_ _) | (with_reducible refine Chg.drewN ?_ _) | (with_reducible refine Chg.drew ?_) | (with_reducible refine Chg.setCell ?_ _ ?_) | (apply Or.inl; with_reducible rfl) | (apply Or.inl; simp; done) | (apply Or.inr; simp; done) | (apply Or.inr; simp; omega)))) ?_
              · exact fun _ _ _ _ _ h => h
              simp only [mixOps, List.getElem?_toArray, List.getElem?_cons_zero, List.getElem?_cons_succ]
              refine mix_on (by kernel_rfl) (fun wv hv => run_load_spec i p k t r1' r2' r3' h1' h2' h3' u1' u2' u3' b rfl (KW.out wv hv)) ?_
              try simp only [Act.put, List.setIfInBounds_toArray, List.set_cons_zero, List.set_cons_succ]
              refine mix_do (fun wv hv => ?_)
              go_wp2_with fail
              refine (HWM.out _).mono ?_
              rintro e wy ⟨rfl, cy⟩
              go_wp2
              refine ⟨hv.trans' cy, ?_⟩
              clear cy hv
              try simp only [Act.put, List.setIfInBounds_toArray, List.set_cons_zero, List.set_cons_succ]
              refine mix_on (by kernel_rfl) (fun wv hv => (by go_simp; try with_reducible rfl)) ?_
              try simp only [Act.put, List.setIfInBounds_toArray, List.set_cons_zero, List.set_cons_succ]
              refine mix_on (by kernel_rfl) (fun wv hv => (by go_simp; try with_reducible rfl)) ?_
              try simp only [Act.put, List.setIfInBounds_toArray, List.set_cons_zero, List.set_cons_succ]
              refine mix_on (by kernel_rfl) (fun wv hv => run_load_spec i p k t r1' r2' r3' h1' h2' h3' u1' u2' u3' b rfl (KW.out wv hv)) ?_
              try simp only [Act.put, List.setIfInBounds_toArray, List.set_cons_zero, List.set_cons_succ]
              refine mix_on (by kernel_rfl) (fun wv hv => run_load_spec i' p' k' t' r1' r2' r3' h1' h2' h3' u1' u2' u3' b rfl (KO.out wv hv)) ?_
              try simp only [Act.put, List.setIfInBounds_toArray, List.set_cons_zero, List.set_cons_succ]
              refine mix_do (fun wv hv => ?_)
              go_wp2_with fail
              refine (HWK.out _).mono ?_
              rintro e wy ⟨rfl, cy⟩
              go_wp2
              refine ⟨hv.trans' cy, ?_⟩
              clear cy hv
              try simp only [Act.put, List.setIfInBounds_toArray, List.set_cons_zero, List.set_cons_succ]
              refine mix_do (fun wv hv => ?_)
              go_wp2_with fail
              refine (HKo.out _).mono ?_
              rintro e wy ⟨rfl, cy⟩
              go_wp2
              refine ⟨hv.trans' cy, ?_⟩
              clear cy hv
              try simp only [Act.put, List.setIfInBounds_toArray, List.set_cons_zero, List.set_cons_succ]
              refine mix_on (by kernel_rfl) (fun wv hv => (by go_simp; try with_reducible rfl)) ?_
              try simp only [Act.put, List.setIfInBounds_toArray, List.set_cons_zero, List.set_cons_succ]
              refine mix_on (by kernel_rfl) (fun wv hv => (by go_simp; try with_reducible rfl)) ?_
              try simp only [Act.put, List.setIfInBounds_toArray, List.set_cons_zero, List.set_cons_succ]
              refine mix_on (by kernel_rfl) (fun wv hv => (by go_simp; try with_reducible rfl)) ?_
              try simp only [Act.put, List.setIfInBounds_toArray, List.set_cons_zero, List.set_cons_succ]
              refine mix_on (by kernel_rfl) (fun wv hv => (by go_simp; try with_reducible rfl)) ?_
              try simp only [Act.put, List.setIfInBounds_toArray, List.set_cons_zero, List.set_cons_succ]
              refine mix_on (by kernel_rfl) (fun wv hv => (by obtain ⟨k0, k1, k2, k3⟩ := KC.out wv hv; go_simp; try with_reducible rfl)) ?_
              try simp only [Act.put, List.setIfInBounds_toArray, List.set_cons_zero, List.set_cons_succ]
              refine mix_on (by kernel_rfl) (fun wv hv => (by go_simp; try with_reducible rfl)) ?_
              try simp only [Act.put, List.setIfInBounds_toArray, List.set_cons_zero, List.set_cons_succ]
              refine mix_on (by kernel_rfl) (fun wv hv => (by obtain ⟨k0, k1, k2, k3⟩ := KC.out wv hv; go_simp; try with_reducible rfl)) ?_
              try simp only [Act.put, List.setIfInBounds_toArray, List.set_cons_zero, List.set_cons_succ]
              refine mix_on (by kernel_rfl) (fun wv hv => (by go_simp; try with_reducible rfl)) ?_
              try simp only [Act.put, List.setIfInBounds_toArray, List.set_cons_zero, List.set_cons_succ]
              refine mix_on (by kernel_rfl) (fun wv hv => (by go_simp; try with_reducible rfl)) ?_
              try simp only [Act.put, List.setIfInBounds_toArray, List.set_cons_zero, List.set_cons_succ]
              refine mix_on (by kernel_rfl) (fun wv hv => (by go_simp; try with_reducible rfl)) ?_
              try simp only [Act.put, List.setIfInBounds_toArray, List.set_cons_zero, List.set_cons_succ]
              refine mix_on (by kernel_rfl) (fun wv hv => (by go_simp; try with_reducible rfl)) ?_
              try simp only [Act.put, List.setIfInBounds_toArray, List.set_cons_zero, List.set_cons_succ]
              refine mix_on (by kernel_rfl) (fun wv hv => (by obtain ⟨k0, k1, k2, k3⟩ := KC.out wv hv; go_simp; try with_reducible rfl)) ?_
              try simp only [Act.put, List.setIfInBounds_toArray, List.set_cons_zero, List.set_cons_succ]
              refine mix_on (by kernel_rfl) (fun wv hv => (by go_simp; try with_reducible rfl)) ?_
              try simp only [Act.put, List.setIfInBounds_toArray, List.set_cons_zero, List.set_cons_succ]
              refine mix_on (by kernel_rfl) (fun wv hv => (by obtain ⟨k0, k1, k2, k3⟩ := KC.out wv hv; go_simp; try with_reducible rfl)) ?_
              try simp only [Act.put, List.setIfInBounds_toArray, List.set_cons_zero, List.set_cons_succ]
              refine mix_on (by kernel_rfl) (fun wv hv => (by go_simp; try with_reducible rfl)) ?_
              try simp only [Act.put, List.setIfInBounds_toArray, List.set_cons_zero, List.set_cons_succ]
              refine mix_on (by kernel_rfl) (fun wv hv => (by go_simp; try with_reducible rfl)) ?_
              try simp only [Act.put, List.setIfInBounds_toArray, List.set_cons_zero, List.set_cons_succ]
              refine mix_on (by kernel_rfl) (fun wv hv => (by go_simp; try with_reducible rfl)) ?_
              try simp only [Act.put, List.setIfInBounds_toArray, List.set_cons_zero, List.set_cons_succ]
              refine mix_end (fun wz hz => ?_)
              go_wp2
              go_ret
              exact ⟨rfl, C6.out.trans' hz⟩
            · have g4 : (b != b') = true := by simpa using g3
              have g5 : (b == b') = false := by simpa using g3
              go_wp2
              go_ret
              exact ⟨rfl, C5.out⟩
          · have g4 : (eo != 0) = true := by simpa using g2
            have g5 : (eo == 0) = false := by simpa using g2
            go_wp2_with fail
            refine (HMo.out _).mono ?_
            rintro e w5 ⟨rfl, c5⟩
            have C5 := hide (C4.out.trans' c5)
            clear c5
            go_wp2
            go_ret
            exact ⟨rfl, C5.out⟩
        · have g4 : (es != 0) = true := by simpa using g1
          have g5 : (es == 0) = false := by simpa using g1
          go_wp2_with fail
          refine (HMs.out _).mono ?_
          rintro e w4 ⟨rfl, c4⟩
          have C4 := hide (C3.out.trans' c4)
          clear c4
          go_wp2
          go_ret
          exact ⟨rfl, C4.out⟩
end Go.Proofs.YtofgajlpdnokdaaGreatDoor
