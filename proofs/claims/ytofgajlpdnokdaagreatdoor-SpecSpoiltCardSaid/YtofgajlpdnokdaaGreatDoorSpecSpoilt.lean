/- SpecSpoilt, walked. Conditions of the lemmas here: what is called tells so. -/
import Derived.Test.YtofgajlpdnokdaaGreatDoorLaw13
import Derived.Test.YtofgajlpdnokdaaGreatDoorBase
import Derived.Deep.DeepCutAuto
namespace Go.Proofs.YtofgajlpdnokdaaGreatDoor
set_option linter.unusedVariables false
open Go.RowKit
attribute [local go_sem] yieldC

theorem wpList_alloc_spec {ops : Array Oper} {d : Nat} {ty : TypeId} {pos : String} {af : Array Edge} {Q : Exit → Act → World → Prop} {a : Act} {w : World}
    (h : Q .normal (a.put (some d) (.pointer (some ⟨w.heap.size, 0, none⟩))) (w.alloc (.cells #[.int .i64 0, .int .i64 0, .bool false, .int .u64 0, .int .u64 0, .int .u64 0, .int .u64 0, .int .u64 0, .int .u64 0, .int .u64 0, .int .u64 0, .int .u64 0, .int .i64 0, .int .i64 0] 26))) :
    wpList Tryz.prog ops Q [⟨some d, .alloc 26, ty, pos, af, none⟩] a w := by
  go_wp2
  exact h

set_option maxHeartbeats 2000000 in
theorem wpList_store_spec {ops : Array Oper} {p v : Nat} {ty : TypeId} {pos : String} {af : Array Edge} {Q : Exit → Act → World → Prop} {a : Act} {w : World} {g : Nat} (i p' k t r1 r2 r3 h1 h2 h3 u1 u2 u3 : Int) (b : Bool)
    (hp : a.tmps[p]? = some (.pointer (some ⟨g, 0, none⟩)))
    (hv : a.tmps[v]? = some (.agg #[.int .i64 i, .int .i64 p', .bool b, .int .u64 r1, .int .u64 r2, .int .u64 r3, .int .u64 h1, .int .u64 h2, .int .u64 h3, .int .u64 u1, .int .u64 u2, .int .u64 u3, .int .i64 k, .int .i64 t]))
    (hb : Blk w g #[.int .i64 0, .int .i64 0, .bool false, .int .u64 0, .int .u64 0, .int .u64 0, .int .u64 0, .int .u64 0, .int .u64 0, .int .u64 0, .int .u64 0, .int .u64 0, .int .i64 0, .int .i64 0] 26)
    (h : Q .normal a (setW w g 0 [.int .i64 i, .int .i64 p', .bool b, .int .u64 r1, .int .u64 r2, .int .u64 r3, .int .u64 h1, .int .u64 h2, .int .u64 h3, .int .u64 u1, .int .u64 u2, .int .u64 u3, .int .i64 k, .int .i64 t])) :
    wpList Tryz.prog ops Q [⟨none, .store 26 (.tmp p) (.tmp v), ty, pos, af, none⟩] a w := by
  obtain ⟨z0, z1, z2, z3, z4, z5, z6, z7, z8, z9, z10, z11, z12, z13⟩ := spc_cellsI hb
  have zf := hb.frozen
  have ep : a.eval (.tmp p) = .pointer (some ⟨g, 0, none⟩) := by simp [Act.eval, hp]
  have ev : a.eval (.tmp v) = .agg #[.int .i64 i, .int .i64 p', .bool b, .int .u64 r1, .int .u64 r2, .int .u64 r3, .int .u64 h1, .int .u64 h2, .int .u64 h3, .int .u64 u1, .int .u64 u2, .int .u64 u3, .int .i64 k, .int .i64 t] := by simp [Act.eval, hv]
  go_wp2
  exact h

theorem yield_load_spec {ops : Array Oper} {C : World → Prop} {K : Act → Prop} {os : List Oper} {d v : Nat} {ty : TypeId} {pos : String} {af : Array Edge} {a : Act} {g : Nat} (i p' k t r1 r2 r3 h1 h2 h3 u1 u2 u3 : Int) (b : Bool)
    (hp : a.tmps[v]? = some (.pointer (some ⟨g, 0, none⟩)))
    (hC : ∀ w, C w → Blk w g #[.int .i64 i, .int .i64 p', .bool b, .int .u64 r1, .int .u64 r2, .int .u64 r3, .int .u64 h1, .int .u64 h2, .int .u64 h3, .int .u64 u1, .int .u64 u2, .int .u64 u3, .int .i64 k, .int .i64 t] 26)
    (h : wpYield Tryz.prog ops C K os (a.put (some d) (.agg #[.int .i64 i, .int .i64 p', .bool b, .int .u64 r1, .int .u64 r2, .int .u64 r3, .int .u64 h1, .int .u64 h2, .int .u64 h3, .int .u64 u1, .int .u64 u2, .int .u64 u3, .int .i64 k, .int .i64 t]))) : wpYield Tryz.prog ops C K (⟨some d, .load 26 (.tmp v), ty, pos, af, none⟩ :: os) a := by
  have ep : a.eval (.tmp v) = .pointer (some ⟨g, 0, none⟩) := by simp [Act.eval, hp]
  have hw : Region.wanted (⟨some d, .load 26 (.tmp v), ty, pos, af, none⟩ : Oper) (yielded ops a.tmps) = true := by simp [Region.wanted]
  simp only [wpYield, hw, if_true]
  refine ⟨_, fun w hw => ?_, h⟩
  obtain ⟨z0, z1, z2, z3, z4, z5, z6, z7, z8, z9, z10, z11, z12, z13⟩ := spc_cellsI (hC w hw)
  go_simp

theorem crv_cellsI {w : World} {g : Nat} {q1 q2 q3 : Int} (hb : Blk w g #[.int .u64 q1, .int .u64 q2, .int .u64 q3] 24) : w.cell? ⟨g, 0, none⟩ = some (.int .u64 q1) ∧ w.cell? ⟨g, 1, none⟩ = some (.int .u64 q2) ∧ w.cell? ⟨g, 2, none⟩ = some (.int .u64 q3) := by
  refine ⟨?_, ?_, ?_⟩
  all_goals (rw [Blk.cell hb]; rfl)

/-- Five copies of a spec, in blocks of their own. -/
structure Five (wx : World) (C : Array Value) (s5 s6 s7 s8 s9 : Value) (wz : World) (p5 p6 p7 p8 p9 : Nat) : Prop where
  e5 : s5 = .pointer (some ⟨p5, 0, none⟩)
  e6 : s6 = .pointer (some ⟨p6, 0, none⟩)
  e7 : s7 = .pointer (some ⟨p7, 0, none⟩)
  e8 : s8 = .pointer (some ⟨p8, 0, none⟩)
  e9 : s9 = .pointer (some ⟨p9, 0, none⟩)
  n56 : p5 ≠ p6
  n57 : p5 ≠ p7
  n58 : p5 ≠ p8
  n59 : p5 ≠ p9
  n67 : p6 ≠ p7
  n68 : p6 ≠ p8
  n69 : p6 ≠ p9
  n78 : p7 ≠ p8
  n79 : p7 ≠ p9
  n89 : p8 ≠ p9
  l5 : wx.heap.size ≤ p5
  l6 : wx.heap.size ≤ p6
  l7 : wx.heap.size ≤ p7
  l8 : wx.heap.size ≤ p8
  l9 : wx.heap.size ≤ p9
  ch : Chg NoChg wx wz
  b5 : Blk wz p5 C 26
  b6 : Blk wz p6 C 26
  b7 : Blk wz p7 C 26
  b8 : Blk wz p8 C 26
  b9 : Blk wz p9 C 26

set_option maxRecDepth 100000 in
set_option maxHeartbeats 16000000 in
theorem spoilt_E (i p k t r1 r2 r3 h1 h2 h3 u1 u2 u3 q1 q2 q3 : Int) (b : Bool) (es : Int) (hes : (es == 0) = false) (hes2 : (es != 0) = true) (hMs : ∀ w, Calls Tryz.prog 10 #[.agg #[.int .i64 i, .int .i64 p, .bool b, .int .u64 r1, .int .u64 r2, .int .u64 r3, .int .u64 h1, .int .u64 h2, .int .u64 h3, .int .u64 u1, .int .u64 u2, .int .u64 u3, .int .i64 k, .int .i64 t]] w fun e w' => e = .returned (.int .i64 es) ∧ Chg NoChg w w') (w : World) (hd : Door w) :
    Calls Tryz.prog 6 #[.agg #[.int .i64 i, .int .i64 p, .bool b, .int .u64 r1, .int .u64 r2, .int .u64 r3, .int .u64 h1, .int .u64 h2, .int .u64 h3, .int .u64 u1, .int .u64 u2, .int .u64 u3, .int .i64 k, .int .i64 t], .agg #[.int .u64 q1, .int .u64 q2, .int .u64 q3]] w fun e w' => e = .returned (.bool true) ∧ Chg NoChg w w' := by
  have HD := hide hd
  have HMs := hide hMs
  clear hd hMs
  have Bs0 := hide ((Blk.new w #[.int .i64 i, .int .i64 p, .bool b, .int .u64 r1, .int .u64 r2, .int .u64 r3, .int .u64 h1, .int .u64 h2, .int .u64 h3, .int .u64 u1, .int .u64 u2, .int .u64 u3, .int .i64 k, .int .i64 t] 26).alloc (.cells #[.int .u64 q1, .int .u64 q2, .int .u64 q3] 24))
  have Bc0 := hide (Blk.new (w.alloc (.cells #[.int .i64 i, .int .i64 p, .bool b, .int .u64 r1, .int .u64 r2, .int .u64 r3, .int .u64 h1, .int .u64 h2, .int .u64 h3, .int .u64 u1, .int .u64 u2, .int .u64 u3, .int .i64 k, .int .i64 t] 26)) #[.int .u64 q1, .int .u64 q2, .int .u64 q3] 24)
  have C0 := hide (((Chg.refl NoChg w).alloc (.cells #[.int .i64 i, .int .i64 p, .bool b, .int .u64 r1, .int .u64 r2, .int .u64 r3, .int .u64 h1, .int .u64 h2, .int .u64 h3, .int .u64 u1, .int .u64 u2, .int .u64 u3, .int .i64 k, .int .i64 t] 26)).alloc (.cells #[.int .u64 q1, .int .u64 q2, .int .u64 q3] 24))
  simp only [World.size_alloc] at Bs0 Bc0
  go_enter Tryz.func6, Tryz.ntmps6
  go_wp2_with fail
  refine (l13awake_any _ (HD.out.keep C0.out)).mono ?_
  rintro e w1 ⟨rfl, c1⟩
  have D1 := hide (c1)
  have Bs1 := hide (D1.out.blk Bs0.out (fun h => h))
  have Bc1 := hide (D1.out.blk Bc0.out (fun h => h))
  have C1 := hide (C0.out.trans' D1.out)
  clear c1 D1 C0 Bs0 Bc0
  obtain ⟨a0, a1, a2, a3, a4, a5, a6, a7, a8, a9, a10, a11, a12, a13⟩ := spc_cellsI Bs1.out
  go_wp2_with fail
  refine (HMs.out _).mono ?_
  rintro e w2 ⟨rfl, c2⟩
  have D2 := hide (c2)
  have Bs2 := hide (D2.out.blk Bs1.out (fun h => h))
  have Bc2 := hide (D2.out.blk Bc1.out (fun h => h))
  have C2 := hide (C1.out.trans' D2.out)
  clear c2 D2 C1 Bs1 Bc1 a0 a1 a2 a3 a4 a5 a6 a7 a8 a9 a10 a11 a12 a13
  go_wp2
  go_ret
  exact ⟨rfl, C2.out⟩

set_option maxRecDepth 100000 in
set_option maxHeartbeats 16000000 in
theorem spoilt_C (i p k t r1 r2 r3 h1 h2 h3 u1 u2 u3 q1 q2 q3 : Int) (b : Bool) (hMs : ∀ w, Calls Tryz.prog 10 #[.agg #[.int .i64 i, .int .i64 p, .bool b, .int .u64 r1, .int .u64 r2, .int .u64 r3, .int .u64 h1, .int .u64 h2, .int .u64 h3, .int .u64 u1, .int .u64 u2, .int .u64 u3, .int .i64 k, .int .i64 t]] w fun e w' => e = .returned (.int .i64 0) ∧ Chg NoChg w w') (hC : ∀ w, Calls Tryz.prog 16 #[.agg #[.int .u64 q1, .int .u64 q2, .int .u64 q3]] w fun e w' => e = .returned (.bool true) ∧ Chg NoChg w w') (w : World) (hd : Door w) :
    Calls Tryz.prog 6 #[.agg #[.int .i64 i, .int .i64 p, .bool b, .int .u64 r1, .int .u64 r2, .int .u64 r3, .int .u64 h1, .int .u64 h2, .int .u64 h3, .int .u64 u1, .int .u64 u2, .int .u64 u3, .int .i64 k, .int .i64 t], .agg #[.int .u64 q1, .int .u64 q2, .int .u64 q3]] w fun e w' => e = .returned (.bool true) ∧ Chg NoChg w w' := by
  have HD := hide hd
  have HMs := hide hMs
  have HC := hide hC
  clear hd hMs hC
  have Bs0 := hide ((Blk.new w #[.int .i64 i, .int .i64 p, .bool b, .int .u64 r1, .int .u64 r2, .int .u64 r3, .int .u64 h1, .int .u64 h2, .int .u64 h3, .int .u64 u1, .int .u64 u2, .int .u64 u3, .int .i64 k, .int .i64 t] 26).alloc (.cells #[.int .u64 q1, .int .u64 q2, .int .u64 q3] 24))
  have Bc0 := hide (Blk.new (w.alloc (.cells #[.int .i64 i, .int .i64 p, .bool b, .int .u64 r1, .int .u64 r2, .int .u64 r3, .int .u64 h1, .int .u64 h2, .int .u64 h3, .int .u64 u1, .int .u64 u2, .int .u64 u3, .int .i64 k, .int .i64 t] 26)) #[.int .u64 q1, .int .u64 q2, .int .u64 q3] 24)
  have C0 := hide (((Chg.refl NoChg w).alloc (.cells #[.int .i64 i, .int .i64 p, .bool b, .int .u64 r1, .int .u64 r2, .int .u64 r3, .int .u64 h1, .int .u64 h2, .int .u64 h3, .int .u64 u1, .int .u64 u2, .int .u64 u3, .int .i64 k, .int .i64 t] 26)).alloc (.cells #[.int .u64 q1, .int .u64 q2, .int .u64 q3] 24))
  simp only [World.size_alloc] at Bs0 Bc0
  go_enter Tryz.func6, Tryz.ntmps6
  go_wp2_with fail
  refine (l13awake_any _ (HD.out.keep C0.out)).mono ?_
  rintro e w1 ⟨rfl, c1⟩
  have D1 := hide (c1)
  have Bs1 := hide (D1.out.blk Bs0.out (fun h => h))
  have Bc1 := hide (D1.out.blk Bc0.out (fun h => h))
  have C1 := hide (C0.out.trans' D1.out)
  clear c1 D1 C0 Bs0 Bc0
  obtain ⟨a0, a1, a2, a3, a4, a5, a6, a7, a8, a9, a10, a11, a12, a13⟩ := spc_cellsI Bs1.out
  go_wp2_with fail
  refine (HMs.out _).mono ?_
  rintro e w2 ⟨rfl, c2⟩
  have D2 := hide (c2)
  have Bs2 := hide (D2.out.blk Bs1.out (fun h => h))
  have Bc2 := hide (D2.out.blk Bc1.out (fun h => h))
  have C2 := hide (C1.out.trans' D2.out)
  clear c2 D2 C1 Bs1 Bc1 a0 a1 a2 a3 a4 a5 a6 a7 a8 a9 a10 a11 a12 a13
  obtain ⟨x0, x1, x2⟩ := crv_cellsI Bc2.out
  go_wp2_with fail
  refine (HC.out _).mono ?_
  rintro e w3 ⟨rfl, c3⟩
  have D3 := hide (c3)
  have Bs3 := hide (D3.out.blk Bs2.out (fun h => h))
  have Bc3 := hide (D3.out.blk Bc2.out (fun h => h))
  have C3 := hide (C2.out.trans' D3.out)
  clear c3 D3 C2 Bs2 Bc2 x0 x1 x2
  go_wp2
  go_ret
  exact ⟨rfl, C3.out⟩

set_option maxRecDepth 100000 in
set_option maxHeartbeats 16000000 in
theorem spoilt_M (i p k t r1 r2 r3 h1 h2 h3 u1 u2 u3 q1 q2 q3 : Int) (b : Bool) (hMs : ∀ w, Calls Tryz.prog 10 #[.agg #[.int .i64 i, .int .i64 p, .bool b, .int .u64 r1, .int .u64 r2, .int .u64 r3, .int .u64 h1, .int .u64 h2, .int .u64 h3, .int .u64 u1, .int .u64 u2, .int .u64 u3, .int .i64 k, .int .i64 t]] w fun e w' => e = .returned (.int .i64 0) ∧ Chg NoChg w w') (hC : ∀ w, Calls Tryz.prog 16 #[.agg #[.int .u64 q1, .int .u64 q2, .int .u64 q3]] w fun e w' => e = .returned (.bool false) ∧ Chg NoChg w w') (hMa : ∀ w, Calls Tryz.prog 10 #[.agg #[.int .i64 0, .int .i64 p, .bool b, .int .u64 q1, .int .u64 q2, .int .u64 q3, .int .u64 h1, .int .u64 h2, .int .u64 h3, .int .u64 u1, .int .u64 u2, .int .u64 u3, .int .i64 k, .int .i64 t]] w fun e w' => e = .returned (.int .i64 130) ∧ Chg NoChg w w') (hMb : ∀ w, Calls Tryz.prog 10 #[.agg #[.int .i64 i, .int .i64 p, .bool b, .int .u64 r1, .int .u64 r2, .int .u64 r3, .int .u64 q1, .int .u64 q2, .int .u64 q3, .int .u64 u1, .int .u64 u2, .int .u64 u3, .int .i64 k, .int .i64 t]] w fun e w' => e = .returned (.int .i64 30) ∧ Chg NoChg w w') (hMd : ∀ w, Calls Tryz.prog 10 #[.agg #[.int .i64 i, .int .i64 p, .bool b, .int .u64 r1, .int .u64 r2, .int .u64 r3, .int .u64 h1, .int .u64 h2, .int .u64 h3, .int .u64 q1, .int .u64 q2, .int .u64 q3, .int .i64 k, .int .i64 t]] w fun e w' => e = .returned (.int .i64 30) ∧ Chg NoChg w w') (hMe : ∀ w, Calls Tryz.prog 10 #[.agg #[.int .i64 i, .int .i64 p, .bool (!b), .int .u64 r1, .int .u64 r2, .int .u64 r3, .int .u64 h1, .int .u64 h2, .int .u64 h3, .int .u64 u1, .int .u64 u2, .int .u64 u3, .int .i64 k, .int .i64 t]] w fun e w' => e = .returned (.int .i64 130) ∧ Chg NoChg w w') (hMf : ∀ w, Calls Tryz.prog 10 #[.agg #[.int .i64 i, .int .i64 p, .bool b, .int .u64 r1, .int .u64 r2, .int .u64 r3, .int .u64 h1, .int .u64 h2, .int .u64 h3, .int .u64 u1, .int .u64 u2, .int .u64 u3, .int .i64 4097, .int .i64 t]] w fun e w' => e = .returned (.int .i64 130) ∧ Chg NoChg w w') (w : World) (hd : Door w) :
    Calls Tryz.prog 6 #[.agg #[.int .i64 i, .int .i64 p, .bool b, .int .u64 r1, .int .u64 r2, .int .u64 r3, .int .u64 h1, .int .u64 h2, .int .u64 h3, .int .u64 u1, .int .u64 u2, .int .u64 u3, .int .i64 k, .int .i64 t], .agg #[.int .u64 q1, .int .u64 q2, .int .u64 q3]] w fun e w' => e = .returned (.bool true) ∧ Chg NoChg w w' := by
  have HD := hide hd
  have HMs := hide hMs
  have HC := hide hC
  have HMa := hide hMa
  have HMb := hide hMb
  have HMd := hide hMd
  have HMe := hide hMe
  have HMf := hide hMf
  clear hd hMs hC hMa hMb hMd hMe hMf
  have Bs0 := hide ((Blk.new w #[.int .i64 i, .int .i64 p, .bool b, .int .u64 r1, .int .u64 r2, .int .u64 r3, .int .u64 h1, .int .u64 h2, .int .u64 h3, .int .u64 u1, .int .u64 u2, .int .u64 u3, .int .i64 k, .int .i64 t] 26).alloc (.cells #[.int .u64 q1, .int .u64 q2, .int .u64 q3] 24))
  have Bc0 := hide (Blk.new (w.alloc (.cells #[.int .i64 i, .int .i64 p, .bool b, .int .u64 r1, .int .u64 r2, .int .u64 r3, .int .u64 h1, .int .u64 h2, .int .u64 h3, .int .u64 u1, .int .u64 u2, .int .u64 u3, .int .i64 k, .int .i64 t] 26)) #[.int .u64 q1, .int .u64 q2, .int .u64 q3] 24)
  have C0 := hide (((Chg.refl NoChg w).alloc (.cells #[.int .i64 i, .int .i64 p, .bool b, .int .u64 r1, .int .u64 r2, .int .u64 r3, .int .u64 h1, .int .u64 h2, .int .u64 h3, .int .u64 u1, .int .u64 u2, .int .u64 u3, .int .i64 k, .int .i64 t] 26)).alloc (.cells #[.int .u64 q1, .int .u64 q2, .int .u64 q3] 24))
  simp only [World.size_alloc] at Bs0 Bc0
  go_enter Tryz.func6, Tryz.ntmps6
  go_wp2_with fail
  refine (l13awake_any _ (HD.out.keep C0.out)).mono ?_
  rintro e w1 ⟨rfl, c1⟩
  have D1 := hide (c1)
  have Bs1 := hide (D1.out.blk Bs0.out (fun h => h))
  have Bc1 := hide (D1.out.blk Bc0.out (fun h => h))
  have C1 := hide (C0.out.trans' D1.out)
  clear c1 D1 C0 Bs0 Bc0
  obtain ⟨a0, a1, a2, a3, a4, a5, a6, a7, a8, a9, a10, a11, a12, a13⟩ := spc_cellsI Bs1.out
  go_wp2_with fail
  refine (HMs.out _).mono ?_
  rintro e w2 ⟨rfl, c2⟩
  have D2 := hide (c2)
  have Bs2 := hide (D2.out.blk Bs1.out (fun h => h))
  have Bc2 := hide (D2.out.blk Bc1.out (fun h => h))
  have C2 := hide (C1.out.trans' D2.out)
  clear c2 D2 C1 Bs1 Bc1 a0 a1 a2 a3 a4 a5 a6 a7 a8 a9 a10 a11 a12 a13
  obtain ⟨x0, x1, x2⟩ := crv_cellsI Bc2.out
  go_wp2_with fail
  refine (HC.out _).mono ?_
  rintro e w3 ⟨rfl, c3⟩
  have D3 := hide (c3)
  have Bs3 := hide (D3.out.blk Bs2.out (fun h => h))
  have Bc3 := hide (D3.out.blk Bc2.out (fun h => h))
  have C3 := hide (C2.out.trans' D3.out)
  clear c3 D3 C2 Bs2 Bc2 x0 x1 x2
  obtain ⟨wx, hwx⟩ : ∃ wx, wx = w3 := ⟨_, rfl⟩
  go_upto_region 5 with fail
  go_cut [5, 6, 7, 8, 9] (fun s5 s6 s7 s8 s9 wz => ∃ p5 p6 p7 p8 p9, Five w3 #[.int .i64 i, .int .i64 p, .bool b, .int .u64 r1, .int .u64 r2, .int .u64 r3, .int .u64 h1, .int .u64 h2, .int .u64 h3, .int .u64 u1, .int .u64 u2, .int .u64 u3, .int .i64 k, .int .i64 t] s5 s6 s7 s8 s9 wz p5 p6 p7 p8 p9)
  case first =>
    have HB : ∀ w', (∃ x, w' = graft NoChg w3 x) → Blk w' w.heap.size #[.int .i64 i, .int .i64 p, .bool b, .int .u64 r1, .int .u64 r2, .int .u64 r3, .int .u64 h1, .int .u64 h2, .int .u64 h3, .int .u64 u1, .int .u64 u2, .int .u64 u3, .int .i64 k, .int .i64 t] 26 := by
      rintro w' ⟨x, rfl⟩
      exact (chg_graft NoChg w3 x).blk Bs3.out (fun h => h)
    refine wp_region_alls [0, 1, 2, 3, 4] [5, 6, 7, 8, 9] [10, 11, 12, 13, 14] [] (graft NoChg w3) (by kernel_rfl) (by kernel_rfl) ?_ (graft_of_chg (by (repeat' (first | (with_reducible exact Chg.refl _ _) | (with_reducible assumption) | (with_reducible refine Chg.alloc ?_ _) | (with_reducible refine Chg.drewN ?_ _) | (with_reducible refine Chg.drew ?_) | (with_reducible refine Chg.setCell ?_ _ ?_) | (apply Or.inl; with_reducible rfl) | (apply Or.inl; simp; done) | (apply Or.inr; simp; done) | (apply Or.inr; simp; omega))))) ?_
    · exact fun _ _ _ _ _ h => h
    simp only [pick, List.getElem?_toArray, List.getElem?_cons_zero, List.getElem?_cons_succ]
    iterate 5 refine yield_load_spec i p k t r1 r2 r3 h1 h2 h3 u1 u2 u3 b rfl HB ?_
    refine wpYield_nil ?_
    intro _ hw'
    obtain ⟨xo, hw''⟩ := hw'
    subst hw''
    clear HB
    have cz := hide (chg_graft NoChg w3 xo)
    generalize graft NoChg w3 xo = wz at cz ⊢
    refine wpAlls_allocs (fun k => k) (.cells #[.int .i64 0, .int .i64 0, .bool false, .int .u64 0, .int .u64 0, .int .u64 0, .int .u64 0, .int .u64 0, .int .u64 0, .int .u64 0, .int .u64 0, .int .u64 0, .int .i64 0, .int .i64 0] 26) (graft_alloc _) 5 [5, 6, 7, 8, 9] _ wz rfl (graft_of_chg cz.out) ?_ ?_
    · intro k hk o ho Q' a' w' hq
      simp only [List.mem_cons, List.not_mem_nil, or_false] at hk
      rcases hk with rfl | rfl | rfl | rfl | rfl
      all_goals
        simp only [List.getElem?_toArray, List.getElem?_cons_zero, List.getElem?_cons_succ, Option.some.injEq] at ho
        subst ho
        exact wpList_alloc_spec hq
    · intro ks hks
      obtain ⟨g, hg1, hg2, he⟩ := putAll_perm (fun k => k) hks (by decide) (fun x _ y _ h => h) wz.heap.size _
      rw [he]
      clear he hks
      have cy := hide (Chg.allocN (.cells #[.int .i64 0, .int .i64 0, .bool false, .int .u64 0, .int .u64 0, .int .u64 0, .int .u64 0, .int .u64 0, .int .u64 0, .int .u64 0, .int .u64 0, .int .u64 0, .int .i64 0, .int .i64 0] 26) 5 cz.out)
      have sy := cz.out.size
      have y5 := hg1 5 (by decide)
      have B5 := hide (Blk.ofAllocN #[.int .i64 0, .int .i64 0, .bool false, .int .u64 0, .int .u64 0, .int .u64 0, .int .u64 0, .int .u64 0, .int .u64 0, .int .u64 0, .int .u64 0, .int .u64 0, .int .i64 0, .int .i64 0] 26 5 wz (g 5) y5)
      have y6 := hg1 6 (by decide)
      have B6 := hide (Blk.ofAllocN #[.int .i64 0, .int .i64 0, .bool false, .int .u64 0, .int .u64 0, .int .u64 0, .int .u64 0, .int .u64 0, .int .u64 0, .int .u64 0, .int .u64 0, .int .u64 0, .int .i64 0, .int .i64 0] 26 5 wz (g 6) y6)
      have y7 := hg1 7 (by decide)
      have B7 := hide (Blk.ofAllocN #[.int .i64 0, .int .i64 0, .bool false, .int .u64 0, .int .u64 0, .int .u64 0, .int .u64 0, .int .u64 0, .int .u64 0, .int .u64 0, .int .u64 0, .int .u64 0, .int .i64 0, .int .i64 0] 26 5 wz (g 7) y7)
      have y8 := hg1 8 (by decide)
      have B8 := hide (Blk.ofAllocN #[.int .i64 0, .int .i64 0, .bool false, .int .u64 0, .int .u64 0, .int .u64 0, .int .u64 0, .int .u64 0, .int .u64 0, .int .u64 0, .int .u64 0, .int .u64 0, .int .i64 0, .int .i64 0] 26 5 wz (g 8) y8)
      have y9 := hg1 9 (by decide)
      have B9 := hide (Blk.ofAllocN #[.int .i64 0, .int .i64 0, .bool false, .int .u64 0, .int .u64 0, .int .u64 0, .int .u64 0, .int .u64 0, .int .u64 0, .int .u64 0, .int .u64 0, .int .u64 0, .int .i64 0, .int .i64 0] 26 5 wz (g 9) y9)
      have n56 : wz.heap.size + g 5 ≠ wz.heap.size + g 6 := fun e => absurd (hg2 5 (by decide) 6 (by decide) (by omega)) (by decide)
      have n57 : wz.heap.size + g 5 ≠ wz.heap.size + g 7 := fun e => absurd (hg2 5 (by decide) 7 (by decide) (by omega)) (by decide)
      have n58 : wz.heap.size + g 5 ≠ wz.heap.size + g 8 := fun e => absurd (hg2 5 (by decide) 8 (by decide) (by omega)) (by decide)
      have n59 : wz.heap.size + g 5 ≠ wz.heap.size + g 9 := fun e => absurd (hg2 5 (by decide) 9 (by decide) (by omega)) (by decide)
      have n67 : wz.heap.size + g 6 ≠ wz.heap.size + g 7 := fun e => absurd (hg2 6 (by decide) 7 (by decide) (by omega)) (by decide)
      have n68 : wz.heap.size + g 6 ≠ wz.heap.size + g 8 := fun e => absurd (hg2 6 (by decide) 8 (by decide) (by omega)) (by decide)
      have n69 : wz.heap.size + g 6 ≠ wz.heap.size + g 9 := fun e => absurd (hg2 6 (by decide) 9 (by decide) (by omega)) (by decide)
      have n78 : wz.heap.size + g 7 ≠ wz.heap.size + g 8 := fun e => absurd (hg2 7 (by decide) 8 (by decide) (by omega)) (by decide)
      have n79 : wz.heap.size + g 7 ≠ wz.heap.size + g 9 := fun e => absurd (hg2 7 (by decide) 9 (by decide) (by omega)) (by decide)
      have n89 : wz.heap.size + g 8 ≠ wz.heap.size + g 9 := fun e => absurd (hg2 8 (by decide) 9 (by decide) (by omega)) (by decide)
      have l5 : w3.heap.size ≤ wz.heap.size + g 5 := by omega
      have l6 : w3.heap.size ≤ wz.heap.size + g 6 := by omega
      have l7 : w3.heap.size ≤ wz.heap.size + g 7 := by omega
      have l8 : w3.heap.size ≤ wz.heap.size + g 8 := by omega
      have l9 : w3.heap.size ≤ wz.heap.size + g 9 := by omega
      simp only [List.foldl_cons, List.foldl_nil, Act.put, List.setIfInBounds_toArray, List.set_cons_zero, List.set_cons_succ]
      generalize wz.heap.size + g 5 = p5 at *
      generalize wz.heap.size + g 6 = p6 at *
      generalize wz.heap.size + g 7 = p7 at *
      generalize wz.heap.size + g 8 = p8 at *
      generalize wz.heap.size + g 9 = p9 at *
      generalize allocN _ 5 wz = v4 at *
      clear y5 y6 y7 y8 y9 hg1 hg2 sy
      refine wpMakes_cons (wpList_store_spec i p k t r1 r2 r3 h1 h2 h3 u1 u2 u3 b rfl rfl B5.out ?_)
      refine makes_step (fun W => Chg NoChg w3 W ∧ Blk W p5 #[.int .i64 i, .int .i64 p, .bool b, .int .u64 r1, .int .u64 r2, .int .u64 r3, .int .u64 h1, .int .u64 h2, .int .u64 h3, .int .u64 u1, .int .u64 u2, .int .u64 u3, .int .i64 k, .int .i64 t] 26 ∧ Blk W p6 #[.int .i64 0, .int .i64 0, .bool false, .int .u64 0, .int .u64 0, .int .u64 0, .int .u64 0, .int .u64 0, .int .u64 0, .int .u64 0, .int .u64 0, .int .u64 0, .int .i64 0, .int .i64 0] 26 ∧ Blk W p7 #[.int .i64 0, .int .i64 0, .bool false, .int .u64 0, .int .u64 0, .int .u64 0, .int .u64 0, .int .u64 0, .int .u64 0, .int .u64 0, .int .u64 0, .int .u64 0, .int .i64 0, .int .i64 0] 26 ∧ Blk W p8 #[.int .i64 0, .int .i64 0, .bool false, .int .u64 0, .int .u64 0, .int .u64 0, .int .u64 0, .int .u64 0, .int .u64 0, .int .u64 0, .int .u64 0, .int .u64 0, .int .i64 0, .int .i64 0] 26 ∧ Blk W p9 #[.int .i64 0, .int .i64 0, .bool false, .int .u64 0, .int .u64 0, .int .u64 0, .int .u64 0, .int .u64 0, .int .u64 0, .int .u64 0, .int .u64 0, .int .u64 0, .int .i64 0, .int .i64 0] 26) ⟨Chg.setW [.int .i64 i, .int .i64 p, .bool b, .int .u64 r1, .int .u64 r2, .int .u64 r3, .int .u64 h1, .int .u64 h2, .int .u64 h3, .int .u64 u1, .int .u64 u2, .int .u64 u3, .int .i64 k, .int .i64 t] 0 cy.out (Or.inr l5), Blk.setW [.int .i64 i, .int .i64 p, .bool b, .int .u64 r1, .int .u64 r2, .int .u64 r3, .int .u64 h1, .int .u64 h2, .int .u64 h3, .int .u64 u1, .int .u64 u2, .int .u64 u3, .int .i64 k, .int .i64 t] 0 B5.out, Blk.otherW n56 [.int .i64 i, .int .i64 p, .bool b, .int .u64 r1, .int .u64 r2, .int .u64 r3, .int .u64 h1, .int .u64 h2, .int .u64 h3, .int .u64 u1, .int .u64 u2, .int .u64 u3, .int .i64 k, .int .i64 t] 0 B6.out, Blk.otherW n57 [.int .i64 i, .int .i64 p, .bool b, .int .u64 r1, .int .u64 r2, .int .u64 r3, .int .u64 h1, .int .u64 h2, .int .u64 h3, .int .u64 u1, .int .u64 u2, .int .u64 u3, .int .i64 k, .int .i64 t] 0 B7.out, Blk.otherW n58 [.int .i64 i, .int .i64 p, .bool b, .int .u64 r1, .int .u64 r2, .int .u64 r3, .int .u64 h1, .int .u64 h2, .int .u64 h3, .int .u64 u1, .int .u64 u2, .int .u64 u3, .int .i64 k, .int .i64 t] 0 B8.out, Blk.otherW n59 [.int .i64 i, .int .i64 p, .bool b, .int .u64 r1, .int .u64 r2, .int .u64 r3, .int .u64 h1, .int .u64 h2, .int .u64 h3, .int .u64 u1, .int .u64 u2, .int .u64 u3, .int .i64 k, .int .i64 t] 0 B9.out⟩ (fun W h => h.1) ?_
      clear cy B5 B6 B7 B8 B9
      rintro v5 ⟨cy, B5, B6, B7, B8, B9⟩
      have cy := hide cy
      have B5 := hide B5
      have B6 := hide B6
      have B7 := hide B7
      have B8 := hide B8
      have B9 := hide B9
      refine wpMakes_cons (wpList_store_spec i p k t r1 r2 r3 h1 h2 h3 u1 u2 u3 b rfl rfl B6.out ?_)
      refine makes_step (fun W => Chg NoChg w3 W ∧ Blk W p5 #[.int .i64 i, .int .i64 p, .bool b, .int .u64 r1, .int .u64 r2, .int .u64 r3, .int .u64 h1, .int .u64 h2, .int .u64 h3, .int .u64 u1, .int .u64 u2, .int .u64 u3, .int .i64 k, .int .i64 t] 26 ∧ Blk W p6 #[.int .i64 i, .int .i64 p, .bool b, .int .u64 r1, .int .u64 r2, .int .u64 r3, .int .u64 h1, .int .u64 h2, .int .u64 h3, .int .u64 u1, .int .u64 u2, .int .u64 u3, .int .i64 k, .int .i64 t] 26 ∧ Blk W p7 #[.int .i64 0, .int .i64 0, .bool false, .int .u64 0, .int .u64 0, .int .u64 0, .int .u64 0, .int .u64 0, .int .u64 0, .int .u64 0, .int .u64 0, .int .u64 0, .int .i64 0, .int .i64 0] 26 ∧ Blk W p8 #[.int .i64 0, .int .i64 0, .bool false, .int .u64 0, .int .u64 0, .int .u64 0, .int .u64 0, .int .u64 0, .int .u64 0, .int .u64 0, .int .u64 0, .int .u64 0, .int .i64 0, .int .i64 0] 26 ∧ Blk W p9 #[.int .i64 0, .int .i64 0, .bool false, .int .u64 0, .int .u64 0, .int .u64 0, .int .u64 0, .int .u64 0, .int .u64 0, .int .u64 0, .int .u64 0, .int .u64 0, .int .i64 0, .int .i64 0] 26) ⟨Chg.setW [.int .i64 i, .int .i64 p, .bool b, .int .u64 r1, .int .u64 r2, .int .u64 r3, .int .u64 h1, .int .u64 h2, .int .u64 h3, .int .u64 u1, .int .u64 u2, .int .u64 u3, .int .i64 k, .int .i64 t] 0 cy.out (Or.inr l6), Blk.otherW n56.symm [.int .i64 i, .int .i64 p, .bool b, .int .u64 r1, .int .u64 r2, .int .u64 r3, .int .u64 h1, .int .u64 h2, .int .u64 h3, .int .u64 u1, .int .u64 u2, .int .u64 u3, .int .i64 k, .int .i64 t] 0 B5.out, Blk.setW [.int .i64 i, .int .i64 p, .bool b, .int .u64 r1, .int .u64 r2, .int .u64 r3, .int .u64 h1, .int .u64 h2, .int .u64 h3, .int .u64 u1, .int .u64 u2, .int .u64 u3, .int .i64 k, .int .i64 t] 0 B6.out, Blk.otherW n67 [.int .i64 i, .int .i64 p, .bool b, .int .u64 r1, .int .u64 r2, .int .u64 r3, .int .u64 h1, .int .u64 h2, .int .u64 h3, .int .u64 u1, .int .u64 u2, .int .u64 u3, .int .i64 k, .int .i64 t] 0 B7.out, Blk.otherW n68 [.int .i64 i, .int .i64 p, .bool b, .int .u64 r1, .int .u64 r2, .int .u64 r3, .int .u64 h1, .int .u64 h2, .int .u64 h3, .int .u64 u1, .int .u64 u2, .int .u64 u3, .int .i64 k, .int .i64 t] 0 B8.out, Blk.otherW n69 [.int .i64 i, .int .i64 p, .bool b, .int .u64 r1, .int .u64 r2, .int .u64 r3, .int .u64 h1, .int .u64 h2, .int .u64 h3, .int .u64 u1, .int .u64 u2, .int .u64 u3, .int .i64 k, .int .i64 t] 0 B9.out⟩ (fun W h => h.1) ?_
      clear cy B5 B6 B7 B8 B9
      rintro v6 ⟨cy, B5, B6, B7, B8, B9⟩
      have cy := hide cy
      have B5 := hide B5
      have B6 := hide B6
      have B7 := hide B7
      have B8 := hide B8
      have B9 := hide B9
      refine wpMakes_cons (wpList_store_spec i p k t r1 r2 r3 h1 h2 h3 u1 u2 u3 b rfl rfl B7.out ?_)
      refine makes_step (fun W => Chg NoChg w3 W ∧ Blk W p5 #[.int .i64 i, .int .i64 p, .bool b, .int .u64 r1, .int .u64 r2, .int .u64 r3, .int .u64 h1, .int .u64 h2, .int .u64 h3, .int .u64 u1, .int .u64 u2, .int .u64 u3, .int .i64 k, .int .i64 t] 26 ∧ Blk W p6 #[.int .i64 i, .int .i64 p, .bool b, .int .u64 r1, .int .u64 r2, .int .u64 r3, .int .u64 h1, .int .u64 h2, .int .u64 h3, .int .u64 u1, .int .u64 u2, .int .u64 u3, .int .i64 k, .int .i64 t] 26 ∧ Blk W p7 #[.int .i64 i, .int .i64 p, .bool b, .int .u64 r1, .int .u64 r2, .int .u64 r3, .int .u64 h1, .int .u64 h2, .int .u64 h3, .int .u64 u1, .int .u64 u2, .int .u64 u3, .int .i64 k, .int .i64 t] 26 ∧ Blk W p8 #[.int .i64 0, .int .i64 0, .bool false, .int .u64 0, .int .u64 0, .int .u64 0, .int .u64 0, .int .u64 0, .int .u64 0, .int .u64 0, .int .u64 0, .int .u64 0, .int .i64 0, .int .i64 0] 26 ∧ Blk W p9 #[.int .i64 0, .int .i64 0, .bool false, .int .u64 0, .int .u64 0, .int .u64 0, .int .u64 0, .int .u64 0, .int .u64 0, .int .u64 0, .int .u64 0, .int .u64 0, .int .i64 0, .int .i64 0] 26) ⟨Chg.setW [.int .i64 i, .int .i64 p, .bool b, .int .u64 r1, .int .u64 r2, .int .u64 r3, .int .u64 h1, .int .u64 h2, .int .u64 h3, .int .u64 u1, .int .u64 u2, .int .u64 u3, .int .i64 k, .int .i64 t] 0 cy.out (Or.inr l7), Blk.otherW n57.symm [.int .i64 i, .int .i64 p, .bool b, .int .u64 r1, .int .u64 r2, .int .u64 r3, .int .u64 h1, .int .u64 h2, .int .u64 h3, .int .u64 u1, .int .u64 u2, .int .u64 u3, .int .i64 k, .int .i64 t] 0 B5.out, Blk.otherW n67.symm [.int .i64 i, .int .i64 p, .bool b, .int .u64 r1, .int .u64 r2, .int .u64 r3, .int .u64 h1, .int .u64 h2, .int .u64 h3, .int .u64 u1, .int .u64 u2, .int .u64 u3, .int .i64 k, .int .i64 t] 0 B6.out, Blk.setW [.int .i64 i, .int .i64 p, .bool b, .int .u64 r1, .int .u64 r2, .int .u64 r3, .int .u64 h1, .int .u64 h2, .int .u64 h3, .int .u64 u1, .int .u64 u2, .int .u64 u3, .int .i64 k, .int .i64 t] 0 B7.out, Blk.otherW n78 [.int .i64 i, .int .i64 p, .bool b, .int .u64 r1, .int .u64 r2, .int .u64 r3, .int .u64 h1, .int .u64 h2, .int .u64 h3, .int .u64 u1, .int .u64 u2, .int .u64 u3, .int .i64 k, .int .i64 t] 0 B8.out, Blk.otherW n79 [.int .i64 i, .int .i64 p, .bool b, .int .u64 r1, .int .u64 r2, .int .u64 r3, .int .u64 h1, .int .u64 h2, .int .u64 h3, .int .u64 u1, .int .u64 u2, .int .u64 u3, .int .i64 k, .int .i64 t] 0 B9.out⟩ (fun W h => h.1) ?_
      clear cy B5 B6 B7 B8 B9
      rintro v7 ⟨cy, B5, B6, B7, B8, B9⟩
      have cy := hide cy
      have B5 := hide B5
      have B6 := hide B6
      have B7 := hide B7
      have B8 := hide B8
      have B9 := hide B9
      refine wpMakes_cons (wpList_store_spec i p k t r1 r2 r3 h1 h2 h3 u1 u2 u3 b rfl rfl B8.out ?_)
      refine makes_step (fun W => Chg NoChg w3 W ∧ Blk W p5 #[.int .i64 i, .int .i64 p, .bool b, .int .u64 r1, .int .u64 r2, .int .u64 r3, .int .u64 h1, .int .u64 h2, .int .u64 h3, .int .u64 u1, .int .u64 u2, .int .u64 u3, .int .i64 k, .int .i64 t] 26 ∧ Blk W p6 #[.int .i64 i, .int .i64 p, .bool b, .int .u64 r1, .int .u64 r2, .int .u64 r3, .int .u64 h1, .int .u64 h2, .int .u64 h3, .int .u64 u1, .int .u64 u2, .int .u64 u3, .int .i64 k, .int .i64 t] 26 ∧ Blk W p7 #[.int .i64 i, .int .i64 p, .bool b, .int .u64 r1, .int .u64 r2, .int .u64 r3, .int .u64 h1, .int .u64 h2, .int .u64 h3, .int .u64 u1, .int .u64 u2, .int .u64 u3, .int .i64 k, .int .i64 t] 26 ∧ Blk W p8 #[.int .i64 i, .int .i64 p, .bool b, .int .u64 r1, .int .u64 r2, .int .u64 r3, .int .u64 h1, .int .u64 h2, .int .u64 h3, .int .u64 u1, .int .u64 u2, .int .u64 u3, .int .i64 k, .int .i64 t] 26 ∧ Blk W p9 #[.int .i64 0, .int .i64 0, .bool false, .int .u64 0, .int .u64 0, .int .u64 0, .int .u64 0, .int .u64 0, .int .u64 0, .int .u64 0, .int .u64 0, .int .u64 0, .int .i64 0, .int .i64 0] 26) ⟨Chg.setW [.int .i64 i, .int .i64 p, .bool b, .int .u64 r1, .int .u64 r2, .int .u64 r3, .int .u64 h1, .int .u64 h2, .int .u64 h3, .int .u64 u1, .int .u64 u2, .int .u64 u3, .int .i64 k, .int .i64 t] 0 cy.out (Or.inr l8), Blk.otherW n58.symm [.int .i64 i, .int .i64 p, .bool b, .int .u64 r1, .int .u64 r2, .int .u64 r3, .int .u64 h1, .int .u64 h2, .int .u64 h3, .int .u64 u1, .int .u64 u2, .int .u64 u3, .int .i64 k, .int .i64 t] 0 B5.out, Blk.otherW n68.symm [.int .i64 i, .int .i64 p, .bool b, .int .u64 r1, .int .u64 r2, .int .u64 r3, .int .u64 h1, .int .u64 h2, .int .u64 h3, .int .u64 u1, .int .u64 u2, .int .u64 u3, .int .i64 k, .int .i64 t] 0 B6.out, Blk.otherW n78.symm [.int .i64 i, .int .i64 p, .bool b, .int .u64 r1, .int .u64 r2, .int .u64 r3, .int .u64 h1, .int .u64 h2, .int .u64 h3, .int .u64 u1, .int .u64 u2, .int .u64 u3, .int .i64 k, .int .i64 t] 0 B7.out, Blk.setW [.int .i64 i, .int .i64 p, .bool b, .int .u64 r1, .int .u64 r2, .int .u64 r3, .int .u64 h1, .int .u64 h2, .int .u64 h3, .int .u64 u1, .int .u64 u2, .int .u64 u3, .int .i64 k, .int .i64 t] 0 B8.out, Blk.otherW n89 [.int .i64 i, .int .i64 p, .bool b, .int .u64 r1, .int .u64 r2, .int .u64 r3, .int .u64 h1, .int .u64 h2, .int .u64 h3, .int .u64 u1, .int .u64 u2, .int .u64 u3, .int .i64 k, .int .i64 t] 0 B9.out⟩ (fun W h => h.1) ?_
      clear cy B5 B6 B7 B8 B9
      rintro v8 ⟨cy, B5, B6, B7, B8, B9⟩
      have cy := hide cy
      have B5 := hide B5
      have B6 := hide B6
      have B7 := hide B7
      have B8 := hide B8
      have B9 := hide B9
      refine wpMakes_cons (wpList_store_spec i p k t r1 r2 r3 h1 h2 h3 u1 u2 u3 b rfl rfl B9.out ?_)
      refine makes_step (fun W => Chg NoChg w3 W ∧ Blk W p5 #[.int .i64 i, .int .i64 p, .bool b, .int .u64 r1, .int .u64 r2, .int .u64 r3, .int .u64 h1, .int .u64 h2, .int .u64 h3, .int .u64 u1, .int .u64 u2, .int .u64 u3, .int .i64 k, .int .i64 t] 26 ∧ Blk W p6 #[.int .i64 i, .int .i64 p, .bool b, .int .u64 r1, .int .u64 r2, .int .u64 r3, .int .u64 h1, .int .u64 h2, .int .u64 h3, .int .u64 u1, .int .u64 u2, .int .u64 u3, .int .i64 k, .int .i64 t] 26 ∧ Blk W p7 #[.int .i64 i, .int .i64 p, .bool b, .int .u64 r1, .int .u64 r2, .int .u64 r3, .int .u64 h1, .int .u64 h2, .int .u64 h3, .int .u64 u1, .int .u64 u2, .int .u64 u3, .int .i64 k, .int .i64 t] 26 ∧ Blk W p8 #[.int .i64 i, .int .i64 p, .bool b, .int .u64 r1, .int .u64 r2, .int .u64 r3, .int .u64 h1, .int .u64 h2, .int .u64 h3, .int .u64 u1, .int .u64 u2, .int .u64 u3, .int .i64 k, .int .i64 t] 26 ∧ Blk W p9 #[.int .i64 i, .int .i64 p, .bool b, .int .u64 r1, .int .u64 r2, .int .u64 r3, .int .u64 h1, .int .u64 h2, .int .u64 h3, .int .u64 u1, .int .u64 u2, .int .u64 u3, .int .i64 k, .int .i64 t] 26) ⟨Chg.setW [.int .i64 i, .int .i64 p, .bool b, .int .u64 r1, .int .u64 r2, .int .u64 r3, .int .u64 h1, .int .u64 h2, .int .u64 h3, .int .u64 u1, .int .u64 u2, .int .u64 u3, .int .i64 k, .int .i64 t] 0 cy.out (Or.inr l9), Blk.otherW n59.symm [.int .i64 i, .int .i64 p, .bool b, .int .u64 r1, .int .u64 r2, .int .u64 r3, .int .u64 h1, .int .u64 h2, .int .u64 h3, .int .u64 u1, .int .u64 u2, .int .u64 u3, .int .i64 k, .int .i64 t] 0 B5.out, Blk.otherW n69.symm [.int .i64 i, .int .i64 p, .bool b, .int .u64 r1, .int .u64 r2, .int .u64 r3, .int .u64 h1, .int .u64 h2, .int .u64 h3, .int .u64 u1, .int .u64 u2, .int .u64 u3, .int .i64 k, .int .i64 t] 0 B6.out, Blk.otherW n79.symm [.int .i64 i, .int .i64 p, .bool b, .int .u64 r1, .int .u64 r2, .int .u64 r3, .int .u64 h1, .int .u64 h2, .int .u64 h3, .int .u64 u1, .int .u64 u2, .int .u64 u3, .int .i64 k, .int .i64 t] 0 B7.out, Blk.otherW n89.symm [.int .i64 i, .int .i64 p, .bool b, .int .u64 r1, .int .u64 r2, .int .u64 r3, .int .u64 h1, .int .u64 h2, .int .u64 h3, .int .u64 u1, .int .u64 u2, .int .u64 u3, .int .i64 k, .int .i64 t] 0 B8.out, Blk.setW [.int .i64 i, .int .i64 p, .bool b, .int .u64 r1, .int .u64 r2, .int .u64 r3, .int .u64 h1, .int .u64 h2, .int .u64 h3, .int .u64 u1, .int .u64 u2, .int .u64 u3, .int .i64 k, .int .i64 t] 0 B9.out⟩ (fun W h => h.1) ?_
      clear cy B5 B6 B7 B8 B9
      rintro v9 ⟨cy, B5, B6, B7, B8, B9⟩
      have cy := hide cy
      have B5 := hide B5
      have B6 := hide B6
      have B7 := hide B7
      have B8 := hide B8
      have B9 := hide B9
      simp only [wpMakes]
      go_wp2_with fail
      go_meet
      exact ⟨p5, p6, p7, p8, p9, rfl, rfl, rfl, rfl, rfl, n56, n57, n58, n59, n67, n68, n69, n78, n79, n89, l5, l6, l7, l8, l9, cy.out, B5.out, B6.out, B7.out, B8.out, B9.out⟩
  case rest =>
    obtain ⟨p5, p6, p7, p8, p9, rfl, rfl, rfl, rfl, rfl, n56, n57, n58, n59, n67, n68, n69, n78, n79, n89, l5, l6, l7, l8, l9, ch, b5, b6, b7, b8, b9⟩ := hcut
    have ls := Bs3.out.lt
    have lc := Bc3.out.lt
    have m5 : p5 ≠ w.heap.size := by omega
    have c5 : p5 ≠ w.heap.size + 1 := by omega
    have lw5 : w.heap.size ≤ p5 := by omega
    have m6 : p6 ≠ w.heap.size := by omega
    have c6 : p6 ≠ w.heap.size + 1 := by omega
    have lw6 : w.heap.size ≤ p6 := by omega
    have m7 : p7 ≠ w.heap.size := by omega
    have c7 : p7 ≠ w.heap.size + 1 := by omega
    have lw7 : w.heap.size ≤ p7 := by omega
    have m8 : p8 ≠ w.heap.size := by omega
    have c8 : p8 ≠ w.heap.size + 1 := by omega
    have lw8 : w.heap.size ≤ p8 := by omega
    have m9 : p9 ≠ w.heap.size := by omega
    have c9 : p9 ≠ w.heap.size + 1 := by omega
    have lw9 : w.heap.size ≤ p9 := by omega
    have Bs4 := hide (ch.blk Bs3.out (fun h => h))
    have Bc4 := hide (ch.blk Bc3.out (fun h => h))
    have C4 := hide (C3.out.trans' ch)
    have B5 := hide b5
    clear b5 l5
    have B6 := hide b6
    clear b6 l6
    have B7 := hide b7
    clear b7 l7
    have B8 := hide b8
    clear b8 l8
    have B9 := hide b9
    clear b9 l9
    clear ch Bs3 Bc3 C3 ls lc
    obtain ⟨x0, x1, x2⟩ := crv_cellsI Bc4.out
    obtain ⟨z0, z1, z2, z3, z4, z5, z6, z7, z8, z9, z10, z11, z12, z13⟩ := spc_cellsI B5.out
    have zf := B5.out.frozen
    go_upto_region 6 with fail
    obtain ⟨wy, hwy⟩ : ∃ x, x = wc := ⟨_, rfl⟩
    go_cut [] (fun wz => Chg (fun g => g = p5) wc wz ∧ Blk wz p5 #[.int .i64 0, .int .i64 p, .bool b, .int .u64 q1, .int .u64 q2, .int .u64 q3, .int .u64 h1, .int .u64 h2, .int .u64 h3, .int .u64 u1, .int .u64 u2, .int .u64 u3, .int .i64 k, .int .i64 t] 26)
    case first =>
      go_region
      all_goals go_wp2
      all_goals go_meet
      all_goals exact ⟨(((((Chg.refl (fun g => g = p5) wc).setCell (a := ⟨p5, 0, none⟩) (.int .i64 0) (Or.inl rfl)).setCell (a := ⟨p5, 3, none⟩) (.int .u64 q1) (Or.inl rfl)).setCell (a := ⟨p5, 4, none⟩) (.int .u64 q2) (Or.inl rfl)).setCell (a := ⟨p5, 5, none⟩) (.int .u64 q3) (Or.inl rfl)).drew, ((((B5.out.set' 0 (.int .i64 0) rfl).set' 3 (.int .u64 q1) rfl).set' 4 (.int .u64 q2) rfl).set' 5 (.int .u64 q3) rfl).drew⟩
    case rest =>
      obtain ⟨ch, bj⟩ := hcut
      have B5 := hide bj
      have B6 := hide (ch.blk B6.out (fun e => n56 e.symm))
      have B7 := hide (ch.blk B7.out (fun e => n57 e.symm))
      have B8 := hide (ch.blk B8.out (fun e => n58 e.symm))
      have B9 := hide (ch.blk B9.out (fun e => n59 e.symm))
      have Bs5 := hide (ch.blk Bs4.out (fun e => m5 e.symm))
      have Bc5 := hide (ch.blk Bc4.out (fun e => c5 e.symm))
      have C5 := hide (C4.out.trans ch (fun g e => Or.inr (by rw [e]; exact lw5)))
      clear ch bj Bs4 Bc4 C4 zf z0 z1 z2 z3 z4 z5 z6 z7 z8 z9 z10 z11 z12 z13 x0 x1 x2 hwy wy
      obtain ⟨x0, x1, x2⟩ := crv_cellsI Bc5.out
      obtain ⟨z0, z1, z2, z3, z4, z5, z6, z7, z8, z9, z10, z11, z12, z13⟩ := spc_cellsI B6.out
      have zf := B6.out.frozen
      go_upto_region 7 with fail
      obtain ⟨wy, hwy⟩ : ∃ x, x = wc := ⟨_, rfl⟩
      go_cut [] (fun wz => Chg (fun g => g = p6) wc wz ∧ Blk wz p6 #[.int .i64 i, .int .i64 p, .bool b, .int .u64 r1, .int .u64 r2, .int .u64 r3, .int .u64 q1, .int .u64 q2, .int .u64 q3, .int .u64 u1, .int .u64 u2, .int .u64 u3, .int .i64 k, .int .i64 t] 26)
      case first =>
        go_wp2_with fail
        go_meet
        all_goals exact ⟨((((Chg.refl (fun g => g = p6) wc).setCell (a := ⟨p6, 6, none⟩) (.int .u64 q1) (Or.inl rfl)).setCell (a := ⟨p6, 7, none⟩) (.int .u64 q2) (Or.inl rfl)).setCell (a := ⟨p6, 8, none⟩) (.int .u64 q3) (Or.inl rfl)), (((B6.out.set' 6 (.int .u64 q1) rfl).set' 7 (.int .u64 q2) rfl).set' 8 (.int .u64 q3) rfl)⟩
      case rest =>
        obtain ⟨ch, bj⟩ := hcut
        have B6 := hide bj
        have B5 := hide (ch.blk B5.out (fun e => n56 e))
        have B7 := hide (ch.blk B7.out (fun e => n67 e.symm))
        have B8 := hide (ch.blk B8.out (fun e => n68 e.symm))
        have B9 := hide (ch.blk B9.out (fun e => n69 e.symm))
        have Bs6 := hide (ch.blk Bs5.out (fun e => m6 e.symm))
        have Bc6 := hide (ch.blk Bc5.out (fun e => c6 e.symm))
        have C6 := hide (C5.out.trans ch (fun g e => Or.inr (by rw [e]; exact lw6)))
        clear ch bj Bs5 Bc5 C5 zf z0 z1 z2 z3 z4 z5 z6 z7 z8 z9 z10 z11 z12 z13 x0 x1 x2 hwy wy
        obtain ⟨x0, x1, x2⟩ := crv_cellsI Bc6.out
        obtain ⟨z0, z1, z2, z3, z4, z5, z6, z7, z8, z9, z10, z11, z12, z13⟩ := spc_cellsI B7.out
        have zf := B7.out.frozen
        go_upto_region 8 with fail
        obtain ⟨wy, hwy⟩ : ∃ x, x = wc := ⟨_, rfl⟩
        go_cut [] (fun wz => Chg (fun g => g = p7) wc wz ∧ Blk wz p7 #[.int .i64 i, .int .i64 p, .bool b, .int .u64 r1, .int .u64 r2, .int .u64 r3, .int .u64 h1, .int .u64 h2, .int .u64 h3, .int .u64 q1, .int .u64 q2, .int .u64 q3, .int .i64 k, .int .i64 t] 26)
        case first =>
          go_wp2_with fail
          go_meet
          all_goals exact ⟨((((Chg.refl (fun g => g = p7) wc).setCell (a := ⟨p7, 9, none⟩) (.int .u64 q1) (Or.inl rfl)).setCell (a := ⟨p7, 10, none⟩) (.int .u64 q2) (Or.inl rfl)).setCell (a := ⟨p7, 11, none⟩) (.int .u64 q3) (Or.inl rfl)), (((B7.out.set' 9 (.int .u64 q1) rfl).set' 10 (.int .u64 q2) rfl).set' 11 (.int .u64 q3) rfl)⟩
        case rest =>
          obtain ⟨ch, bj⟩ := hcut
          have B7 := hide bj
          have B5 := hide (ch.blk B5.out (fun e => n57 e))
          have B6 := hide (ch.blk B6.out (fun e => n67 e))
          have B8 := hide (ch.blk B8.out (fun e => n78 e.symm))
          have B9 := hide (ch.blk B9.out (fun e => n79 e.symm))
          have Bs7 := hide (ch.blk Bs6.out (fun e => m7 e.symm))
          have Bc7 := hide (ch.blk Bc6.out (fun e => c7 e.symm))
          have C7 := hide (C6.out.trans ch (fun g e => Or.inr (by rw [e]; exact lw7)))
          clear ch bj Bs6 Bc6 C6 zf z0 z1 z2 z3 z4 z5 z6 z7 z8 z9 z10 z11 z12 z13 x0 x1 x2 hwy wy
          have x2 := (spc_cellsI Bs7.out).2.2.1
          obtain ⟨z0, z1, z2, z3, z4, z5, z6, z7, z8, z9, z10, z11, z12, z13⟩ := spc_cellsI B8.out
          have zf := B8.out.frozen
          go_upto_region 9 with fail
          obtain ⟨wy, hwy⟩ : ∃ x, x = wc := ⟨_, rfl⟩
          go_cut [] (fun wz => Chg (fun g => g = p8) wc wz ∧ Blk wz p8 #[.int .i64 i, .int .i64 p, .bool (!b), .int .u64 r1, .int .u64 r2, .int .u64 r3, .int .u64 h1, .int .u64 h2, .int .u64 h3, .int .u64 u1, .int .u64 u2, .int .u64 u3, .int .i64 k, .int .i64 t] 26)
          case first =>
            go_wp2_with fail
            go_meet
            all_goals exact ⟨((Chg.refl (fun g => g = p8) wc).setCell (a := ⟨p8, 2, none⟩) (.bool (!b)) (Or.inl rfl)), (B8.out.set' 2 (.bool (!b)) rfl)⟩
          case rest =>
            obtain ⟨ch, bj⟩ := hcut
            have B8 := hide bj
            have B5 := hide (ch.blk B5.out (fun e => n58 e))
            have B6 := hide (ch.blk B6.out (fun e => n68 e))
            have B7 := hide (ch.blk B7.out (fun e => n78 e))
            have B9 := hide (ch.blk B9.out (fun e => n89 e.symm))
            have Bs8 := hide (ch.blk Bs7.out (fun e => m8 e.symm))
            have Bc8 := hide (ch.blk Bc7.out (fun e => c8 e.symm))
            have C8 := hide (C7.out.trans ch (fun g e => Or.inr (by rw [e]; exact lw8)))
            clear ch bj Bs7 Bc7 C7 zf z0 z1 z2 z3 z4 z5 z6 z7 z8 z9 z10 z11 z12 z13 x2 hwy wy
            obtain ⟨z0, z1, z2, z3, z4, z5, z6, z7, z8, z9, z10, z11, z12, z13⟩ := spc_cellsI B9.out
            have zf := B9.out.frozen
            go_upto_region 10 with fail
            obtain ⟨wy, hwy⟩ : ∃ x, x = wc := ⟨_, rfl⟩
            go_cut [] (fun wz => Chg (fun g => g = p9) wc wz ∧ Blk wz p9 #[.int .i64 i, .int .i64 p, .bool b, .int .u64 r1, .int .u64 r2, .int .u64 r3, .int .u64 h1, .int .u64 h2, .int .u64 h3, .int .u64 u1, .int .u64 u2, .int .u64 u3, .int .i64 4097, .int .i64 t] 26)
            case first =>
              go_wp2_with fail
              go_meet
              all_goals exact ⟨((Chg.refl (fun g => g = p9) wc).setCell (a := ⟨p9, 12, none⟩) (.int .i64 4097) (Or.inl rfl)), (B9.out.set' 12 (.int .i64 4097) rfl)⟩
            case rest =>
              obtain ⟨ch, bj⟩ := hcut
              have B9 := hide bj
              have B5 := hide (ch.blk B5.out (fun e => n59 e))
              have B6 := hide (ch.blk B6.out (fun e => n69 e))
              have B7 := hide (ch.blk B7.out (fun e => n79 e))
              have B8 := hide (ch.blk B8.out (fun e => n89 e))
              have Bs9 := hide (ch.blk Bs8.out (fun e => m9 e.symm))
              have Bc9 := hide (ch.blk Bc8.out (fun e => c9 e.symm))
              have C9 := hide (C8.out.trans ch (fun g e => Or.inr (by rw [e]; exact lw9)))
              clear ch bj Bs8 Bc8 C8 zf z0 z1 z2 z3 z4 z5 z6 z7 z8 z9 z10 z11 z12 z13  hwy wy
              obtain ⟨z0, z1, z2, z3, z4, z5, z6, z7, z8, z9, z10, z11, z12, z13⟩ := spc_cellsI B5.out
              go_wp2_with fail
              refine (HMa.out _).mono ?_
              rintro e v5 ⟨rfl, ch⟩
              have B6 := hide (ch.blk B6.out (fun h => h))
              have B7 := hide (ch.blk B7.out (fun h => h))
              have B8 := hide (ch.blk B8.out (fun h => h))
              have B9 := hide (ch.blk B9.out (fun h => h))
              have C10 := hide (C9.out.trans' ch)
              clear ch B5 C9 z0 z1 z2 z3 z4 z5 z6 z7 z8 z9 z10 z11 z12 z13
              obtain ⟨z0, z1, z2, z3, z4, z5, z6, z7, z8, z9, z10, z11, z12, z13⟩ := spc_cellsI B6.out
              go_wp2_with fail
              refine (HMb.out _).mono ?_
              rintro e v6 ⟨rfl, ch⟩
              have B7 := hide (ch.blk B7.out (fun h => h))
              have B8 := hide (ch.blk B8.out (fun h => h))
              have B9 := hide (ch.blk B9.out (fun h => h))
              have C11 := hide (C10.out.trans' ch)
              clear ch B6 C10 z0 z1 z2 z3 z4 z5 z6 z7 z8 z9 z10 z11 z12 z13
              obtain ⟨z0, z1, z2, z3, z4, z5, z6, z7, z8, z9, z10, z11, z12, z13⟩ := spc_cellsI B7.out
              go_wp2_with fail
              refine (HMd.out _).mono ?_
              rintro e v7 ⟨rfl, ch⟩
              have B8 := hide (ch.blk B8.out (fun h => h))
              have B9 := hide (ch.blk B9.out (fun h => h))
              have C12 := hide (C11.out.trans' ch)
              clear ch B7 C11 z0 z1 z2 z3 z4 z5 z6 z7 z8 z9 z10 z11 z12 z13
              obtain ⟨z0, z1, z2, z3, z4, z5, z6, z7, z8, z9, z10, z11, z12, z13⟩ := spc_cellsI B8.out
              go_wp2_with fail
              refine (HMe.out _).mono ?_
              rintro e v8 ⟨rfl, ch⟩
              have B9 := hide (ch.blk B9.out (fun h => h))
              have C13 := hide (C12.out.trans' ch)
              clear ch B8 C12 z0 z1 z2 z3 z4 z5 z6 z7 z8 z9 z10 z11 z12 z13
              obtain ⟨z0, z1, z2, z3, z4, z5, z6, z7, z8, z9, z10, z11, z12, z13⟩ := spc_cellsI B9.out
              go_wp2_with fail
              refine (HMf.out _).mono ?_
              rintro e v9 ⟨rfl, ch⟩
              have C14 := hide (C13.out.trans' ch)
              clear ch B9 C13 z0 z1 z2 z3 z4 z5 z6 z7 z8 z9 z10 z11 z12 z13
              go_wp2
              go_ret
              exact ⟨rfl, C14.out⟩
end Go.Proofs.YtofgajlpdnokdaaGreatDoor
