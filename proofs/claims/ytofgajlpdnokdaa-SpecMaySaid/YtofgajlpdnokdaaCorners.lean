/- The corners of two curves that may be. -/
import Derived.Test.YtofgajlpdnokdaaSort3
import Derived.Test.YtofgajlpdnokdaaSums2
import Derived.Maps.OwnOps
import Derived.Maps.OwnSet
import Derived.Outline
namespace Go.Proofs.Ytofgajlpdnokdaa
set_option linter.unusedVariables false
open Go.RowKit Go.Maps Go.Shelf

theorem zeroInt (w : World) : (zeroValue 3).run Try.prog w = .ok (.int .i64 0) w := by kernel_rfl

theorem u64_wf (n : Nat) (h : n < 18446744073709551616) : (Lit.int .u64 (n : Int)).wf = true := by
  have h1 : IntKind.u64.min = 0 := by kernel_rfl
  have h2 : IntKind.u64.max = 18446744073709551615 := by kernel_rfl
  simp [Lit.wf, h1, h2]
  omega

theorem key64 (n : Nat) (h : n < 18446744073709551616) : keyOf Try.prog 22 (.int .u64 (n : Int)) = some (.int .u64 (n : Int)) := keyOf_int_mk Try.underlying22 (u64_wf n h)

theorem World.ownsMap.kept' {H : Type} {P : Program} {k : TypeId} {R : Value → Option (DataW H × List MemPlace)} {w w' : World} {b n : Nat} {D : DataW H} {S : Nat → Prop} (h : w.ownsMap P k R b n D) (hc : Chg S w w') (hS : ¬ S b := by exact fun h => h) : w'.ownsMap P k R b n D := by
  have hbl := h.lt
  obtain ⟨es, clock, hb, Ft, hs, hD⟩ := h
  exact ⟨es, clock, (hc.block b hbl hS).trans hb, Ft, hs, hD⟩

/-- The lengths that are keys. -/
def LenKeys {H : Type} (l : List Crv) (D : DataW H) : Prop := ∀ x : Int, has D (.int .u64 x) = true ↔ ∃ c ∈ l, x = (c.l : Int)

theorem LenKeys.put {H : Type} {l : List Crv} {D : DataW H} (h : LenKeys l D) (hm : IsMap D) (c : Crv) (hk : WideAt.IsKeyLit (.int .u64 (c.l : Int))) (d : DataW H) : LenKeys (l ++ [c]) (D.put (.int .u64 (c.l : Int)) d) := by
  intro x
  by_cases hx : x = (c.l : Int)
  · subst hx
    rw [has_put_same hm hk]
    simp
  · rw [has_put_other (by simpa using hx), h x]
    simp [hx]

theorem u64T : RecT Try.prog (fun x : Int => [Value.int .u64 x]) 1 40 22 8 0 where
  ht := Try.underlying40
  hi := info_rec (by kernel_rfl)
  pos := by decide
  hc := fun _ => rfl
  one := by
    intro p u hu
    simp only [List.mem_cons, List.not_mem_nil, or_false] at hu
    subst hu
    rfl

theorem flatU (l : List Int) : flatC (fun x : Int => [Value.int .u64 x]) l = l.map (Value.int .u64) := by
  induction l with
  | nil => rfl
  | cons x l ih => rw [flatC_cons, ih]; rfl

theorem ownU_of_row {w : World} {base : Nat} {v : Value} {l : List Int} (h : w.ownsRow base 22 1 v l.length (l.map (Value.int .u64))) : Own (fun x : Int => [Value.int .u64 x]) 1 22 w v l := by
  unfold Own
  rw [flatU]
  obtain ⟨h0, h⟩ := h
  refine ⟨h0, ?_⟩
  rcases h with h | ⟨g, cap, cur, e, hb, r⟩
  · exact .inl h
  · exact .inr ⟨g, cap, cur, e, Nat.zero_le _, r⟩

theorem ownU_new {w : World} {g : Nat} (h : Blk w g #[.int .u64 0] 22) : Own (fun x : Int => [Value.int .u64 x]) 1 22 w (.slice (some ⟨g, 0, none⟩) 1 1) [0] :=
  ⟨by rfl, .inr ⟨g, 1, #[.int .u64 0], rfl, Nat.zero_le _, h, Nat.le_refl _, by simp [maxLen], by simp, by simp [flatC]⟩⟩

theorem few_of {p q : Int} : ∀ ss : List Int, ss.Nodup → (∀ x ∈ ss, x = p ∨ x = q) → ss.length ≤ 2
  | [], _, _ => by simp
  | [x], _, _ => by simp
  | [x, y], _, _ => by simp
  | x :: y :: z :: r, hn, hm => by
    have h1 := hm x (by simp)
    have h2 := hm y (by simp)
    have h3 := hm z (by simp)
    simp only [List.nodup_cons, List.mem_cons, not_or] at hn
    obtain ⟨⟨n1, n2, _⟩, ⟨n3, _⟩, _⟩ := hn
    omega

set_option maxRecDepth 100000 in
set_option maxHeartbeats 2000000 in
theorem sCorners_two (a b : Crv) (ad : Addr) (cap : Nat) (w : World) (hrow : RowAt Crv.cells 3 w (some ad) [a, b]) (ha : a.May) (hb : b.May) :
    Calls Try.prog 25 #[.slice (some ad) 2 cap] w fun e w' => ∃ (v : Value) (ts : List Int), e = .returned v ∧ Own (fun x : Int => [Value.int .u64 x]) 1 22 w' v ts ∧ ts.length ≤ 3 ∧ (∀ x, x ∈ ts ↔ x = 0 ∨ x = a.l ∨ x = b.l) ∧ Chg NoChg w w' := by
  have hma : ∀ c ∈ [a, b], c.May := by intro c hc; simp at hc; rcases hc with rfl | rfl <;> assumption
  have M := hide (fun w' (c : Chg NoChg w w') => sumsMay_all [a, b] ad cap w' (hrow.keep c (fun _ _ h => h)) (by simp) (by simp) hma)
  obtain ⟨l, hl⟩ : ∃ l, [a, b] = l := ⟨_, rfl⟩
  have hl2 : l.length = 2 := by rw [← hl]; rfl
  have HML := hide hma
  rw [hl] at HML M
  rw [hl2] at M
  have HL := hide hl
  clear hrow hma hl
  have hmm := fun (w : World) => run_makeMap (P := Try.prog) 52 w
  go_enter Try.func25, Try.ntmps25
  go_wp2_with fail
  refine (M.out _ (by (repeat' (first | (with_reducible exact Chg.refl _ _) | (with_reducible assumption) | (with_reducible refine Chg.alloc ?_ _) | (with_reducible refine Chg.drewN ?_ _) | (with_reducible refine Chg.drew ?_) | (with_reducible refine Chg.setCell ?_ _ ?_) | (apply Or.inl; with_reducible rfl) | (apply Or.inl; simp; done) | (apply Or.inr; simp; done) | (apply Or.inr; simp; omega))))).mono ?_
  rintro e w1 ⟨v, rfl, h1, h2, h3⟩
  have R := h1.row Crv.cells_length
  obtain ⟨a1, cap1, rfl, hc1, hn1, hrow1⟩ := R
  rw [hl2]
  have hown1 : w1.ownsMap Try.prog 22 (plainElem (H := Unit) Try.prog 3) w.heap.size 0 (.map []) := World.ownsMap.kept' (World.ownsMap_made w Try.prog 22 _) h2
  have HC2 := hide h2
  have HR := hide (And.intro h1 (And.intro h3 hown1))
  clear h1 h2 h3 hrow1 hn1 hc1 hmm
  go_wp2
  go_loopw [5, 10] (fun _ i wr => ∃ (k n : Nat) (D : DataW Unit), k ≤ 2 ∧ i = .int .i64 k ∧ n ≤ k ∧ wr.ownsMap Try.prog 22 (plainElem Try.prog 3) w.heap.size n D ∧ LenKeys (l.take k) D ∧ Chg (fun b => b = w.heap.size) w1 wr) (fun _ i _ => 2 - (intOf i).toNat)
  case atStart => exact ⟨0, 0, .map [], by omega, rfl, by omega, HR.out.2.2, fun x => by simp [has], Chg.refl _ _⟩
  case round =>
    obtain ⟨k, n, D, hk, rfl, hn, hm, hD, hc⟩ := hrel
    rename_i wr
    by_cases hlt : k < 2
    · have hlt' : k < l.length := by omega
      have hown : Own Crv.cells 3 24 wr (.slice a1 l.length cap1) l := HR.out.1.keep hc (fun j hj e => by have := HR.out.2.1 j hj; simp at this; omega)
      obtain ⟨a2, cap2, e2, _, _, hrow2⟩ := hown.row Crv.cells_length
      injection e2 with e21 e22 e23
      subst e21 e23
      obtain ⟨g, o, rfl, hj⟩ := hrow2 k hlt'
      have hmc := HML.out l[k] (List.getElem_mem hlt')
      have hts : l.take (k + 1) = l.take k ++ [l[k]] := List.take_succ_eq_append_getElem hlt'
      generalize l[k] = c at hj hmc hts
      have e0 := hj 0 _ rfl
      have e1 := hj 1 _ rfl
      have e2 := hj 2 _ rfl
      simp only [Nat.add_zero] at e0
      have k0 : (0 : Int) ≤ (k : Int) := by omega
      have k1 : (k : Int) < 2 := by omega
      have hkey := key64 c.l (by have := hmc.hl; omega)
      have HB := hide (And.intro hm (And.intro hD (And.intro hc hts)))
      clear hm hD hc hmc hown hrow2 hj hts
      go_wp2_with (first
        | (at_lookup; refine wpList_lookup_own_int _ rfl (.tmp 14) (.tmp 16) 52 rfl 22 3 .i64 law64 Try.underlying52 Try.underlying3 (zeroInt _) _ n D rfl (HB.out.1.alloc _) _ _ rfl hkey ?_; intro cc hat hwc)
        | (at_mapUpdate; refine wpList_mapUpdate_own _ rfl (.tmp 14) (.tmp 16) (.tmp 18) 52 rfl 22 3 law64 Try.underlying52 (plainElem Try.prog 3) _ n D rfl (HB.out.1.alloc _) (by simp [maxLen]; omega) _ _ _ rfl rfl hkey _ [] (plainElem_int Try.underlying3 (Go.RowKit.wrap64_wf _)) ?_; intro w5 hm5 hg5))
      have d5 := ((Chg.refl NoChg wr).alloc (.cells #[.int .u64 (c.f : Int), .int .u64 (c.l : Int), .int .u64 (c.r : Int)] 24)).mono (S' := fun b => b = w.heap.size) (fun k h => h.elim)
      have c5 := HB.out.2.2.1.trans' (d5.grown hg5 (fun k hk => .inl (by simpa using hk.symm)))
      have l5 := HB.out.2.1.put HB.out.1.isMap c (law64.key hkey) (.lit (.int .i64 (Go.RowKit.wrap64 (cc + 1))))
      rw [← HB.out.2.2.2] at l5
      have H5 := hide (And.intro hm5 (And.intro l5 c5))
      clear hm5 hg5 d5 c5 l5
      go_wp2
      go_roundw
      case rel => exact ⟨k + 1, n + 1, _, by omega, by go_num, by omega, H5.out.1, H5.out.2.1, H5.out.2.2⟩
      case measure => simp [intOf]; omega
    · obtain rfl : k = 2 := by omega
      have HB := hide (And.intro hm (And.intro hD hc))
      clear hm hD hc
      go_wp2_with (at_delete; refine wpList_delete_own _ rfl (.tmp 20) (.const (.int .u64 0)) 52 22 rfl 3 law64 Try.underlying52 (plainElem Try.prog 3) _ n D rfl HB.out.1 _ _ rfl (key64 0 (by decide)) ?_; intro w6 hm6 ht6)
      have c6 := (HB.out.2.2.grown ht6.grown (fun k hk => .inl (by simpa using hk.symm)))
      have hD6 : ∀ x : Int, has (D.del (.int .u64 ((0 : Nat) : Int))) (.int .u64 x) = true ↔ x ≠ 0 ∧ (x = (a.l : Int) ∨ x = (b.l : Int)) := by
        intro x
        have hDx := HB.out.2.1 x
        rw [← hl2, List.take_length, ← HL.out] at hDx
        by_cases hx : x = 0
        · subst hx
          rw [show (Lit.int .u64 ((0 : Nat) : Int)) = .int .u64 0 from rfl, has_del_same]
          simp
        · rw [has_del_other (by simpa using hx), hDx]
          simp [hx]
      have H6 := hide (And.intro hm6 (And.intro hD6 c6))
      clear hm6 ht6 c6 hD6
      go_wp2_with fail
      refine (callsIn_wide.1 (mKeys_in Fence.wide 0 trivial rfl _ _)).mono ?_
      rintro e w7 ⟨rfl, rfl⟩
      have SS := hide (slSorted_few (w6.heap.size + 1) w.heap.size n (D.del (.int .u64 ((0 : Nat) : Int))) ((w6.alloc (.cells #[.int .u64 0] 22)).alloc (.cells #[.map (some w.heap.size)] 52)) (by have := H6.out.1.size_le; simp only [maxLen]; omega) (by have := H6.out.1.size_le; omega)
        (fun ss h1 h2 => few_of (p := a.l) (q := b.l) ss h1 (fun x hx => (((H6.out.2.1 x).1 ((h2 x).1 hx)).2))) (by simp) ((Blk.new' (w := w6.alloc (.cells #[.int .u64 0] 22)) (n := w6.heap.size + 1) #[.map (some w.heap.size)] 52 (by simp)).cell 0) ((H6.out.1.alloc _).alloc _))
      go_wp2_with fail
      refine (SS.out).mono ?_
      rintro e w8 ⟨v, ss, rfl, h1, h2, h3, h4⟩
      obtain ⟨av, capv, hcv, _, hnv, hrowv⟩ := (ownU_of_row h1).row u64T.hc
      subst hcv
      have hO : Own (fun x : Int => [Value.int .u64 x]) 1 22 w8 (.slice (some ⟨w6.heap.size, 0, none⟩) 1 1) [0] := ownU_new (((Blk.new w6 #[.int .u64 0] 22).alloc (.cells #[.map (some w.heap.size)] 52)) |> (Chg.ofBelow (S := NoChg) h4).blk <| (fun h => h))
      have c8 : Chg NoChg w w8 := by
        have d2 : Chg NoChg w w6 := (((Chg.refl NoChg w).alloc (.map #[] 0)).trans' HC2.out).trans H6.out.2.2 (fun k hk => .inr (by have hk2 : k = w.heap.size := hk; omega))
        exact ((d2.alloc _).alloc _).trans' (Chg.ofBelow h4)
      have HH := hide (And.intro hrowv (And.intro hnv (And.intro hO (And.intro h3 c8))))
      have hlen := h2
      clear h1 h3 h4 hrowv hnv hO c8
      go_wp2_with (at_builtin; refine wpList_append_rec u64T rfl (.tmp 21) (.tmp 24) rfl (.slice (some ⟨w6.heap.size, 0, none⟩) 1 1) [0] rfl HH.out.2.2.1 av capv ss rfl HH.out.2.1 HH.out.1 (by simp [maxLen]; omega) (by simp; omega) ?_; intro v' w9 hown9 hc9 hv9)
      have H9 := hide (And.intro hown9 hc9)
      clear hown9 hc9 hv9
      go_wp2
      go_ret
      refine ⟨_, [0] ++ ss, rfl, H9.out.1, by simp; omega, fun x => ?_, ?_⟩
      · rw [List.mem_append, HH.out.2.2.2.1 x, H6.out.2.1 x]
        simp only [List.mem_cons, List.not_mem_nil, or_false]
        by_cases hx : x = 0 <;> simp [hx]
      · refine HH.out.2.2.2.2.trans H9.out.2 (fun k hk => .inr ?_)
        have hk2 : w6.heap.size = k := by simpa [Value.ownBlock] using hk
        have h5 : w.heap.size + 1 ≤ w1.heap.size := by simpa using HC2.out.size
        have h6 : w1.heap.size ≤ w6.heap.size := H6.out.2.2.size
        omega
end Go.Proofs.Ytofgajlpdnokdaa
