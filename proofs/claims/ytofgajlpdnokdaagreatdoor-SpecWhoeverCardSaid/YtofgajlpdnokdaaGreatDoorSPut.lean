/- spec.Text's closure: a number more. Conditions: the number is not below 0; the library's tables are what it lays. -/
import Derived.Test.YtofgajlpdnokdaaGreatDoorSRCurve
import Derived.Test.YtofgajlpdnokdaaGreatDoorBase
import Derived.Laws.EntriesVeiled
namespace Go.Proofs.YtofgajlpdnokdaaGreatDoor
set_option linter.unusedVariables false
open Go.Shelf Go.RowKit Go.Sort Go.Lib
attribute [local go_sem] yieldC

theorem own_one {w : World} {g : Nat} {s : ByteArray} (h : Blk w g #[.string s] 9) : Own strC 1 9 w (.slice (some ⟨g, 0, none⟩) 1 1) [s] :=
  ⟨by simp [flatC, strC], .inr ⟨g, 1, #[.string s], rfl, Nat.zero_le _, h, Nat.le_refl _, by simp [maxLen], by simp, by simp [flatC, strC]⟩⟩

/-- A cell b with a slice of texts of the call's own, whose blocks are from B on. -/
structure LSt (B b : Nat) (w : World) (v : Value) (L : List ByteArray) : Prop where
  blk : Blk w b #[v] 46
  own : Own strC 1 9 w v L
  lt : ∀ g, v.ownBlock = some g → B ≤ g ∧ g ≠ b

theorem LSt.keep {B b : Nat} {w w' : World} {v : Value} {L : List ByteArray} (h : LSt B b w v L) (c : Chg NoChg w w') : LSt B b w' v L :=
  ⟨c.blk h.blk (fun h => h), h.own.keep c (fun _ _ h => h), h.lt⟩

/-- The store behind an append. -/
theorem LSt.put {B b : Nat} {w w1 w2 : World} {v v2 : Value} {L L2 : List ByteArray} {o : Obj} (h : LSt B b w v L) (hB : B ≤ w.heap.size) (c1 : Chg NoChg w w1) (hown : Own strC 1 9 w2 v2 L2)
    (hc : Chg (fun k => v.ownBlock = some k) (w1.alloc o) w2) (hv : v2.ownBlock = v.ownBlock ∨ v2.ownBlock = some (w1.heap.size + 1)) :
    LSt B b (w2.setCell ⟨b, 0, none⟩ v2) v2 L2 ∧ Chg (fun k => k = b ∨ v.ownBlock = some k) w (w2.setCell ⟨b, 0, none⟩ v2) := by
  have hb := h.blk.lt
  have hs := c1.size
  have hlt : ∀ g, v2.ownBlock = some g → B ≤ g ∧ g ≠ b := by
    intro g hg
    rcases hv with e | e
    · rw [e] at hg; exact h.lt g hg
    · rw [e] at hg
      have := Option.some.inj hg
      exact ⟨by omega, by omega⟩
  have c2 : Chg (fun k => k = b ∨ v.ownBlock = some k) w w2 := ((c1.alloc o).mono (fun k hk => hk.elim)).trans hc (fun k hk => .inl (.inr hk))
  have b2 : Blk w2 b #[v] 46 := hc.blk ((c1.blk h.blk (fun h => h)).alloc o) (fun hk => (h.lt b hk).2 rfl)
  refine ⟨⟨b2.set' 0 v2 (by simp), ?_, hlt⟩, c2.setCell v2 (.inl (.inl rfl))⟩
  exact hown.keep ((Chg.refl (fun k => k = b) w2).setCell v2 (.inl rfl)) (fun k hk e => (hlt k hk).2 e)

set_option maxRecDepth 100000 in
set_option maxHeartbeats 4000000 in
theorem s13Text1_any (B b n : Nat) (hn : n < 9223372036854775808) (w : World) (v : Value) (L : List ByteArray) (hB : B ≤ w.heap.size) (hL : L.length ≤ 100) (h : LSt B b w v L) (hd : Door w) :
    Calls Tryz.prog 17 #[.int .i64 (n : Int), .pointer (some ⟨b, 0, none⟩)] w fun e w' => e = .returned (.tuple #[]) ∧ ∃ v', LSt B b w' v' (L ++ [bs (Lib.decDigits n)]) ∧ Chg (fun k => k = b ∨ v.ownBlock = some k) w w' := by
  have HL := hide h
  have HD := hide hd
  have HI := hide (itoa_any n hn)
  have HBs := hide hB
  have hcell : ∀ x, (graft NoChg w x).cell? ⟨b, 0, none⟩ = some v := fun x => (HL.out.keep (chg_graft NoChg w x)).blk.cell 0
  generalize Lib.decDigits n = d at HI ⊢
  clear h hd hB
  go_enter Tryz.func17, Tryz.ntmps17
  go_wp2
  refine wp_region_ord [1] [0] [2, 3] [4, 5] (graft (NoChg) (w)) (by kernel_rfl) (by kernel_rfl) ?_ (graft_of_chg (by (repeat' (first | (with_reducible exact Chg.refl _ _) | (with_reducible assumption) | (with_reducible refine Chg.alloc ?_ _) | (with_reducible refine Chg.drewN ?_ _) | (with_reducible refine Chg.drew ?_) | (with_reducible refine Chg.setCell ?_ _ ?_) | (apply Or.inl; with_reducible rfl) | (apply Or.inl; simp; done) | (apply Or.inr; simp; done) | (apply Or.inr; simp; omega))))) ?_
  · exact fun _ _ _ _ _ h => h
  simp only [pick, List.getElem?_toArray, List.getElem?_cons_zero, List.getElem?_cons_succ]
  iterate 1 (refine wpYield_step (fun K hK => ?_); go_simp; refine hK _ ?_; clear hK K)
  refine wpYield_nil ?_
  iterate 1 (refine wpYield_step (fun K hK => ?_); go_simp; refine hK _ ?_; clear hK K)
  refine wpYield_nil ?_
  intro _ hw'
  obtain ⟨xo, hw''⟩ := hw'
  subst hw''
  simp only [wpMakes]
  have c3 := chg_graft NoChg w xo
  generalize graft NoChg w xo = w3 at c3 ⊢
  clear hcell
  go_wp2_with fail
  refine (HI.out _ (HD.out.keep c3)).mono ?_
  rintro e w4 ⟨rfl, d4⟩
  have c4 := c3.trans' d4
  clear d4 c3
  go_wp2
  refine ⟨graft_of_chg c4, ?_⟩
  go_wp2
  refine ⟨graft_of_chg (c4.alloc _), ?_⟩
  have C4 := hide c4
  clear c4
  go_wp2_with (at_builtin; refine wpList_append_rec strR rfl (.tmp 3) (.tmp 6) rfl _ L rfl ((HL.out.own.keep C4.out (fun _ _ h => h)).keep ((Chg.refl NoChg _).alloc _) (fun _ _ h => h)) _ _ [bs d] rfl ?a1 ?a2 ?a3 ?a4 ?a5)
  try (case a1 => intro h; cases h)
  case a2 => exact Blk.row1 _ _ 9
  case a3 => (try unfold maxLen); (try simp only [List.length_cons, List.length_nil]); omega
  case a4 => (try simp only [List.length_cons, List.length_nil]); omega
  intro v2 w2 hown hcc hv
  have HP := hide (HL.out.put HBs.out C4.out hown hcc hv)
  have hb2 := (hcc.blk ((C4.out.blk HL.out.blk (fun h => h)).alloc _) (fun hk => (HL.out.lt b hk).2 rfl))
  have q0 := hb2.cell 0
  have q1 := hb2.frozen 0
  simp at q0
  obtain ⟨a2, cap2, e2, -⟩ := Own.row (sz := 1) (cells := strC) (fun _ => rfl) hown
  rw [List.length_append, List.length_singleton] at e2
  subst e2
  clear hown hcc hv hb2 HL C4
  go_wp2
  go_end0
  exact ⟨rfl, _, HP.out.1, HP.out.2⟩
end Go.Proofs.YtofgajlpdnokdaaGreatDoor
