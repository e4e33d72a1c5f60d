/- Specs parsed: what the document's Parse tells. Condition: at most 1000 bytes. -/
import Derived.Test.YtofgajlpdnokdaaGreatDoorSRText
import Derived.BigRegion
namespace Go.Proofs.YtofgajlpdnokdaaGreatDoor
set_option linter.unusedVariables false
open Go.Shelf Go.RowKit Go.Sort Go.Lib

/-- Bytes, and what Parse tells of them. -/
def SpIs (l : List UInt8) (e : Ending) : Prop :=
  (∃ s : Spc, IsSp l s ∧ e = .returned (.tuple #[.agg #[.int .i64 s.id, .int .i64 s.par, .bool s.leaf, .int .u64 (s.real.f : Int), .int .u64 (s.real.l : Int), .int .u64 (s.real.r : Int), .int .u64 (s.share.f : Int), .int .u64 (s.share.l : Int), .int .u64 (s.share.r : Int), .int .u64 (s.upper.f : Int), .int .u64 (s.upper.l : Int), .int .u64 (s.upper.r : Int), .int .i64 s.pk, .int .i64 s.bt], .int .i64 0])) ∨ ((∀ s, ¬ IsSp l s) ∧ e = .returned (.tuple #[.agg #[.int .i64 0, .int .i64 0, .bool false, .int .u64 0, .int .u64 0, .int .u64 0, .int .u64 0, .int .u64 0, .int .u64 0, .int .u64 0, .int .u64 0, .int .u64 0, .int .i64 0, .int .i64 0], .int .i64 2]))
theorem SpIs.det (l : List UInt8) : ∃ (s : Spc) (E : Int), ∀ e, SpIs l e → e = .returned (.tuple #[.agg #[.int .i64 s.id, .int .i64 s.par, .bool s.leaf, .int .u64 (s.real.f : Int), .int .u64 (s.real.l : Int), .int .u64 (s.real.r : Int), .int .u64 (s.share.f : Int), .int .u64 (s.share.l : Int), .int .u64 (s.share.r : Int), .int .u64 (s.upper.f : Int), .int .u64 (s.upper.l : Int), .int .u64 (s.upper.r : Int), .int .i64 s.pk, .int .i64 s.bt], .int .i64 E]) := by
  by_cases h : ∃ s, IsSp l s
  · obtain ⟨s, hp⟩ := h
    refine ⟨s, 0, fun e he => ?_⟩
    rcases he with ⟨s', hp', rfl⟩ | ⟨hno, _⟩
    · obtain rfl := hp.inj hp'
      rfl
    · exact absurd hp (hno s)
  · refine ⟨⟨0, 0, false, ⟨0, 0, 0⟩, ⟨0, 0, 0⟩, ⟨0, 0, 0⟩, 0, 0⟩, 2, fun e he => ?_⟩
    rcases he with ⟨s', hp', rfl⟩ | ⟨hno, rfl⟩
    · exact absurd ⟨s', hp'⟩ h
    · rfl

theorem crv_known (l : List UInt8) : ∃ (c : Crv) (E : Int), (∀ e, CrvIs l e → e = .returned (.tuple #[.agg #[.int .u64 (c.f : Int), .int .u64 (c.l : Int), .int .u64 (c.r : Int)], .int .i64 E])) ∧ ((E = 0 ∧ IsCw l c) ∨ (E = 2 ∧ ∀ c, ¬ IsCw l c)) := by
  by_cases h : ∃ c, IsCw l c
  · obtain ⟨c, hp⟩ := h
    refine ⟨c, 0, fun e he => ?_, .inl ⟨rfl, hp⟩⟩
    rcases he with ⟨c', hp', rfl⟩ | ⟨hno, _⟩
    · obtain rfl := hp.inj hp'
      rfl
    · exact absurd hp (hno c)
  · refine ⟨⟨0, 0, 0⟩, 2, fun e he => ?_, .inr ⟨rfl, fun c hp => h ⟨c, hp⟩⟩⟩
    rcases he with ⟨c', hp', rfl⟩ | ⟨hno, rfl⟩
    · exact absurd ⟨c', hp'⟩ h
    · rfl

/-- Known ahead: the word's curve, or that it has none. -/
theorem crv_case (l : List UInt8) : (∃ c : Crv, IsCw l c ∧ ∀ e, CrvIs l e → e = .returned (.tuple #[.agg #[.int .u64 (c.f : Int), .int .u64 (c.l : Int), .int .u64 (c.r : Int)], .int .i64 0])) ∨
    ((∀ c, ¬ IsCw l c) ∧ ∀ e, CrvIs l e → e = .returned (.tuple #[.agg #[.int .u64 0, .int .u64 0, .int .u64 0], .int .i64 2])) := by
  by_cases h : ∃ c, IsCw l c
  · obtain ⟨c, hp⟩ := h
    refine .inl ⟨c, hp, fun e he => ?_⟩
    rcases he with ⟨c', hp', rfl⟩ | ⟨hno, _⟩
    · obtain rfl := hp.inj hp'
      rfl
    · exact absurd hp (hno c)
  · refine .inr ⟨fun c hp => h ⟨c, hp⟩, fun e he => ?_⟩
    rcases he with ⟨c', hp', rfl⟩ | ⟨hno, rfl⟩
    · exact absurd ⟨c', hp'⟩ h
    · rfl

/-- One word that fits no spec: no spec's text. -/
theorem NoSp.num {l : List UInt8} {ws : List (List UInt8)} (hw : pieces 32 l = ws) (k : Nat) (x : List UInt8) (hx : ws[k]? = some x) (hk : k = 1 ∨ k = 2 ∨ k = 6 ∨ k = 7) (h : ∀ u : Nat, u < 9223372036854775808 → x ≠ Lib.decDigits u) : ∀ s, ¬ IsSp l s := by
  intro s hs
  rw [hs.words] at hw
  obtain ⟨_, ⟨n0, n1, n2, n3⟩, f0, f1, f2, f3, _⟩ := hs
  subst hw
  rcases hk with rfl | rfl | rfl | rfl
  · exact h s.id.toNat (by omega) (by simpa [sWords] using hx.symm)
  · exact h s.par.toNat (by omega) (by simpa [sWords] using hx.symm)
  · exact h s.pk.toNat (by omega) (by simpa [sWords] using hx.symm)
  · exact h s.bt.toNat (by omega) (by simpa [sWords] using hx.symm)
theorem NoSp.crv {l : List UInt8} {ws : List (List UInt8)} (hw : pieces 32 l = ws) (k : Nat) (x : List UInt8) (hx : ws[k]? = some x) (hk : k = 3 ∨ k = 4 ∨ k = 5) (h : ∀ c, ¬ IsCw x c) : ∀ s, ¬ IsSp l s := by
  intro s hs
  rw [hs.words] at hw
  obtain ⟨_, _, f0, f1, f2, f3, f4, f5, f6⟩ := hs
  subst hw
  rcases hk with rfl | rfl | rfl
  · exact h s.real ⟨by simpa [sWords] using hx.symm, f4⟩
  · exact h s.share ⟨by simpa [sWords] using hx.symm, f5⟩
  · exact h s.upper ⟨by simpa [sWords] using hx.symm, f6⟩
theorem NoSp.kind {l : List UInt8} {ws : List (List UInt8)} (hw : pieces 32 l = ws) (x : List UInt8) (hx : ws[0]? = some x) (h : ∀ b, x ≠ kindW b) : ∀ s, ¬ IsSp l s := by
  intro s hs
  rw [hs.words] at hw
  subst hw
  exact h s.leaf (by simpa [sWords] using hx.symm)

theorem word_size2 (s x : ByteArray) (h : x.data.toList ∈ pieces 32 s.data.toList) (hs : s.size ≤ 1000) : x.size ≤ 1000 := by
  have := piece_length 32 s.data.toList _ h
  simp at this
  omega

def spcZ (w : World) (g : Nat) : Prop := w.cell? ⟨g, 0, none⟩ = some (.int .i64 0) ∧ w.cell? ⟨g, 1, none⟩ = some (.int .i64 0) ∧ w.cell? ⟨g, 2, none⟩ = some (.bool false) ∧ w.cell? ⟨g, 3, none⟩ = some (.int .u64 0) ∧ w.cell? ⟨g, 4, none⟩ = some (.int .u64 0) ∧ w.cell? ⟨g, 5, none⟩ = some (.int .u64 0) ∧ w.cell? ⟨g, 6, none⟩ = some (.int .u64 0) ∧ w.cell? ⟨g, 7, none⟩ = some (.int .u64 0) ∧ w.cell? ⟨g, 8, none⟩ = some (.int .u64 0) ∧ w.cell? ⟨g, 9, none⟩ = some (.int .u64 0) ∧ w.cell? ⟨g, 10, none⟩ = some (.int .u64 0) ∧ w.cell? ⟨g, 11, none⟩ = some (.int .u64 0) ∧ w.cell? ⟨g, 12, none⟩ = some (.int .i64 0) ∧ w.cell? ⟨g, 13, none⟩ = some (.int .i64 0)
theorem spc_cells0 {w : World} {g : Nat} (hb : Blk w g #[.int .i64 0, .int .i64 0, .bool false, .int .u64 0, .int .u64 0, .int .u64 0, .int .u64 0, .int .u64 0, .int .u64 0, .int .u64 0, .int .u64 0, .int .u64 0, .int .i64 0, .int .i64 0] 26) : spcZ w g :=
  ⟨hb.cell 0, hb.cell 1, hb.cell 2, hb.cell 3, hb.cell 4, hb.cell 5, hb.cell 6, hb.cell 7, hb.cell 8, hb.cell 9, hb.cell 10, hb.cell 11, hb.cell 12, hb.cell 13⟩


end Go.Proofs.YtofgajlpdnokdaaGreatDoor
