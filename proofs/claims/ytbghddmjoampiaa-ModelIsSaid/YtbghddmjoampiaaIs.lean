/- 'ModelIs': whether any option is one of some, told by slices.Contains, is what the plain loop tells: for every slice of options (at most 100: of more the law says nothing). -/
import Derived.Test.YtbghddmjoampiaaOpen
import Derived.BigQuiet
import Derived.WalkSpells
import Derived.WalkLawsBesides
import Derived.Outline
import Derived.Laws.StructEq
namespace Go.Proofs.Ytbghddmjoampiaa
set_option linter.unusedVariables false
open Go.RowKit

structure Opt where
  c : Int
  r : Int
def Opt.cells (p : Opt) : List Value := [.int .i64 p.c, .int .u8 p.r]
/-- Is one the option sought? -/
def Opt.isB (c r : Int) (p : Opt) : Bool := p.c == c && p.r == r

theorem Opt.of_fits {x : List Value} (h : Fits [some .i64, some .u8] x) : ∃ p : Opt, x = p.cells ∧ True := by
  obtain ⟨a, y, rfl, _, h⟩ := h.int1
  obtain ⟨b, y, rfl, _, h⟩ := h.int1
  have := h.nil0
  subst this
  exact ⟨⟨a, b⟩, rfl, trivial⟩

def isAny (l : List Opt) (c r : Int) : Bool := l.any (Opt.isB c r)

theorem isAny_succ (l : List Opt) (c r : Int) (k : Nat) (h : k < l.length) : isAny (l.take (k + 1)) c r = (isAny (l.take k) c r || Opt.isB c r l[k]) := by
  unfold isAny
  rw [List.take_succ_eq_append_getElem h, List.any_append]
  simp

theorem isAny_hit {l : List Opt} {c r : Int} {k : Nat} (h : k < l.length) (h1 : l[k].c = c) (h2 : l[k].r = r) : isAny l c r = true :=
  List.any_eq_true.2 ⟨l[k], List.getElem_mem h, by simp [Opt.isB, h1, h2]⟩

theorem isAny_miss {l : List Opt} {c r : Int} {k : Nat} (h : k < l.length) (hn : isAny (l.take k) c r = false) (h1 : ¬ (l[k].c = c ∧ l[k].r = r)) : isAny (l.take (k + 1)) c r = false := by
  rw [isAny_succ l c r k h, hn]
  simp only [Bool.false_or, Opt.isB, Bool.and_eq_false_iff, beq_eq_false_iff_ne]
  by_cases hc : l[k].c = c
  · exact .inr fun hr => h1 ⟨hc, hr⟩
  · exact .inl hc

theorem refIs (l : List Opt) (c r : Int) (a : Option Addr) (cap : Nat) (w : World) (hl : l.length ≤ 100) (hr : RowAt Opt.cells 2 w a l) :
    Calls Try.prog 11 #[.slice a l.length cap, .int .i64 c, .int .u8 r] w fun e w' => e = .returned (.bool (isAny l c r)) ∧ w = w' := by
  have HR := hide hr
  clear hr
  go_enter Try.func11, Try.ntmps11
  go_wp2
  go_loop [7] (fun i => ∃ k : Nat, k ≤ l.length ∧ i = .int .i64 k ∧ isAny (l.take k) c r = false) (fun i => l.length - (intOf i).toNat)
  case atStart => exact ⟨0, by omega, rfl, rfl⟩
  case round =>
    obtain ⟨k, hk, rfl, hn⟩ := hrel
    have HN := hide hn
    clear hn
    by_cases hlt : k < l.length
    · obtain ⟨g, o, rfl, hj⟩ := HR.out k hlt
      have g0 := hj 0 _ rfl
      have g1 := hj 1 _ rfl
      simp only [Nat.add_zero] at g0
      clear hj
      by_cases h1 : l[k].c = c
      · by_cases h2 : l[k].r = r
        · have b1 : (l[k].c == c) = true := beq_iff_eq.2 h1
          have b2 : (l[k].r == r) = true := beq_iff_eq.2 h2
          have H := hide (isAny_hit hlt h1 h2)
          clear h1 h2
          go_wp2
          go_ret
          exact ⟨by rw [H.out]; rfl, rfl⟩
        · have b1 : (l[k].c == c) = true := beq_iff_eq.2 h1
          have b2 : (l[k].r == r) = false := beq_eq_false_iff_ne.2 h2
          have H := hide (isAny_miss hlt HN.out (fun h => h2 h.2))
          clear h1 h2
          go_wp2
          go_round
          case rel => exact ⟨k + 1, by omega, by go_num, H.out⟩
          case measure => simp [intOf]; omega
      · have b1 : (l[k].c == c) = false := beq_eq_false_iff_ne.2 h1
        have H := hide (isAny_miss hlt HN.out (fun h => h1 h.1))
        clear h1
        go_wp2
        go_round
        case rel => exact ⟨k + 1, by omega, by go_num, H.out⟩
        case measure => simp [intOf]; omega
    · have hkl : k = l.length := by omega
      have H := HN.out
      rw [hkl, List.take_length] at H
      have HH := hide H
      clear H hkl
      go_wp2
      go_ret
      exact ⟨by rw [HH.out]; rfl, rfl⟩

theorem eqGuard_opt : Try.prog.eqGuardType Try.prog.depth 58 = false := by kernel_rfl
theorem stood_opt : Try.prog.stoodInHeld 58 = false := by kernel_rfl
attribute [local go_sem] eqGuard_opt stood_opt
theorem run_eq_opt (a b c d : Int) (w : World) : (binOp .eql 58 (.agg #[.int .i64 a, .int .u8 b]) (.agg #[.int .i64 c, .int .u8 d])).run Try.prog w = .ok (.bool (a == c && b == d)) w := by
  go_simp
  by_cases h1 : a = c <;> by_cases h2 : b = d <;> simp [h1, h2]
attribute [local go_sem ↓] run_eq_opt

/-- Where the first option sought stands; -1: nowhere. -/
def optIdx (l : List Opt) (c r : Int) : Int := if isAny l c r then ((l.findIdx (Opt.isB c r) : Nat) : Int) else -1

theorem optIdx_ge (l : List Opt) (c r : Int) : (0 ≤ optIdx l c r) ↔ isAny l c r = true := by
  unfold optIdx
  split
  · rename_i h; simp [h]
  · rename_i h; simp [h]

theorem idx_any (l : List Opt) (c r : Int) (a : Option Addr) (cap : Nat) (w : World) (hl : l.length ≤ 100) (hr : RowAt Opt.cells 2 w a l) :
    Calls Try.prog 36 #[.slice a l.length cap, .agg #[.int .i64 c, .int .u8 r]] w
      fun e w' => ∃ n : Int, e = .returned (.int .i64 n) ∧ (decide (0 ≤ n) = isAny l c r) ∧ Below w.heap.size w w' := by
  have HR := hide hr
  clear hr
  go_enter Try.func36, Try.ntmps36
  go_wp2
  go_loopw [8] (fun i wr => ∃ k : Nat, k ≤ l.length ∧ i = .int .i64 k ∧ isAny (l.take k) c r = false ∧ Below w.heap.size w wr ∧
      wr.cell? ⟨w.heap.size, 0, none⟩ = some (.int .i64 c) ∧ wr.cell? ⟨w.heap.size, 1, none⟩ = some (.int .u8 r)) (fun i _ => l.length - (intOf i).toNat)
  case atStart => exact ⟨0, by omega, rfl, rfl, (Below.refl _ _).alloc (Nat.le_refl _) _, by go_simp, by go_simp⟩
  case round =>
    obtain ⟨k, hk, rfl, hn, hbel, c0, c1⟩ := hrel
    have HN := hide hn
    clear hn
    by_cases hlt : k < l.length
    · obtain ⟨g, o, rfl, hj⟩ := HR.out k hlt
      have g0 := hj 0 _ rfl
      have g1 := hj 1 _ rfl
      simp only [Nat.add_zero] at g0
      have g0 := (hbel.cell (cell_lt g0)).trans g0
      have g1 := (hbel.cell (cell_lt g1)).trans g1
      have HB := hide hbel
      clear hj hbel
      have k0 : (0 : Int) ≤ (k : Int) := by omega
      have k1 : (k : Int) < (l.length : Int) := by omega
      go_wp2
      by_cases h1 : l[k].c = c ∧ l[k].r = r
      · have b1 : (c == l[k].c && r == l[k].r) = true := by simp [h1.1, h1.2]
        have H := hide (isAny_hit hlt h1.1 h1.2)
        clear h1
        go_wp2
        go_quiet (fail)
        go_wp2
        go_ret
        exact ⟨(k : Int), rfl, by rw [H.out]; simp, below_drewN HB.out _⟩
      · have b1 : (c == l[k].c && r == l[k].r) = false := by
          rw [Bool.eq_false_iff]
          intro h
          simp at h
          exact h1 ⟨h.1.symm, h.2.symm⟩
        have H := hide (isAny_miss hlt HN.out h1)
        clear h1
        go_wp2
        go_quiet (fail)
        go_wp2
        go_roundw
        case rel => exact ⟨k + 1, by omega, by go_num, H.out, below_drewN HB.out _, c0, c1⟩
        case measure => simp [intOf]; omega
    · have hkl : k = l.length := by omega
      have H := HN.out
      rw [hkl, List.take_length] at H
      have HH := hide H
      clear H hkl
      go_wp2
      go_ret
      exact ⟨-1, rfl, by rw [HH.out]; rfl, hbel⟩

theorem contains_any (l : List Opt) (c r : Int) (a : Option Addr) (cap : Nat) (w : World) (hl : l.length ≤ 100) (hr : RowAt Opt.cells 2 w a l) :
    Calls Try.prog 27 #[.slice a l.length cap, .agg #[.int .i64 c, .int .u8 r]] w
      fun e w' => e = .returned (.bool (isAny l c r)) ∧ Below w.heap.size w w' := by
  have HR := hide (idx_any l c r a cap (w.alloc (.cells #[.int .i64 c, .int .u8 r] 58)) hl (hr.below ((Below.refl _ _).alloc (Nat.le_refl _) _)))
  clear hr
  go_enter Try.func27, Try.ntmps27
  go_wp2_with fail
  refine HR.out.mono ?_
  rintro e w1 ⟨n, rfl, hn, hb⟩
  have HB := hide hb
  have HN := hide hn
  clear hb hn
  go_wp2
  go_ret
  exact ⟨by rw [← HN.out]; rfl, ((Below.refl _ _).alloc (Nat.le_refl _) _).trans (HB.out.mono (by simp))⟩

theorem is_any (l : List Opt) (c r : Int) (a : Option Addr) (cap : Nat) (w : World) (hl : l.length ≤ 100) (hr : RowAt Opt.cells 2 w a l) :
    Calls Try.prog 10 #[.slice a l.length cap, .int .i64 c, .int .u8 r] w fun e w' => e = .returned (.bool (isAny l c r)) ∧ Below w.heap.size w w' := by
  have HR := hide (contains_any l c r a cap w hl hr)
  clear hr
  go_enter Try.func10, Try.ntmps10
  go_wp2_with fail
  refine HR.out.mono ?_
  rintro e w1 ⟨rfl, hb⟩
  have HB := hide hb
  clear hb
  go_wp2
  go_ret
  exact ⟨rfl, HB.out⟩

theorem modelIs_walk (l : List Opt) (c r : Int) (a : Option Addr) (cap : Nat) (w : World) (hl : l.length ≤ maxLen) (hr : RowAt Opt.cells 2 w a l) :
    Calls Try.prog 3 #[.slice a l.length cap, .int .i64 c, .int .u8 r] w fun e w' => e = .returned (.bool true) ∧ Below w.heap.size w w' := by
  unfold maxLen at hl
  by_cases h : l.length ≤ 100
  · have H1 := hide (is_any l c r a cap w h hr)
    have H2 := hide (fun w' (hb : Below w.heap.size w w') => refIs l c r a cap w' h (hr.below hb))
    clear hr
    go_enter Try.func3, Try.ntmps3
    go_wp2_with fail
    refine H1.out.mono ?_
    rintro e w1 ⟨rfl, hb⟩
    have HB := hide hb
    clear hb
    go_wp2_with fail
    refine (H2.out w1 HB.out).mono ?_
    rintro e w2 ⟨rfl, rfl⟩
    have hbb : (isAny l c r == isAny l c r) = true := by simp
    go_wp2
    go_ret
    exact ⟨rfl, HB.out⟩
  · go_enter Try.func3, Try.ntmps3
    go_wp2
    go_ret
    exact ⟨rfl, Below.refl _ _⟩
end Go.Proofs.Ytbghddmjoampiaa
