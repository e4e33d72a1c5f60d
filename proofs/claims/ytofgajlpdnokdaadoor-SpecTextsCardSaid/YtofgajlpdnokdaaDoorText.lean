/- packet.Text: four numbers in digits, with blanks between. Condition: the library's tables and errors are what it lays. -/
import Derived.Test.YtofgajlpdnokdaaDoorDigits
import Derived.Test.YtofgajlpdnokdaaDoorRec
import Derived.Test.YtofgajlpdnokdaaDoorTxt
import Derived.Deep.QuietTactic
import Derived.BigQuiet
import Derived.Outline
namespace Go.Proofs.YtofgajlpdnokdaaDoor
set_option linter.unusedVariables false
open Go.Shelf Go.RowKit Go.Sort Go.Lib

def bs (l : List UInt8) : ByteArray := ⟨l.toArray⟩
theorem bs_list (l : List UInt8) : (bs l).data.toList = l := by simp [bs]
theorem bs_inj {a b : List UInt8} (h : bs a = bs b) : a = b := by rw [← bs_list a, h, bs_list]
theorem bs_of (s : ByteArray) : bs s.data.toList = s := by simp [bs]
def strC (s : ByteArray) : List Value := [.string s]
theorem strR : RecT Tryd.prog strC 1 67 9 16 (⟨#[]⟩ : ByteArray) :=
  ⟨Tryd.underlying67, info_rec (by kernel_rfl), by omega, fun _ => rfl, fun x u hu => by
    simp only [strC, List.mem_singleton] at hu
    subst hu
    rfl⟩

theorem Blk.row1 (w : World) (s : ByteArray) (e : TypeId) : RowAt strC 1 (w.alloc (.cells #[.string s] e)) (some ⟨w.heap.size, 0, none⟩) [s] := by
  intro i hi
  obtain rfl : i = 0 := by simpa using hi
  refine ⟨w.heap.size, 0, rfl, fun j u hu => ?_⟩
  simp only [List.getElem_cons_zero, strC] at hu
  have hj : j = 0 := by
    have := (List.getElem?_eq_some_iff.1 hu).1
    simpa using this
  subst hj
  rw [(Blk.new w #[.string s] e).cell]
  simpa using hu

theorem var_keep {P : Program} {w w' : World} {n : String} {cs : Array Value} (h : w.var? P n = some cs) (c : Chg NoChg w w') : w'.var? P n = some cs := by
  unfold World.var? at *
  cases hg : P.globalNamed n with
  | none => rw [hg] at h; cases h
  | some g =>
    simp only [hg, Option.bind_some] at h ⊢
    have hlt : g < w.heap.size := by
      rcases Nat.lt_or_ge g w.heap.size with h' | h'
      · exact h'
      · rw [Array.getElem?_eq_none h'] at h; simp at h
    rw [c.block g hlt (fun h => h.elim)]
    exact h

/-- What the library lays. -/
structure Door (w : World) : Prop where
  tab : Lib.TabIs Tryd.prog w "internal/strconv.uint64pow10" .u64 Lib.pow10Tab
  syn : ∃ tp p, w.var? Tryd.prog "strconv.ErrSyntax" = some #[.iface tp p]
  rng : ∃ tp p, w.var? Tryd.prog "strconv.ErrRange" = some #[.iface tp p]
  ml : ∃ m, w.cell? ⟨5, 0, none⟩ = some (.int .i64 m)

theorem Door.keep {w w' : World} (h : Door w) (c : Chg NoChg w w') : Door w' := by
  obtain ⟨a, ⟨t1, p1, b⟩, ⟨t2, p2, d⟩, ⟨m, e⟩⟩ := h
  exact ⟨var_keep a c, ⟨t1, p1, var_keep b c⟩, ⟨t2, p2, var_keep d c⟩, ⟨m, (c.cell (cell_lt e) (fun h => h)).trans e⟩⟩

theorem fmt_any (u : Nat) (hu64 : u < 18446744073709551616) (w : World) (hd : Door w) :
    Calls Tryd.prog 33 #[.int .u64 (u : Int), .int .i64 10] w fun e w' => e = .returned (.string (bs (Lib.decDigits u))) ∧ Chg NoChg w w' :=
  (formatUint_any u hu64 w hd.tab).mono fun e w' h => ⟨h.1, Chg.ofBelow h.2⟩

set_option maxRecDepth 100000 in
theorem vwId_any (i t : Nat) (c n : Int) (w : World) : Calls Tryd.prog 29 #[.agg #[.int .u64 (i : Int), .int .i64 c, .int .i64 n, .int .u64 (t : Int)]] w fun e w' => e = .returned (.int .u64 (i : Int)) ∧ Chg NoChg w w' := by
  go_enter Tryd.func29, Tryd.ntmps29
  go_wp2
  go_ret
  refine ⟨rfl, ?_⟩
  (repeat' (first | (with_reducible exact Chg.refl _ _) | (with_reducible assumption) | (with_reducible refine Chg.alloc ?_ _) | (with_reducible refine Chg.drewN ?_ _) | (with_reducible refine Chg.drew ?_) | (with_reducible refine Chg.setCell ?_ _ ?_) | (apply Or.inl; with_reducible rfl) | (apply Or.inl; simp; done) | (apply Or.inr; simp; done) | (apply Or.inr; simp; omega)))
set_option maxRecDepth 100000 in
theorem vwAt_any (i t : Nat) (c n : Int) (w : World) : Calls Tryd.prog 32 #[.agg #[.int .u64 (i : Int), .int .i64 c, .int .i64 n, .int .u64 (t : Int)]] w fun e w' => e = .returned (.int .u64 (t : Int)) ∧ Chg NoChg w w' := by
  go_enter Tryd.func32, Tryd.ntmps32
  go_wp2
  go_ret
  refine ⟨rfl, ?_⟩
  (repeat' (first | (with_reducible exact Chg.refl _ _) | (with_reducible assumption) | (with_reducible refine Chg.alloc ?_ _) | (with_reducible refine Chg.drewN ?_ _) | (with_reducible refine Chg.drew ?_) | (with_reducible refine Chg.setCell ?_ _ ?_) | (apply Or.inl; with_reducible rfl) | (apply Or.inl; simp; done) | (apply Or.inr; simp; done) | (apply Or.inr; simp; omega)))
set_option maxRecDepth 100000 in
theorem vwClass_any (i t : Nat) (c : Nat) (n : Int) (hc : c < 9223372036854775808) (w : World) : Calls Tryd.prog 30 #[.agg #[.int .u64 (i : Int), .int .i64 (c : Int), .int .i64 n, .int .u64 (t : Int)]] w fun e w' => e = .returned (.int .u64 (c : Int)) ∧ Chg NoChg w w' := by
  go_enter Tryd.func30, Tryd.ntmps30
  go_wp2
  go_ret
  refine ⟨rfl, ?_⟩
  (repeat' (first | (with_reducible exact Chg.refl _ _) | (with_reducible assumption) | (with_reducible refine Chg.alloc ?_ _) | (with_reducible refine Chg.drewN ?_ _) | (with_reducible refine Chg.drew ?_) | (with_reducible refine Chg.setCell ?_ _ ?_) | (apply Or.inl; with_reducible rfl) | (apply Or.inl; simp; done) | (apply Or.inr; simp; done) | (apply Or.inr; simp; omega)))
set_option maxRecDepth 100000 in
theorem vwLength_any (i t : Nat) (c : Int) (n : Nat) (hn : n < 9223372036854775808) (w : World) : Calls Tryd.prog 31 #[.agg #[.int .u64 (i : Int), .int .i64 c, .int .i64 (n : Int), .int .u64 (t : Int)]] w fun e w' => e = .returned (.int .u64 (n : Int)) ∧ Chg NoChg w w' := by
  go_enter Tryd.func31, Tryd.ntmps31
  go_wp2
  go_ret
  refine ⟨rfl, ?_⟩
  (repeat' (first | (with_reducible exact Chg.refl _ _) | (with_reducible assumption) | (with_reducible refine Chg.alloc ?_ _) | (with_reducible refine Chg.drewN ?_ _) | (with_reducible refine Chg.drew ?_) | (with_reducible refine Chg.setCell ?_ _ ?_) | (apply Or.inl; with_reducible rfl) | (apply Or.inl; simp; done) | (apply Or.inr; simp; done) | (apply Or.inr; simp; omega)))

/-- strings.Join of a slice that the call itself made. -/
theorem strJoin_any (w : World) (v : Value) (x : ByteArray) (l : List ByteArray) (sep : ByteArray) (hown : Own strC 1 9 w v (x :: l)) (hlen : (Lib.join ((x :: l).map (·.data.toList)) sep.data.toList).length ≤ 140737488355328) (hN : (x :: l).length ≤ 140737488355328) :
    Calls Tryd.prog 34 #[v, .string sep] w fun e w' => e = .returned (.string (bs (Lib.join ((x :: l).map (·.data.toList)) sep.data.toList))) ∧ Chg NoChg w w' := by
  obtain ⟨a, cap, rfl, hcap, -, hrow⟩ := Own.row (sz := 1) (cells := strC) (fun _ => rfl) hown
  obtain ⟨g, o, rfl, h0⟩ := hrow 0 (by simp)
  have hcells : ∀ (j : Nat) y, (x :: l)[j]? = some y → w.cell? ⟨g, o + j, none⟩ = some (.string y) := by
    intro j y hj
    obtain ⟨hj1, hj2⟩ := List.getElem?_eq_some_iff.1 hj
    obtain ⟨g', o', he, hc⟩ := hrow j hj1
    obtain ⟨rfl, rfl⟩ : g = g' ∧ o = o' := by simpa using he
    have := hc 0 (.string y) (by rw [hj2]; rfl)
    simpa using this
  exact (Tryd.strings_Join g o cap (x :: l) sep w hcells (cell_lt (hcells 0 x rfl)) hN hcap hlen).mono fun e w' h => ⟨h.1, Chg.ofBelow h.2⟩
end Go.Proofs.YtofgajlpdnokdaaDoor
