/- spec.Parse. Conditions: at most 1000 bytes; the library's tables and errors are what it lays. -/
import Derived.Test.YtofgajlpdnokdaaGreatDoorSRText
import Derived.Test.YtofgajlpdnokdaaGreatDoorSpecs
namespace Go.Proofs.YtofgajlpdnokdaaGreatDoor
set_option linter.unusedVariables false
open Go.Shelf Go.RowKit Go.Sort Go.Lib

/-- The state: what was split, and the record. -/
structure SSt (w : World) (L : List ByteArray) (wr : World) (i p : Nat) (b : Bool) (r h u : Crv) (k t : Nat) : Prop where
  chg : Chg NoChg w wr
  res : Blk wr w.heap.size #[.int .i64 0, .int .i64 0, .bool false, .int .u64 0, .int .u64 0, .int .u64 0, .int .u64 0, .int .u64 0, .int .u64 0, .int .u64 0, .int .u64 0, .int .u64 0, .int .i64 0, .int .i64 0] 26
  spl : Blk wr (w.heap.size + 1) (L.map Value.string).toArray 9
  box : Blk wr (w.heap.size + 2) #[.int .i64 (i : Int), .int .i64 (p : Int), .bool b, .int .u64 (r.f : Int), .int .u64 (r.l : Int), .int .u64 (r.r : Int), .int .u64 (h.f : Int), .int .u64 (h.l : Int), .int .u64 (h.r : Int), .int .u64 (u.f : Int), .int .u64 (u.l : Int), .int .u64 (u.r : Int), .int .i64 (k : Int), .int .i64 (t : Int)] 26
section
variable {w wr w' : World} {L : List ByteArray} {i p : Nat} {b : Bool} {r h u : Crv} {k t : Nat}
theorem SSt.keep {S : Nat → Prop} (x : SSt w L wr i p b r h u k t) (c : Chg S wr w') (hS : ∀ j, S j → w.heap.size + 2 < j) : SSt w L w' i p b r h u k t :=
  ⟨x.chg.trans c (fun j hj => .inr (by have := hS j hj; omega)), c.blk x.res (fun hj => by have := hS _ hj; omega), c.blk x.spl (fun hj => by have := hS _ hj; omega), c.blk x.box (fun hj => by have := hS _ hj; omega)⟩
theorem SSt.keep0 (x : SSt w L wr i p b r h u k t) (c : Chg NoChg wr w') : SSt w L w' i p b r h u k t := x.keep c (fun j hj => hj.elim)
theorem SSt.word (x : SSt w L wr i p b r h u k t) (j : Nat) (hj : j < L.length) : wr.cell? ⟨w.heap.size + 1, j, none⟩ = some (.string L[j]) := by
  rw [Blk.cell x.spl]
  simp [hj]
theorem SSt.lts (x : SSt w L wr i p b r h u k t) : w.heap.size + 2 < wr.heap.size := x.box.lt
theorem SSt.set_id (x : SSt w L wr i p b r h u k t) (v : Nat) : SSt w L (wr.setCell ⟨w.heap.size + 2, 0, none⟩ (.int .i64 (v : Int))) v p b r h u k t :=
  ⟨x.chg.setCell _ (.inr (by simp)), x.res.other _ (by simp), x.spl.other _ (by simp), x.box.set' _ _ (by simp)⟩
theorem SSt.set_par (x : SSt w L wr i p b r h u k t) (v : Nat) : SSt w L (wr.setCell ⟨w.heap.size + 2, 1, none⟩ (.int .i64 (v : Int))) i v b r h u k t :=
  ⟨x.chg.setCell _ (.inr (by simp)), x.res.other _ (by simp), x.spl.other _ (by simp), x.box.set' _ _ (by simp)⟩
theorem SSt.set_pk (x : SSt w L wr i p b r h u k t) (v : Nat) : SSt w L (wr.setCell ⟨w.heap.size + 2, 12, none⟩ (.int .i64 (v : Int))) i p b r h u v t :=
  ⟨x.chg.setCell _ (.inr (by simp)), x.res.other _ (by simp), x.spl.other _ (by simp), x.box.set' _ _ (by simp)⟩
theorem SSt.set_bt (x : SSt w L wr i p b r h u k t) (v : Nat) : SSt w L (wr.setCell ⟨w.heap.size + 2, 13, none⟩ (.int .i64 (v : Int))) i p b r h u k v :=
  ⟨x.chg.setCell _ (.inr (by simp)), x.res.other _ (by simp), x.spl.other _ (by simp), x.box.set' _ _ (by simp)⟩
theorem SSt.set_real (x : SSt w L wr i p b r h u k t) (c : Crv) : SSt w L (((wr.setCell ⟨w.heap.size + 2, 3, none⟩ (.int .u64 (c.f : Int))).setCell ⟨w.heap.size + 2, 4, none⟩ (.int .u64 (c.l : Int))).setCell ⟨w.heap.size + 2, 5, none⟩ (.int .u64 (c.r : Int))) i p b c h u k t :=
  ⟨((x.chg.setCell _ (.inr (by simp))).setCell _ (.inr (by simp))).setCell _ (.inr (by simp)), ((x.res.other _ (by simp)).other _ (by simp)).other _ (by simp), ((x.spl.other _ (by simp)).other _ (by simp)).other _ (by simp), ((x.box.set' _ _ rfl).set' _ _ rfl).set' _ _ (by simp)⟩
theorem SSt.set_share (x : SSt w L wr i p b r h u k t) (c : Crv) : SSt w L (((wr.setCell ⟨w.heap.size + 2, 6, none⟩ (.int .u64 (c.f : Int))).setCell ⟨w.heap.size + 2, 7, none⟩ (.int .u64 (c.l : Int))).setCell ⟨w.heap.size + 2, 8, none⟩ (.int .u64 (c.r : Int))) i p b r c u k t :=
  ⟨((x.chg.setCell _ (.inr (by simp))).setCell _ (.inr (by simp))).setCell _ (.inr (by simp)), ((x.res.other _ (by simp)).other _ (by simp)).other _ (by simp), ((x.spl.other _ (by simp)).other _ (by simp)).other _ (by simp), ((x.box.set' _ _ rfl).set' _ _ rfl).set' _ _ (by simp)⟩
theorem SSt.set_upper (x : SSt w L wr i p b r h u k t) (c : Crv) : SSt w L (((wr.setCell ⟨w.heap.size + 2, 9, none⟩ (.int .u64 (c.f : Int))).setCell ⟨w.heap.size + 2, 10, none⟩ (.int .u64 (c.l : Int))).setCell ⟨w.heap.size + 2, 11, none⟩ (.int .u64 (c.r : Int))) i p b r h c k t :=
  ⟨((x.chg.setCell _ (.inr (by simp))).setCell _ (.inr (by simp))).setCell _ (.inr (by simp)), ((x.res.other _ (by simp)).other _ (by simp)).other _ (by simp), ((x.spl.other _ (by simp)).other _ (by simp)).other _ (by simp), ((x.box.set' _ _ rfl).set' _ _ rfl).set' _ _ (by simp)⟩
end
theorem SSt.start (w : World) (L : List ByteArray) (b : Bool) : SSt w L (((w.alloc (.cells #[.int .i64 0, .int .i64 0, .bool false, .int .u64 0, .int .u64 0, .int .u64 0, .int .u64 0, .int .u64 0, .int .u64 0, .int .u64 0, .int .u64 0, .int .u64 0, .int .i64 0, .int .i64 0] 26)).alloc (.cells (L.map Value.string).toArray 9)).alloc (.cells #[.int .i64 0, .int .i64 0, .bool b, .int .u64 0, .int .u64 0, .int .u64 0, .int .u64 0, .int .u64 0, .int .u64 0, .int .u64 0, .int .u64 0, .int .u64 0, .int .i64 0, .int .i64 0] 26)) 0 0 b ⟨0, 0, 0⟩ ⟨0, 0, 0⟩ ⟨0, 0, 0⟩ 0 0 :=
  ⟨(((Chg.refl NoChg w).alloc _).alloc _).alloc _, ((Blk.new' _ _ rfl).alloc _).alloc _, (Blk.new' _ _ (by simp)).alloc _, Blk.new' _ _ (by simp)⟩

/-- What holds of the four numbers while they are read. -/
def VInv (x1 x2 x6 x7 : ByteArray) (left : Lit → Bool) (i p k t : Nat) : Prop :=
  i < 9223372036854775808 ∧ p < 9223372036854775808 ∧ k < 9223372036854775808 ∧ t < 9223372036854775808 ∧ (left (.int .i64 1) = false → x1.data.toList = Lib.decDigits i) ∧ (left (.int .i64 2) = false → x2.data.toList = Lib.decDigits p) ∧
  (left (.int .i64 6) = false → x6.data.toList = Lib.decDigits k) ∧ (left (.int .i64 7) = false → x7.data.toList = Lib.decDigits t)
theorem VInv.start (x1 x2 x6 x7 : ByteArray) : VInv x1 x2 x6 x7 (Maps.has D4) 0 0 0 0 :=
  ⟨by omega, by omega, by omega, by omega, (fun h => by cases h), (fun h => by cases h), (fun h => by cases h), (fun h => by cases h)⟩
theorem same_no {a b : Int} (h : a ≠ b) : (Lit.int .i64 a).sameKey (.int .i64 b) = false := by
  simp [Lit.sameKey, h]
section
variable {x1 x2 x6 x7 : ByteArray} {left : Lit → Bool} {i p k t v : Nat}
theorem VInv.s1 (h : VInv x1 x2 x6 x7 left i p k t) (hv : v < 9223372036854775808) (hp : x1.data.toList = Lib.decDigits v) : VInv x1 x2 x6 x7 (fun z => left z && !z.sameKey (.int .i64 1)) v p k t := by
  obtain ⟨h0, h1, h2, h3, g0, g1, g2, g3⟩ := h
  exact ⟨hv, h1, h2, h3, fun _ => hp, fun h => g1 (by simpa [same_no (show (2 : Int) ≠ 1 from by omega)] using h), fun h => g2 (by simpa [same_no (show (6 : Int) ≠ 1 from by omega)] using h), fun h => g3 (by simpa [same_no (show (7 : Int) ≠ 1 from by omega)] using h)⟩
theorem VInv.s2 (h : VInv x1 x2 x6 x7 left i p k t) (hv : v < 9223372036854775808) (hp : x2.data.toList = Lib.decDigits v) : VInv x1 x2 x6 x7 (fun z => left z && !z.sameKey (.int .i64 2)) i v k t := by
  obtain ⟨h0, h1, h2, h3, g0, g1, g2, g3⟩ := h
  exact ⟨h0, hv, h2, h3, fun h => g0 (by simpa [same_no (show (1 : Int) ≠ 2 from by omega)] using h), fun _ => hp, fun h => g2 (by simpa [same_no (show (6 : Int) ≠ 2 from by omega)] using h), fun h => g3 (by simpa [same_no (show (7 : Int) ≠ 2 from by omega)] using h)⟩
theorem VInv.s6 (h : VInv x1 x2 x6 x7 left i p k t) (hv : v < 9223372036854775808) (hp : x6.data.toList = Lib.decDigits v) : VInv x1 x2 x6 x7 (fun z => left z && !z.sameKey (.int .i64 6)) i p v t := by
  obtain ⟨h0, h1, h2, h3, g0, g1, g2, g3⟩ := h
  exact ⟨h0, h1, hv, h3, fun h => g0 (by simpa [same_no (show (1 : Int) ≠ 6 from by omega)] using h), fun h => g1 (by simpa [same_no (show (2 : Int) ≠ 6 from by omega)] using h), fun _ => hp, fun h => g3 (by simpa [same_no (show (7 : Int) ≠ 6 from by omega)] using h)⟩
theorem VInv.s7 (h : VInv x1 x2 x6 x7 left i p k t) (hv : v < 9223372036854775808) (hp : x7.data.toList = Lib.decDigits v) : VInv x1 x2 x6 x7 (fun z => left z && !z.sameKey (.int .i64 7)) i p k v := by
  obtain ⟨h0, h1, h2, h3, g0, g1, g2, g3⟩ := h
  exact ⟨h0, h1, h2, hv, fun h => g0 (by simpa [same_no (show (1 : Int) ≠ 7 from by omega)] using h), fun h => g1 (by simpa [same_no (show (2 : Int) ≠ 7 from by omega)] using h), fun h => g2 (by simpa [same_no (show (6 : Int) ≠ 7 from by omega)] using h), fun _ => hp⟩
end

/-- What holds of the three curves while they are read. -/
def WInv (x3 x4 x5 : ByteArray) (j : Nat) (r h u : Crv) : Prop :=
  r.fits ∧ h.fits ∧ u.fits ∧ (0 < j → x3.data.toList = cw r) ∧ (1 < j → x4.data.toList = cw h) ∧ (2 < j → x5.data.toList = cw u)
theorem WInv.start (x3 x4 x5 : ByteArray) : WInv x3 x4 x5 0 ⟨0, 0, 0⟩ ⟨0, 0, 0⟩ ⟨0, 0, 0⟩ :=
  ⟨⟨by simp, by simp, by simp⟩, ⟨by simp, by simp, by simp⟩, ⟨by simp, by simp, by simp⟩, fun h => by omega, fun h => by omega, fun h => by omega⟩
section
variable {x3 x4 x5 : ByteArray} {r h u c : Crv}
theorem WInv.s0 (x : WInv x3 x4 x5 0 r h u) (hc : IsCw x3.data.toList c) : WInv x3 x4 x5 1 c h u := by
  obtain ⟨h0, h1, h2, g0, g1, g2⟩ := x
  exact ⟨hc.2, h1, h2, fun _ => hc.1, fun h => by omega, fun h => by omega⟩
theorem WInv.s1 (x : WInv x3 x4 x5 1 r h u) (hc : IsCw x4.data.toList c) : WInv x3 x4 x5 2 r c u := by
  obtain ⟨h0, h1, h2, g0, g1, g2⟩ := x
  exact ⟨h0, hc.2, h2, fun _ => g0 (by omega), fun _ => hc.1, fun h => by omega⟩
theorem WInv.s2 (x : WInv x3 x4 x5 2 r h u) (hc : IsCw x5.data.toList c) : WInv x3 x4 x5 3 r h c := by
  obtain ⟨h0, h1, h2, g0, g1, g2⟩ := x
  exact ⟨h0, h1, hc.2, fun _ => g0 (by omega), fun _ => g1 (by omega), fun _ => hc.1⟩
end

theorem s13Text_any (i p : Nat) (b : Bool) (r h u : Crv) (k t : Nat) (hi : i < 9223372036854775808) (hp : p < 9223372036854775808) (hk : k < 9223372036854775808) (ht : t < 9223372036854775808) (hr : r.fits) (hh : h.fits) (hu : u.fits) (w : World) (hd : Door w) :
    Calls Tryz.prog 8 #[.agg #[.int .i64 (i : Int), .int .i64 (p : Int), .bool b, .int .u64 (r.f : Int), .int .u64 (r.l : Int), .int .u64 (r.r : Int), .int .u64 (h.f : Int), .int .u64 (h.l : Int), .int .u64 (h.r : Int), .int .u64 (u.f : Int), .int .u64 (u.l : Int), .int .u64 (u.r : Int), .int .i64 (k : Int), .int .i64 (t : Int)]] w fun e w' => e = .returned (.tuple #[.string (bs (sText ⟨(i : Int), (p : Int), b, r, h, u, (k : Int), (t : Int)⟩)), .int .i64 0]) ∧ Chg NoChg w w' := by
  cases b with
  | true => exact s13Text_true i p r h u k t hi hp hk ht hr hh hu w hd
  | false => exact s13Text_false i p r h u k t hi hp hk ht hr hh hu w hd
end Go.Proofs.YtofgajlpdnokdaaGreatDoor
