/- packet.Parse. Conditions: at most 1000 bytes; the library's tables and errors are what it lays. -/
import Derived.Test.YtofgajlpdnokdaaDoorRParse
import Derived.WalkSpells
namespace Go.Proofs.YtofgajlpdnokdaaDoor
set_option linter.unusedVariables false
open Go.Shelf Go.RowKit Go.Sort Go.Lib

/-- What ParseUint tells of a text. -/
def NumIs (x : ByteArray) (e : Ending) : Prop :=
  (∃ u : Nat, u < 18446744073709551616 ∧ Lib.parseUintB 64 x.data.toList = .ok u ∧ e = .returned (.tuple #[.int .u64 (u : Int), .nilIface])) ∨
  ((∀ u : Nat, Lib.parseUintB 64 x.data.toList ≠ .ok u) ∧ ∃ (m N : Nat), e = .returned (.tuple #[.int .u64 (m : Int), .iface 127 (.pointer (some ⟨N, 0, none⟩))]))

theorem chg_bytes (w : World) (t : TypeId) (s : ByteArray) : Chg NoChg w (Lib.bytesWorld w t s) :=
  ⟨rfl, rfl, rfl, by rw [Lib.bytesWorld_size]; omega, fun k hk _ => Lib.bytesWorld_at_old w t s k hk⟩

theorem parseU_any (x : ByteArray) (w : World) (hd : Door w) (hs : x.size ≤ 1000) : Calls Tryd.prog 37 #[.string x, .int .i64 10, .int .i64 64] w fun e w' => NumIs x e ∧ Chg NoChg w w' := by
  cases hp : Lib.parseUintB 64 x.data.toList with
  | ok u =>
    refine (Tryd.strconv_ParseUint_10_at64_ok x (by omega) u hp w).mono fun e w' h => ⟨.inl ⟨u, parse_lt hp, hp, h.1⟩, ?_⟩
    rcases h.2 with rfl | rfl
    · exact Chg.refl _ _
    · exact chg_bytes _ _ _
  | range =>
    obtain ⟨tp, p, hv⟩ := hd.rng
    exact (Tryd.strconv_ParseUint_10_at64_range_var x (by omega) hp tp p w hv).mono fun e w' ⟨N, he, _, _, hb⟩ => ⟨.inr ⟨fun u h => (by rw [hp] at h; cases h), 18446744073709551615, N, he⟩, Chg.ofBelow hb⟩
  | _ =>
    obtain ⟨tp, p, hv⟩ := hd.syn
    have h1 : ∀ u, Lib.parseUintB 64 x.data.toList ≠ .ok u := fun u h => (by rw [hp] at h; cases h)
    exact (Tryd.strconv_ParseUint_10_at64_bad_var x (by omega) h1 (fun h => by rw [hp] at h; cases h) tp p w hv).mono fun e w' ⟨N, he, _, _, hb⟩ => ⟨.inr ⟨h1, 0, N, he⟩, Chg.ofBelow hb⟩

theorem digits_any (x : ByteArray) (w : World) : Calls Tryd.prog 38 #[.string x] w fun e w' => e = .returned (.bool (digitsB x)) ∧ Chg NoChg w w' :=
  (pkDigits_any x w).mono fun e w' h => ⟨h.1, Chg.ofBelow h.2⟩
theorem digits_dec (x : ByteArray) (u : Nat) (h : x.data.toList = Lib.decDigits u) : digitsB x = true := by
  unfold digitsB
  rw [h]
  have := dec_ne u
  simp only [Bool.and_eq_true, List.all_eq_true]
  refine ⟨fun b hb => ?_, by simpa using this⟩
  have := dec_digit u b hb
  simp [dig]
  omega

/-- strings.Split at a blank. -/
theorem split_any (s : ByteArray) (w : World) (hd : Door w) (hs : s.size ≤ 1000) : Calls Tryd.prog 36 #[.string s, .string ⟨#[32]⟩] w fun e w' => ∃ L : List ByteArray, L.map (fun b : ByteArray => b.data.toList) = pieces 32 s.data.toList ∧
    e = .returned (.slice (some ⟨w.heap.size, 0, none⟩) L.length L.length) ∧ w' = w.alloc (.cells (L.map Value.string).toArray 9) := by
  obtain ⟨m, hm⟩ := hd.ml
  refine (Tryd.strings_Split s ⟨#[32]⟩ m w (by omega) hm (by decide)).mono fun e w' ⟨h1, h2⟩ => ⟨_, splitB_pieces 32 s, ?_, h2⟩
  have hl : (Lib.splitB ⟨#[32]⟩ 0 (Lib.countB s ⟨#[32]⟩) s).length = Lib.countB s ⟨#[32]⟩ + 1 := Lib.splitB_all _ (by decide) _ _ _ rfl
  rw [hl]
  exact h1

/-- What holds of the numbers read so far. -/
def QInv (L : List ByteArray) (k a0 a1 a2 a3 : Nat) : Prop :=
  a0 < 18446744073709551616 ∧ a1 < 18446744073709551616 ∧ a2 < 18446744073709551616 ∧ a3 < 18446744073709551616 ∧
  (0 < k → L[0]?.map (fun x => Lib.parseUintB 64 x.data.toList) = some (.ok a0)) ∧ (1 < k → L[1]?.map (fun x => Lib.parseUintB 64 x.data.toList) = some (.ok a1)) ∧
  (2 < k → L[2]?.map (fun x => Lib.parseUintB 64 x.data.toList) = some (.ok a2)) ∧ (3 < k → L[3]?.map (fun x => Lib.parseUintB 64 x.data.toList) = some (.ok a3))
theorem QInv.start (L : List ByteArray) : QInv L 0 0 0 0 0 := ⟨by omega, by omega, by omega, by omega, fun h => by omega, fun h => by omega, fun h => by omega, fun h => by omega⟩
theorem QInv.s0 {L : List ByteArray} {a0 a1 a2 a3 u : Nat} (h : QInv L 0 a0 a1 a2 a3) (hu : u < 18446744073709551616) (hk : 0 < L.length) (hp : Lib.parseUintB 64 L[0].data.toList = .ok u) : QInv L 1 u a1 a2 a3 := by
  obtain ⟨h0, h1, h2, h3, p0, p1, p2, p3⟩ := h
  exact ⟨hu, h1, h2, h3, fun _ => by simp [hk, hp], fun h => by omega, fun h => by omega, fun h => by omega⟩
theorem QInv.s1 {L : List ByteArray} {a0 a1 a2 a3 u : Nat} (h : QInv L 1 a0 a1 a2 a3) (hu : u < 18446744073709551616) (hk : 1 < L.length) (hp : Lib.parseUintB 64 L[1].data.toList = .ok u) : QInv L 2 a0 u a2 a3 := by
  obtain ⟨h0, h1, h2, h3, p0, p1, p2, p3⟩ := h
  exact ⟨h0, hu, h2, h3, fun _ => p0 (by omega), fun _ => by simp [hk, hp], fun h => by omega, fun h => by omega⟩
theorem QInv.s2 {L : List ByteArray} {a0 a1 a2 a3 u : Nat} (h : QInv L 2 a0 a1 a2 a3) (hu : u < 18446744073709551616) (hk : 2 < L.length) (hp : Lib.parseUintB 64 L[2].data.toList = .ok u) : QInv L 3 a0 a1 u a3 := by
  obtain ⟨h0, h1, h2, h3, p0, p1, p2, p3⟩ := h
  exact ⟨h0, h1, hu, h3, fun _ => p0 (by omega), fun _ => p1 (by omega), fun _ => by simp [hk, hp], fun h => by omega⟩
theorem QInv.s3 {L : List ByteArray} {a0 a1 a2 a3 u : Nat} (h : QInv L 3 a0 a1 a2 a3) (hu : u < 18446744073709551616) (hk : 3 < L.length) (hp : Lib.parseUintB 64 L[3].data.toList = .ok u) : QInv L 4 a0 a1 a2 u := by
  obtain ⟨h0, h1, h2, h3, p0, p1, p2, p3⟩ := h
  exact ⟨h0, h1, h2, hu, fun _ => p0 (by omega), fun _ => p1 (by omega), fun _ => p2 (by omega), fun _ => by simp [hk, hp]⟩
theorem QInv.fin {l : List UInt8} {L : List ByteArray} {a0 a1 a2 a3 i c n t : Nat} (h : QInv L L.length a0 a1 a2 a3) (hL : L.map (fun b : ByteArray => b.data.toList) = pieces 32 l) (hp : IsPk l i c n t) : a0 = i ∧ a1 = c ∧ a2 = n ∧ a3 = t := by
  obtain ⟨e, hi, hc, hn, ht⟩ := hp
  rw [e, pkText_pieces] at hL
  have h4 : L.length = 4 := by simpa using congrArg List.length hL
  obtain ⟨x0, x1, x2, x3, rfl⟩ : ∃ x0 x1 x2 x3, L = [x0, x1, x2, x3] := by
    match L, h4 with
    | [x0, x1, x2, x3], _ => exact ⟨x0, x1, x2, x3, rfl⟩
  simp only [List.map_cons, List.map_nil, List.cons.injEq, and_true] at hL
  obtain ⟨q0, q1, q2, q3⟩ := hL
  obtain ⟨h0, h1, h2, h3, p0, p1, p2, p3⟩ := h
  have r0 := p0 (by simp)
  have r1 := p1 (by simp)
  have r2 := p2 (by simp)
  have r3 := p3 (by simp)
  simp only [List.getElem?_cons_zero, List.getElem?_cons_succ, Option.map_some, Option.some.injEq, q0, q1, q2, q3] at r0 r1 r2 r3
  rw [parse_dec _ (by omega)] at r0 r1 r2 r3
  simp only [Lib.NumEnd.ok.injEq] at r0 r1 r2 r3
  exact ⟨r0.symm, r1.symm, r2.symm, r3.symm⟩

/-- A word that ParseUint doesn't take, or that is no digits: no packet's text. -/
theorem NoPk.bad {l : List UInt8} {L : List ByteArray} (hL : L.map (fun b : ByteArray => b.data.toList) = pieces 32 l) (k : Nat) (hk : k < L.length) (h : ∀ u : Nat, u < 18446744073709551616 → L[k].data.toList ≠ Lib.decDigits u) : NoPk l := by
  by_cases h4 : k < 4
  · exact NoPk.word hL.symm k L[k].data.toList (by simp [hk]) h4 (fun u hu _ => h u hu)
  · refine NoPk.words ?_
    rw [← hL]
    simp
    omega
end Go.Proofs.YtofgajlpdnokdaaDoor
