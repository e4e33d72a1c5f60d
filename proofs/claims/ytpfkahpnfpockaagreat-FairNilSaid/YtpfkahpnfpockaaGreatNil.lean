/- Records for the laws about what nobody made. -/
import Derived.Test.YtpfkahpnfpockaaGreatHeap
namespace Go.Proofs.YtpfkahpnfpockaaGreat
set_option linter.unusedVariables false
open Go.RowKit

structure SpecR where
  id : Int
  par : Int
  leaf : Bool
  rf : Int
  rl : Int
  rr : Int
  sf : Int
  sl : Int
  sr : Int
  uf : Int
  ul : Int
  ur : Int
  pk : Int
  bt : Int
def SpecR.cells (s : SpecR) : List Value := [.int .i64 s.id, .int .i64 s.par, .bool s.leaf, .int .u64 s.rf, .int .u64 s.rl, .int .u64 s.rr, .int .u64 s.sf, .int .u64 s.sl, .int .u64 s.sr, .int .u64 s.uf, .int .u64 s.ul, .int .u64 s.ur, .int .i64 s.pk, .int .i64 s.bt]
def specKinds : List (Option IntKind) := [some .i64, some .i64, none, some .u64, some .u64, some .u64, some .u64, some .u64, some .u64, some .u64, some .u64, some .u64, some .i64, some .i64]

structure PktR where
  id : Int
  cls : Int
  len : Int
  at_ : Int
def PktR.cells (p : PktR) : List Value := [.int .u64 p.id, .int .i64 p.cls, .int .i64 p.len, .int .u64 p.at_]

theorem Chg.same {w w' : World} (hc : Chg NoChg w w') {ad : Addr} {u : Value} (h : w.cell? ad = some u) : w'.cell? ad = some u := (hc.cell (cell_lt h) (fun h => h)).trans h

/-- The block of a spec, cell by cell. -/
structure SpecAt (w : World) (b : Nat) (s : SpecR) : Prop where
  c0 : w.cell? ⟨b, 0, none⟩ = some (.int .i64 s.id)
  c1 : w.cell? ⟨b, 1, none⟩ = some (.int .i64 s.par)
  c2 : w.cell? ⟨b, 2, none⟩ = some (.bool s.leaf)
  c3 : w.cell? ⟨b, 3, none⟩ = some (.int .u64 s.rf)
  c4 : w.cell? ⟨b, 4, none⟩ = some (.int .u64 s.rl)
  c5 : w.cell? ⟨b, 5, none⟩ = some (.int .u64 s.rr)
  c6 : w.cell? ⟨b, 6, none⟩ = some (.int .u64 s.sf)
  c7 : w.cell? ⟨b, 7, none⟩ = some (.int .u64 s.sl)
  c8 : w.cell? ⟨b, 8, none⟩ = some (.int .u64 s.sr)
  c9 : w.cell? ⟨b, 9, none⟩ = some (.int .u64 s.uf)
  c10 : w.cell? ⟨b, 10, none⟩ = some (.int .u64 s.ul)
  c11 : w.cell? ⟨b, 11, none⟩ = some (.int .u64 s.ur)
  c12 : w.cell? ⟨b, 12, none⟩ = some (.int .i64 s.pk)
  c13 : w.cell? ⟨b, 13, none⟩ = some (.int .i64 s.bt)
theorem SpecAt.of {w : World} {b : Nat} {s : SpecR} {t : TypeId} (h : Blk w b #[.int .i64 s.id, .int .i64 s.par, .bool s.leaf, .int .u64 s.rf, .int .u64 s.rl, .int .u64 s.rr, .int .u64 s.sf, .int .u64 s.sl, .int .u64 s.sr, .int .u64 s.uf, .int .u64 s.ul, .int .u64 s.ur, .int .i64 s.pk, .int .i64 s.bt] t) : SpecAt w b s :=
  ⟨h.cell 0, h.cell 1, h.cell 2, h.cell 3, h.cell 4, h.cell 5, h.cell 6, h.cell 7, h.cell 8, h.cell 9, h.cell 10, h.cell 11, h.cell 12, h.cell 13⟩
theorem SpecAt.keep {w w' : World} {b : Nat} {s : SpecR} (h : SpecAt w b s) (hc : Chg NoChg w w') : SpecAt w' b s :=
  ⟨hc.same h.c0, hc.same h.c1, hc.same h.c2, hc.same h.c3, hc.same h.c4, hc.same h.c5, hc.same h.c6, hc.same h.c7, hc.same h.c8, hc.same h.c9, hc.same h.c10, hc.same h.c11, hc.same h.c12, hc.same h.c13⟩
structure PktAt (w : World) (b : Nat) (p : PktR) : Prop where
  c0 : w.cell? ⟨b, 0, none⟩ = some (.int .u64 p.id)
  c1 : w.cell? ⟨b, 1, none⟩ = some (.int .i64 p.cls)
  c2 : w.cell? ⟨b, 2, none⟩ = some (.int .i64 p.len)
  c3 : w.cell? ⟨b, 3, none⟩ = some (.int .u64 p.at_)
theorem PktAt.of {w : World} {b : Nat} {p : PktR} {t : TypeId} (h : Blk w b #[.int .u64 p.id, .int .i64 p.cls, .int .i64 p.len, .int .u64 p.at_] t) : PktAt w b p :=
  ⟨h.cell 0, h.cell 1, h.cell 2, h.cell 3⟩
theorem PktAt.keep {w w' : World} {b : Nat} {p : PktR} (h : PktAt w b p) (hc : Chg NoChg w w') : PktAt w' b p :=
  ⟨hc.same h.c0, hc.same h.c1, hc.same h.c2, hc.same h.c3⟩

/-- v is nil, or what nobody made: its cell k is nil. -/
def NoOne (k : Nat) (w : World) (v : Value) : Prop := v = .pointer none ∨ ∃ b, v = .pointer (some ⟨b, 0, none⟩) ∧ w.cell? ⟨b, k, none⟩ = some (.pointer none)
theorem NoOne.keep {k : Nat} {w w1 : World} {v : Value} (h : NoOne k w v) (hc : Chg NoChg w w1) : NoOne k w1 v := by
  rcases h with h | ⟨b, h, hb⟩
  · exact .inl h
  · exact .inr ⟨b, h, hc.same hb⟩
end Go.Proofs.YtpfkahpnfpockaaGreat
