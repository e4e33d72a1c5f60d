/- What the row's list of variables gives a walk. No condition. -/
import Derived.Test.YtofgajlpdnokdaaGreatDoorWords
import Derived.Test.YtofgajlpdnokdaaGreatDoorBase
import Derived.Stop.LaidErr
namespace Go.Proofs.YtofgajlpdnokdaaGreatDoor
set_option linter.unusedVariables false
open Go.ChangeShapes Go.WideShapes Go.ChangeAt Go.RowKit

theorem iface_var {P : Program} {W : World} {name nm : String} {d : DataW Unit} {rest : List (String × DataW Unit)} {g : Nat} {t : TypeId} {ms : Array (String × TypeId)} (hg : P.globalNamed name = some g) (hty : (P.globals[g]?).map (·.type) = some t) (hi : P.underlying t = some (.interface ms))
    (h : laidMet P ((name, .iface nm d) :: rest) W) : ∃ tp p, W.var? P name = some #[.iface tp p] := by
  obtain ⟨ps, ⟨g', t', cs, fuel, p, q, hg', ht', hvar, hd, _, _⟩, _⟩ := h
  obtain rfl := Option.some.inj (hg.symm.trans hg')
  obtain rfl := Option.some.inj (hty.symm.trans ht')
  obtain ⟨f2, u, v, hcs, _, _⟩ := iface_of_trod hi hd
  refine ⟨u, v, ?_⟩
  rw [hvar]
  have := congrArg List.toArray hcs
  simpa using this

theorem door_of_laid {W : World} (h : laidMetH Tryz.prog Rows.specBackRow.laid W) (hs : W.ShapedOpen Tryz.prog) : Door W := by
  rw [MakeChecks.laidMetH_plain _ _ _ (by kernel_rfl)] at h
  have h1 := laidMet.tail h
  have h2 := laidMet.tail h1
  have h3 := laidMet.tail h2
  have h4 := laidMet.tail h3
  have h5 := laidMet.tail h4
  refine ⟨Lib.tabIs_of_head (g := 0) (by kernel_rfl) (by kernel_rfl) Tryz.underlying128 Tryz.underlying22 (by kernel_rfl) (by kernel_rfl) h2, iface_var (g := 2) (t := 75) (by kernel_rfl) (by kernel_rfl) Tryz.underlying75 h5, iface_var (g := 3) (t := 75) (by kernel_rfl) (by kernel_rfl) Tryz.underlying75 h4, ?_⟩
  exact Tryz.laysM146.s1_3 W hs
end Go.Proofs.YtofgajlpdnokdaaGreatDoor
