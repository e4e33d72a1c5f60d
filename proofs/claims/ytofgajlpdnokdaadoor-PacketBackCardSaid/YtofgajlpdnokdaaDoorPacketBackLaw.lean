/- PacketBack holds for every input. No condition. -/
import Derived.Test.YtofgajlpdnokdaaDoorPacketBack
import Derived.Test.YtofgajlpdnokdaaDoorPktFits
import Derived.Test.YtofgajlpdnokdaaDoorPacketBackCard
namespace Go.Proofs.YtofgajlpdnokdaaDoor
set_option linter.unusedVariables false
open Go.ChangeShapes Go.WideShapes Go.ChangeAt Go.RowKit

set_option maxRecDepth 100000 in
theorem packetBack_law {H : Type} (enc : TypeId × Value → H) : LawWalkL enc Tryd.prog Rows.packetBackRow.laid 4 Tryd.f4 := by
  intro W base args ds p hval0 hA0 hsz hlt hL hS
  have hd := door_of_laid hL hS
  have hval : ∀ (j : Nat) t v, Tryd.f4.params[j]? = some t → args[j]? = some v → Value.okWide Tryd.prog W .any base t v := hval0
  have hA := hA0
  rw [Tryd.params4] at hA hval
  obtain ⟨v0, v1, d0, d1, p0, p1, rfl, rfl, rfl, h0, h1⟩ := trodAll_two hA
  obtain ⟨cs, rfl, hcs⟩ := open_flat Tryd.underlying24 pktK (hval 0 24 v0 rfl rfl) h0
  obtain ⟨i, t, c, n, hs, hi, ht, ⟨_, hc⟩, _, hn⟩ := pkt_of_fits hcs
  rw [hs]
  obtain ⟨s, rfl, -⟩ := ChangeMaps.open_string Tryd.underlying9 (hval 1 9 v1 rfl rfl) h1
  exact (packetBack_any i t c n hi ht hc hn s W hd).mono fun e w' h => ⟨h.1, h.2.below⟩

theorem packetBack_holds : Rows.PacketBackCardSaid := packetBack_card fun H enc => packetBack_law enc
end Go.Proofs.YtofgajlpdnokdaaDoor
