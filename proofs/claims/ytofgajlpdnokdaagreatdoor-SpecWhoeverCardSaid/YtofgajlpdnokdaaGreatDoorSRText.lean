/- The document's text of a spec. Condition: the numbers are those of their types. -/
import Derived.Test.YtofgajlpdnokdaaGreatDoorSText
namespace Go.Proofs.YtofgajlpdnokdaaGreatDoor
set_option linter.unusedVariables false
open Go.Shelf Go.RowKit Go.Sort Go.Lib

theorem bs_lit (a : Array UInt8) (b : List UInt8) : (⟨a⟩ : ByteArray) ++ ⟨b.toArray⟩ = ⟨(a.toList ++ b).toArray⟩ := by
  apply ByteArray.ext
  simp

end Go.Proofs.YtofgajlpdnokdaaGreatDoor
