/- Curves and specs as records of numbers. -/
import Derived.Test.YtofgajlpdnokdaaDoorHeap
namespace Go.Proofs.YtofgajlpdnokdaaDoor
set_option linter.unusedVariables false
open Go.RowKit

structure Crv where
  f : Nat
  l : Nat
  r : Nat
def Crv.cells (c : Crv) : List Value := [.int .u64 (c.f : Int), .int .u64 (c.l : Int), .int .u64 (c.r : Int)]
theorem Crv.cells_length (c : Crv) : c.cells.length = 3 := rfl
def Crv.zero : Crv := ⟨0, 0, 0⟩

structure Spc where
  id : Int
  par : Int
  leaf : Bool
  real : Crv
  share : Crv
  upper : Crv
  pk : Int
  bt : Int

end Go.Proofs.YtofgajlpdnokdaaDoor
