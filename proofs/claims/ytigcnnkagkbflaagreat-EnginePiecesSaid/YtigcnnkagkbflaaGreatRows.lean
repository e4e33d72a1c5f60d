/-
  No cell of these rows narrows 'for every input' (looked for: loops, veiled, ifaces, maps, wideKeys, modest, calm, conditions, laid).
  DERIVED. THE GIVEN ROWS OF THIS SEAT. 4 by the template 'for every input the law returns true; each argument reads behind the call as it read before'; 0 by the template 'total and deterministic' (their statements: YtigcnnkagkbflaaGreatTotals.lean).
  GIVEN WITH THE SEED: the statements are not yours to turn. If you find one false, say at which input.
  Laid BY PROGRAM, IN A SANDBOX (cutbox-rows.mjs): the forced cells as the released guide's own fill.sh prints them over the translation c0766768a1ca8419… (all of the seat's roots in one cut). By AI agents, Wed Nov 11 2026. No macro, syntax, notation, axiom, sorry.
-/
import Derived.Test.YtigcnnkagkbflaaGreatChecked
import GoSem.Claim
import GoSem.ClaimJoined
import GoSem.ClaimMapViews
import Derived.JoinedTies
import Derived.KernelRfl
namespace Go.Proofs.YtigcnnkagkbflaaGreat
/- THE CELL 'sum', in the pinned program and in every row, IS THE sha256 OF THE DUMP (.gsa) THAT YtigcnnkagkbflaaGreatProg.lean LOADS. Nothing in Lean hashes anything: it is a label: what it is worth is what the hold of that sum in a sandbox is worth. -/
noncomputable def Tryz.pinned : Pinned := { name := "ytigcnnkagkbflaagreat", sum := "c0766768a1ca8419692729f8f397dd02293281f043311a72d21269bae1722a9a", checked := Tryz.checked }
namespace Rows
def none {H : Type} : Left H := { results := [], args := [] }

/-- 'distributarylaw26.EngineStops': WHATEVER THE INPUT: true; the input reads as it did. -/
def engineStopsSpec : ChangeSpec := { name := "engineStops", fn := fun _ => fun
  | [d1, d2, d3] => { results := [.lit (.bool true)], args := [d1, d2, d3] }
  | _ => none }
def engineStopsRow : OpenClaim := { program := "ytigcnnkagkbflaagreat", sum := "c0766768a1ca8419692729f8f397dd02293281f043311a72d21269bae1722a9a", func := "distributary/distributarylaw26.EngineStops", spec := "engineStops", inPlace := ["math/bits.Add64", "slices.overlaps[int]", "maps.clone"], unfollowed := true, recurses := true, apart := false }
def EngineStopsSaid : Prop := engineStopsRow.holds Tryz.pinned (OpenSpec.ofChange engineStopsSpec)

/-- ITS FALSE NEIGHBOUR: 'it returns false'. Refute it at one input. -/
def engineStopsWrong : ChangeSpec := { name := "engineStops", fn := fun _ => fun
  | [d1, d2, d3] => { results := [.lit (.bool false)], args := [d1, d2, d3] }
  | _ => none }
def EngineStopsWrongFalsely : Prop := engineStopsRow.holds Tryz.pinned (OpenSpec.ofChange engineStopsWrong)

/-- 'distributarylaw26.EngineOnce': WHATEVER THE INPUT: true; the input reads as it did. -/
def engineOnceSpec : ChangeSpec := { name := "engineOnce", fn := fun _ => fun
  | [d1, d2] => { results := [.lit (.bool true)], args := [d1, d2] }
  | _ => none }
def engineOnceRow : OpenClaim := { program := "ytigcnnkagkbflaagreat", sum := "c0766768a1ca8419692729f8f397dd02293281f043311a72d21269bae1722a9a", func := "distributary/distributarylaw26.EngineOnce", spec := "engineOnce", inPlace := ["math/bits.Add64", "slices.overlaps[int]", "maps.clone"], unfollowed := true, recurses := true, apart := false }
def EngineOnceSaid : Prop := engineOnceRow.holds Tryz.pinned (OpenSpec.ofChange engineOnceSpec)

/-- ITS FALSE NEIGHBOUR: 'it returns false'. Refute it at one input. -/
def engineOnceWrong : ChangeSpec := { name := "engineOnce", fn := fun _ => fun
  | [d1, d2] => { results := [.lit (.bool false)], args := [d1, d2] }
  | _ => none }
def EngineOnceWrongFalsely : Prop := engineOnceRow.holds Tryz.pinned (OpenSpec.ofChange engineOnceWrong)

/-- 'distributarylaw26.EngineVain': WHATEVER THE INPUT: true; the input reads as it did. -/
def engineVainSpec : ChangeSpec := { name := "engineVain", fn := fun _ => fun
  | [d1, d2, d3] => { results := [.lit (.bool true)], args := [d1, d2, d3] }
  | _ => none }
def engineVainRow : OpenClaim := { program := "ytigcnnkagkbflaagreat", sum := "c0766768a1ca8419692729f8f397dd02293281f043311a72d21269bae1722a9a", func := "distributary/distributarylaw26.EngineVain", spec := "engineVain", inPlace := ["math/bits.Add64", "slices.overlaps[int]", "maps.clone"], unfollowed := true, recurses := true, apart := false }
def EngineVainSaid : Prop := engineVainRow.holds Tryz.pinned (OpenSpec.ofChange engineVainSpec)

/-- ITS FALSE NEIGHBOUR: 'it returns false'. Refute it at one input. -/
def engineVainWrong : ChangeSpec := { name := "engineVain", fn := fun _ => fun
  | [d1, d2, d3] => { results := [.lit (.bool false)], args := [d1, d2, d3] }
  | _ => none }
def EngineVainWrongFalsely : Prop := engineVainRow.holds Tryz.pinned (OpenSpec.ofChange engineVainWrong)

/-- 'distributarylaw26.EnginePieces': WHATEVER THE INPUT: true; the input reads as it did. -/
def enginePiecesSpec : ChangeSpec := { name := "enginePieces", fn := fun _ => fun
  | [d1, d2, d3, d4] => { results := [.lit (.bool true)], args := [d1, d2, d3, d4] }
  | _ => none }
def enginePiecesRow : OpenClaim := { program := "ytigcnnkagkbflaagreat", sum := "c0766768a1ca8419692729f8f397dd02293281f043311a72d21269bae1722a9a", func := "distributary/distributarylaw26.EnginePieces", spec := "enginePieces", inPlace := ["math/bits.Add64", "slices.overlaps[int]", "maps.clone"], unfollowed := true, recurses := true, apart := false }
def EnginePiecesSaid : Prop := enginePiecesRow.holds Tryz.pinned (OpenSpec.ofChange enginePiecesSpec)

/-- ITS FALSE NEIGHBOUR: 'it returns false'. Refute it at one input. -/
def enginePiecesWrong : ChangeSpec := { name := "enginePieces", fn := fun _ => fun
  | [d1, d2, d3, d4] => { results := [.lit (.bool false)], args := [d1, d2, d3, d4] }
  | _ => none }
def EnginePiecesWrongFalsely : Prop := enginePiecesRow.holds Tryz.pinned (OpenSpec.ofChange enginePiecesWrong)

/- THE SECOND FORM. 'bulk': how many values and letters a reading holds, each counted each time it is reached (what is shared counts as often as it is met; a slice's spare places count too). A statement '..UptoSaid' is the law's where the arguments, and the package variables that the reading takes, are together of bulk at most 1048576: NARROWER than '..Said'. Prove '..Said' where nothing that the law and all that it calls make is longer than what came in: it says more and counts as full. Else prove '..UptoSaid'. A law counts once. -/
mutual
def uptoBulk {H : Type} : DataW H → Nat
  | .lit (.string bytes) => bytes.length + 1
  | .lit _ => 1
  | .nil => 1
  | .ptr d => uptoBulk d + 1
  | .slice elems spare => uptoBulkAll elems + uptoBulkAll spare + 1
  | .agg parts => uptoBulkAll parts + 1
  | .iface _ d => uptoBulk d + 1
  | .map entries => uptoBulkEntries entries + 1
  | .held _ => 1
def uptoBulkAll {H : Type} : List (DataW H) → Nat
  | [] => 0
  | d :: r => uptoBulk d + uptoBulkAll r
def uptoBulkEntries {H : Type} : List (Lit × DataW H) → Nat
  | [] => 0
  | x :: r => uptoBulkEntry x + uptoBulkEntries r
def uptoBulkEntry {H : Type} : Lit × DataW H → Nat
  | (.string bytes, d) => bytes.length + uptoBulk d + 1
  | (_, d) => uptoBulk d + 1
 end
def uptoSmall : (H : Type) → List (DataW H) → Bool := fun _ ds => decide (uptoBulkAll ds ≤ 1048576)
def OpenSpec.upto (s : _root_.Go.ChangeSpec) : _root_.Go.OpenSpec := { _root_.Go.OpenSpec.ofChange s with cond := some uptoSmall }

/-- 'distributarylaw26.EngineStops', WHERE WHAT IT READS IS OF BULK AT MOST 1048576: true; the input reads as it did. -/
def engineStopsUptoRow : OpenClaim := { program := "ytigcnnkagkbflaagreat", sum := "c0766768a1ca8419692729f8f397dd02293281f043311a72d21269bae1722a9a", func := "distributary/distributarylaw26.EngineStops", spec := "engineStops", inPlace := ["math/bits.Add64", "slices.overlaps[int]", "maps.clone"], unfollowed := true, recurses := true, apart := false, narrowed := true }
def EngineStopsUptoSaid : Prop := engineStopsUptoRow.holds Tryz.pinned (OpenSpec.upto engineStopsSpec)

/-- 'distributarylaw26.EngineOnce', WHERE WHAT IT READS IS OF BULK AT MOST 1048576: true; the input reads as it did. -/
def engineOnceUptoRow : OpenClaim := { program := "ytigcnnkagkbflaagreat", sum := "c0766768a1ca8419692729f8f397dd02293281f043311a72d21269bae1722a9a", func := "distributary/distributarylaw26.EngineOnce", spec := "engineOnce", inPlace := ["math/bits.Add64", "slices.overlaps[int]", "maps.clone"], unfollowed := true, recurses := true, apart := false, narrowed := true }
def EngineOnceUptoSaid : Prop := engineOnceUptoRow.holds Tryz.pinned (OpenSpec.upto engineOnceSpec)

/-- 'distributarylaw26.EngineVain', WHERE WHAT IT READS IS OF BULK AT MOST 1048576: true; the input reads as it did. -/
def engineVainUptoRow : OpenClaim := { program := "ytigcnnkagkbflaagreat", sum := "c0766768a1ca8419692729f8f397dd02293281f043311a72d21269bae1722a9a", func := "distributary/distributarylaw26.EngineVain", spec := "engineVain", inPlace := ["math/bits.Add64", "slices.overlaps[int]", "maps.clone"], unfollowed := true, recurses := true, apart := false, narrowed := true }
def EngineVainUptoSaid : Prop := engineVainUptoRow.holds Tryz.pinned (OpenSpec.upto engineVainSpec)

/-- 'distributarylaw26.EnginePieces', WHERE WHAT IT READS IS OF BULK AT MOST 1048576: true; the input reads as it did. -/
def enginePiecesUptoRow : OpenClaim := { program := "ytigcnnkagkbflaagreat", sum := "c0766768a1ca8419692729f8f397dd02293281f043311a72d21269bae1722a9a", func := "distributary/distributarylaw26.EnginePieces", spec := "enginePieces", inPlace := ["math/bits.Add64", "slices.overlaps[int]", "maps.clone"], unfollowed := true, recurses := true, apart := false, narrowed := true }
def EnginePiecesUptoSaid : Prop := enginePiecesUptoRow.holds Tryz.pinned (OpenSpec.upto enginePiecesSpec)

end Rows
end Go.Proofs.YtigcnnkagkbflaaGreat
