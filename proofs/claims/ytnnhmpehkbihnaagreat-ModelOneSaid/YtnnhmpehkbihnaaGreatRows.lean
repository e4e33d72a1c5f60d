/-
  No cell of these rows narrows 'for every input' (looked for: loops, veiled, ifaces, maps, wideKeys, modest, calm, conditions, laid).
  DERIVED. THE GIVEN ROWS OF THIS SEAT. 5 by the template 'for every input the law returns true; each argument reads behind the call as it read before'; 0 by the template 'total and deterministic' (their statements: YtnnhmpehkbihnaaGreatTotals.lean).
  GIVEN WITH THE SEED: the statements are not yours to turn. If you find one false, say at which input.
  Laid BY PROGRAM, IN A SANDBOX (cutbox-rows.mjs): the forced cells as the released guide's own fill.sh prints them over the translation d85ac9e0617b5945… (all of the seat's roots in one cut). By AI agents, Wed Nov 11 2026. No macro, syntax, notation, axiom, sorry.
-/
import Derived.Test.YtnnhmpehkbihnaaGreatChecked
import GoSem.Claim
import GoSem.ClaimJoined
import GoSem.ClaimMapViews
import Derived.JoinedTies
import Derived.KernelRfl
namespace Go.Proofs.YtnnhmpehkbihnaaGreat
/- THE CELL 'sum', in the pinned program and in every row, IS THE sha256 OF THE DUMP (.gsa) THAT YtnnhmpehkbihnaaGreatProg.lean LOADS. Nothing in Lean hashes anything: it is a label: what it is worth is what the hold of that sum in a sandbox is worth. -/
noncomputable def Tryz.pinned : Pinned := { name := "ytnnhmpehkbihnaagreat", sum := "d85ac9e0617b594565368fe3767d13113de24da5c9850bfeed8a00fb6bd2ddbb", checked := Tryz.checked }
namespace Rows
def none {H : Type} : Left H := { results := [], args := [] }

/-- 'distributarylaw23.SchedOnce': WHATEVER THE INPUT: true; the input reads as it did. -/
def schedOnceSpec : ChangeSpec := { name := "schedOnce", fn := fun _ => fun
  | [d1, d2] => { results := [.lit (.bool true)], args := [d1, d2] }
  | _ => none }
def schedOnceRow : OpenClaim := { program := "ytnnhmpehkbihnaagreat", sum := "d85ac9e0617b594565368fe3767d13113de24da5c9850bfeed8a00fb6bd2ddbb", func := "distributary/distributarylaw23.SchedOnce", spec := "schedOnce", inPlace := ["math/bits.Add64", "slices.overlaps[int]", "maps.clone"], unfollowed := true, recurses := true, apart := false }
def SchedOnceSaid : Prop := schedOnceRow.holds Tryz.pinned (OpenSpec.ofChange schedOnceSpec)

/-- ITS FALSE NEIGHBOUR: 'it returns false'. Refute it at one input. -/
def schedOnceWrong : ChangeSpec := { name := "schedOnce", fn := fun _ => fun
  | [d1, d2] => { results := [.lit (.bool false)], args := [d1, d2] }
  | _ => none }
def SchedOnceWrongFalsely : Prop := schedOnceRow.holds Tryz.pinned (OpenSpec.ofChange schedOnceWrong)

/-- 'distributarylaw23.SchedRules': WHATEVER THE INPUT: true; the input reads as it did. -/
def schedRulesSpec : ChangeSpec := { name := "schedRules", fn := fun _ => fun
  | [d1, d2] => { results := [.lit (.bool true)], args := [d1, d2] }
  | _ => none }
def schedRulesRow : OpenClaim := { program := "ytnnhmpehkbihnaagreat", sum := "d85ac9e0617b594565368fe3767d13113de24da5c9850bfeed8a00fb6bd2ddbb", func := "distributary/distributarylaw23.SchedRules", spec := "schedRules", inPlace := ["math/bits.Add64", "slices.overlaps[int]", "maps.clone"], unfollowed := true, recurses := true, apart := false }
def SchedRulesSaid : Prop := schedRulesRow.holds Tryz.pinned (OpenSpec.ofChange schedRulesSpec)

/-- ITS FALSE NEIGHBOUR: 'it returns false'. Refute it at one input. -/
def schedRulesWrong : ChangeSpec := { name := "schedRules", fn := fun _ => fun
  | [d1, d2] => { results := [.lit (.bool false)], args := [d1, d2] }
  | _ => none }
def SchedRulesWrongFalsely : Prop := schedRulesRow.holds Tryz.pinned (OpenSpec.ofChange schedRulesWrong)

/-- 'distributarylaw23.SchedIdles': WHATEVER THE INPUT: true; the input reads as it did. -/
def schedIdlesSpec : ChangeSpec := { name := "schedIdles", fn := fun _ => fun
  | [d1, d2] => { results := [.lit (.bool true)], args := [d1, d2] }
  | _ => none }
def schedIdlesRow : OpenClaim := { program := "ytnnhmpehkbihnaagreat", sum := "d85ac9e0617b594565368fe3767d13113de24da5c9850bfeed8a00fb6bd2ddbb", func := "distributary/distributarylaw23.SchedIdles", spec := "schedIdles", inPlace := ["math/bits.Add64", "slices.overlaps[int]", "maps.clone"], unfollowed := true, recurses := true, apart := false }
def SchedIdlesSaid : Prop := schedIdlesRow.holds Tryz.pinned (OpenSpec.ofChange schedIdlesSpec)

/-- ITS FALSE NEIGHBOUR: 'it returns false'. Refute it at one input. -/
def schedIdlesWrong : ChangeSpec := { name := "schedIdles", fn := fun _ => fun
  | [d1, d2] => { results := [.lit (.bool false)], args := [d1, d2] }
  | _ => none }
def SchedIdlesWrongFalsely : Prop := schedIdlesRow.holds Tryz.pinned (OpenSpec.ofChange schedIdlesWrong)

/-- 'distributarylaw29.ModelOne': WHATEVER THE INPUT: true; the input reads as it did. -/
def modelOneSpec : ChangeSpec := { name := "modelOne", fn := fun _ => fun
  | [d1, d2] => { results := [.lit (.bool true)], args := [d1, d2] }
  | _ => none }
def modelOneRow : OpenClaim := { program := "ytnnhmpehkbihnaagreat", sum := "d85ac9e0617b594565368fe3767d13113de24da5c9850bfeed8a00fb6bd2ddbb", func := "distributary/distributarylaw29.ModelOne", spec := "modelOne", inPlace := ["math/bits.Add64", "slices.overlaps[int]", "maps.clone"], unfollowed := true, recurses := true, apart := false }
def ModelOneSaid : Prop := modelOneRow.holds Tryz.pinned (OpenSpec.ofChange modelOneSpec)

/-- ITS FALSE NEIGHBOUR: 'it returns false'. Refute it at one input. -/
def modelOneWrong : ChangeSpec := { name := "modelOne", fn := fun _ => fun
  | [d1, d2] => { results := [.lit (.bool false)], args := [d1, d2] }
  | _ => none }
def ModelOneWrongFalsely : Prop := modelOneRow.holds Tryz.pinned (OpenSpec.ofChange modelOneWrong)

/-- 'distributarylaw29.ModelHeld': WHATEVER THE INPUT: true; the input reads as it did. -/
def modelHeldSpec : ChangeSpec := { name := "modelHeld", fn := fun _ => fun
  | [d1, d2, d3] => { results := [.lit (.bool true)], args := [d1, d2, d3] }
  | _ => none }
def modelHeldRow : OpenClaim := { program := "ytnnhmpehkbihnaagreat", sum := "d85ac9e0617b594565368fe3767d13113de24da5c9850bfeed8a00fb6bd2ddbb", func := "distributary/distributarylaw29.ModelHeld", spec := "modelHeld", inPlace := ["math/bits.Add64", "slices.overlaps[int]", "maps.clone"], unfollowed := true, recurses := true, apart := false }
def ModelHeldSaid : Prop := modelHeldRow.holds Tryz.pinned (OpenSpec.ofChange modelHeldSpec)

/-- ITS FALSE NEIGHBOUR: 'it returns false'. Refute it at one input. -/
def modelHeldWrong : ChangeSpec := { name := "modelHeld", fn := fun _ => fun
  | [d1, d2, d3] => { results := [.lit (.bool false)], args := [d1, d2, d3] }
  | _ => none }
def ModelHeldWrongFalsely : Prop := modelHeldRow.holds Tryz.pinned (OpenSpec.ofChange modelHeldWrong)

/- THE SECOND FORM. 'bulk': how many values and letters a reading holds, each counted each time it is reached (what is shared counts as often as it is met; a slice's spare places count too). A statement '..UptoSaid' is the law's where the arguments, and the package variables that the reading takes, are together of bulk at most 1048576: NARROWER than '..Said'. Prove '..Said' where nothing that the law and all that it calls make is longer than what came in: it says more and counts as full. Else prove '..UptoSaid'. A law counts once. -/
mutual
def uptoBulk {H : Type} : DataW H → Nat
  | .lit (.string bytes) => bytes.length + 1
  | .lit _ => 1
  | .nil => 1
  | .ptr d => uptoBulk d + 1
  | .slice elems spare => uptoBulkAll elems + uptoBulkAll spare + 1
  | .agg parts => uptoBulkAll parts + 1
  | .iface _ d => uptoBulk d + 1
  | .map entries => uptoBulkEntries entries + 1
  | .held _ => 1
def uptoBulkAll {H : Type} : List (DataW H) → Nat
  | [] => 0
  | d :: r => uptoBulk d + uptoBulkAll r
def uptoBulkEntries {H : Type} : List (Lit × DataW H) → Nat
  | [] => 0
  | x :: r => uptoBulkEntry x + uptoBulkEntries r
def uptoBulkEntry {H : Type} : Lit × DataW H → Nat
  | (.string bytes, d) => bytes.length + uptoBulk d + 1
  | (_, d) => uptoBulk d + 1
 end
def uptoSmall : (H : Type) → List (DataW H) → Bool := fun _ ds => decide (uptoBulkAll ds ≤ 1048576)
def OpenSpec.upto (s : _root_.Go.ChangeSpec) : _root_.Go.OpenSpec := { _root_.Go.OpenSpec.ofChange s with cond := some uptoSmall }

/-- 'distributarylaw23.SchedOnce', WHERE WHAT IT READS IS OF BULK AT MOST 1048576: true; the input reads as it did. -/
def schedOnceUptoRow : OpenClaim := { program := "ytnnhmpehkbihnaagreat", sum := "d85ac9e0617b594565368fe3767d13113de24da5c9850bfeed8a00fb6bd2ddbb", func := "distributary/distributarylaw23.SchedOnce", spec := "schedOnce", inPlace := ["math/bits.Add64", "slices.overlaps[int]", "maps.clone"], unfollowed := true, recurses := true, apart := false, narrowed := true }
def SchedOnceUptoSaid : Prop := schedOnceUptoRow.holds Tryz.pinned (OpenSpec.upto schedOnceSpec)

/-- 'distributarylaw23.SchedRules', WHERE WHAT IT READS IS OF BULK AT MOST 1048576: true; the input reads as it did. -/
def schedRulesUptoRow : OpenClaim := { program := "ytnnhmpehkbihnaagreat", sum := "d85ac9e0617b594565368fe3767d13113de24da5c9850bfeed8a00fb6bd2ddbb", func := "distributary/distributarylaw23.SchedRules", spec := "schedRules", inPlace := ["math/bits.Add64", "slices.overlaps[int]", "maps.clone"], unfollowed := true, recurses := true, apart := false, narrowed := true }
def SchedRulesUptoSaid : Prop := schedRulesUptoRow.holds Tryz.pinned (OpenSpec.upto schedRulesSpec)

/-- 'distributarylaw23.SchedIdles', WHERE WHAT IT READS IS OF BULK AT MOST 1048576: true; the input reads as it did. -/
def schedIdlesUptoRow : OpenClaim := { program := "ytnnhmpehkbihnaagreat", sum := "d85ac9e0617b594565368fe3767d13113de24da5c9850bfeed8a00fb6bd2ddbb", func := "distributary/distributarylaw23.SchedIdles", spec := "schedIdles", inPlace := ["math/bits.Add64", "slices.overlaps[int]", "maps.clone"], unfollowed := true, recurses := true, apart := false, narrowed := true }
def SchedIdlesUptoSaid : Prop := schedIdlesUptoRow.holds Tryz.pinned (OpenSpec.upto schedIdlesSpec)

/-- 'distributarylaw29.ModelOne', WHERE WHAT IT READS IS OF BULK AT MOST 1048576: true; the input reads as it did. -/
def modelOneUptoRow : OpenClaim := { program := "ytnnhmpehkbihnaagreat", sum := "d85ac9e0617b594565368fe3767d13113de24da5c9850bfeed8a00fb6bd2ddbb", func := "distributary/distributarylaw29.ModelOne", spec := "modelOne", inPlace := ["math/bits.Add64", "slices.overlaps[int]", "maps.clone"], unfollowed := true, recurses := true, apart := false, narrowed := true }
def ModelOneUptoSaid : Prop := modelOneUptoRow.holds Tryz.pinned (OpenSpec.upto modelOneSpec)

/-- 'distributarylaw29.ModelHeld', WHERE WHAT IT READS IS OF BULK AT MOST 1048576: true; the input reads as it did. -/
def modelHeldUptoRow : OpenClaim := { program := "ytnnhmpehkbihnaagreat", sum := "d85ac9e0617b594565368fe3767d13113de24da5c9850bfeed8a00fb6bd2ddbb", func := "distributary/distributarylaw29.ModelHeld", spec := "modelHeld", inPlace := ["math/bits.Add64", "slices.overlaps[int]", "maps.clone"], unfollowed := true, recurses := true, apart := false, narrowed := true }
def ModelHeldUptoSaid : Prop := modelHeldUptoRow.holds Tryz.pinned (OpenSpec.upto modelHeldSpec)

end Rows
end Go.Proofs.YtnnhmpehkbihnaaGreat
