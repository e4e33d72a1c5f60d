/- spec.With, Kind of the document. -/
import Derived.Test.YtofgajlpdnokdaaGreatDoorSpec3
import Derived.RegionTactic
import Derived.ChangeAlike
import Derived.Outline
namespace Go.Proofs.YtofgajlpdnokdaaGreatDoor
set_option linter.unusedVariables false
open Go.RowKit

set_option maxRecDepth 100000 in
set_option maxHeartbeats 4000000 in
theorem spWith_any (s o : Spc) (w : World) : Calls Tryz.prog 15 #[.agg #[.int .i64 s.id, .int .i64 s.par, .bool s.leaf, .int .u64 (s.real.f : Int), .int .u64 (s.real.l : Int), .int .u64 (s.real.r : Int), .int .u64 (s.share.f : Int), .int .u64 (s.share.l : Int), .int .u64 (s.share.r : Int), .int .u64 (s.upper.f : Int), .int .u64 (s.upper.l : Int), .int .u64 (s.upper.r : Int), .int .i64 s.pk, .int .i64 s.bt], .agg #[.int .i64 o.id, .int .i64 o.par, .bool o.leaf, .int .u64 (o.real.f : Int), .int .u64 (o.real.l : Int), .int .u64 (o.real.r : Int), .int .u64 (o.share.f : Int), .int .u64 (o.share.l : Int), .int .u64 (o.share.r : Int), .int .u64 (o.upper.f : Int), .int .u64 (o.upper.l : Int), .int .u64 (o.upper.r : Int), .int .i64 o.pk, .int .i64 o.bt]] w fun e w' => e = .returned (.agg #[.int .i64 s.id, .int .i64 s.par, .bool s.leaf, .int .u64 (o.real.f : Int), .int .u64 (o.real.l : Int), .int .u64 (o.real.r : Int), .int .u64 (o.share.f : Int), .int .u64 (o.share.l : Int), .int .u64 (o.share.r : Int), .int .u64 (o.upper.f : Int), .int .u64 (o.upper.l : Int), .int .u64 (o.upper.r : Int), .int .i64 s.pk, .int .i64 s.bt]) ∧ Chg NoChg w w' := by
  go_enter Tryz.func15, Tryz.ntmps15
  go_wp2
  go_region
  all_goals go_wp2
  refine bodyPost_ret (v := .agg #[.int .i64 s.id, .int .i64 s.par, .bool s.leaf, .int .u64 (o.real.f : Int), .int .u64 (o.real.l : Int), .int .u64 (o.real.r : Int), .int .u64 (o.share.f : Int), .int .u64 (o.share.l : Int), .int .u64 (o.share.r : Int), .int .u64 (o.upper.f : Int), .int .u64 (o.upper.l : Int), .int .u64 (o.upper.r : Int), .int .i64 s.pk, .int .i64 s.bt]) (by simp [results, Tryz.results15, go_sem]) rfl ⟨rfl, ?_⟩
  (repeat' (first | (with_reducible exact Chg.refl _ _) | (with_reducible assumption) | (with_reducible refine Chg.alloc ?_ _) | (with_reducible refine Chg.drewN ?_ _) | (with_reducible refine Chg.drew ?_) | (with_reducible refine Chg.setCell ?_ _ ?_) | (apply Or.inl; with_reducible rfl) | (apply Or.inl; simp; done) | (apply Or.inr; simp; done) | (apply Or.inr; simp; omega)))

end Go.Proofs.YtofgajlpdnokdaaGreatDoor
