/- The statement EngineStops holds for every input: no condition. -/
import Derived.Test.YtigcnnkagkbflaaGreatWf23
namespace Go.Proofs.YtigcnnkagkbflaaGreat
set_option linter.unusedVariables false
set_option maxRecDepth 100000
set_option maxHeartbeats 4000000
open Go.RowKit
open Go.Proofs.Tryz
section
open Go.ChangeShapes Go.WideShapes Go.ChangeAt
theorem Qzi{H:Type}(enc:TypeId×Value→H):Qel enc prog 3 f3:=by intro W base k ds p d J ab Xg;have c:∀(j:Nat)t v,f3.params[j]? =some t→k[j]? =some v→Value.okWide prog W .any base t v:=d;have hA:=J;rw[Tryz.params3]at hA c;obtain⟨v0,v1,v2,d0,d1,d2,p0,p1,p2,rfl,rfl,rfl,h0,h1,h2⟩:=trodAll_three hA;obtain⟨cs,rfl,K⟩:=Qzy underlying24 Q1n (c 0 24 v0 rfl rfl) h0;obtain⟨I,E,R,hc,hr,hh⟩:=Qz7 K;rw[hc];obtain⟨xs,hx,u,z⟩:=Qa1 underlying25 Q07 (by kernel_rfl) (by decide) (c 1 25 v1 rfl rfl) h1;obtain⟨l,rfl,hl⟩:=Ms Yy.cells Yy.wf xs (fun x Z=>Yy.of_fits (u x Z));obtain⟨a,cap,rfl,_,_,B⟩:=hx.row;obtain⟨aa,rfl,q⟩:=Qzy underlying33 Q07 (c 2 33 v2 rfl rfl) h2;obtain⟨x3,V,U⟩:=Yy.of_fits q;rw[V];exact(Qz3 I E R hr hh l x3 a cap W (by simpa using z) B hl U).mono fun e w' h=>⟨h.1,h.2.below⟩
theorem Qy8(k:Os)(c:k.Started)(H:Type)(enc:TypeId×Value→H):
  ReturnsInHanded {} Tryz.checked k 3 .any (Rows.engineStopsSpec.pre6 enc prog f3 Rows.engineStopsRow.domain false) (Rows.engineStopsSpec.post enc prog f3 false true false false):=
 Rh (C:=Tryz.checked) (tb:=4) own c (by kernel_rfl) func3
  (ChangeSpec.witness6 (enc:=enc) (C:=Tryz.checked) false ⟨#[],#[.agg #[ZU 0,ZI 0,ZU 0],.slice none 0 0,.agg #[.int .u8 0,ZI 0,ZI 0,.bool false,ZU 0,ZU 0,ZU 0,ZU 0,ZU 0,ZU 0,ZU 0,ZU 0,ZU 0,ZI 0,ZI 0,ZU 0,ZI 0,ZI 0,ZU 0,ZU 0]],[]⟩ 8 (by kernel_rfl) (by kernel_rfl) (by kernel_rfl) (by kernel_rfl))
  Qe7 (by kernel_rfl) rfl underlying4 rfl (fun q d=>by
   match q,d with
   |[d0,d1,d2],_=>rfl) (Qzi enc)
theorem engineStops_holds:Rows.EngineStopsSaid:=
 OpenClaim.holds_of_wide 3 f3 rfl rfl rfl rfl rfl rfl rfl ⟨rfl,rfl,rfl,rfl,rfl⟩ rfl rfl rfl rfl rfl Qav func3 Qj2
  (of_decide_eq_true (by kernel_rfl)) (by unfold Func.isWrapper;first|(rw[if_pos (by decide+kernel)];kernel_rfl)|(rw[if_neg (by decide+kernel)];exact⟨rfl,rfl⟩))
  (fun d c H enc _=>Qy8 d c H enc)
end
end Go.Proofs.YtigcnnkagkbflaaGreat
