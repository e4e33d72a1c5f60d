/- The statement EnginePieces holds for every input: no condition. -/
import Derived.Test.YtigcnnkagkbflaaGreatYq24
namespace Go.Proofs.YtigcnnkagkbflaaGreat
set_option linter.unusedVariables false
set_option maxRecDepth 100000
set_option maxHeartbeats 4000000
open Go.RowKit
open Go.Proofs.Tryz
section
open Go.ChangeShapes Go.WideShapes Go.ChangeAt
theorem Qzj{H:Type}(enc:TypeId×Value->H):Qel enc prog 6 f6:=by intro W base k ds p d I ab Xg;have c:∀(j:Nat)t v,f6.params[j]? =some t->k[j]? =some v->Value.okWide prog W .any base t v:=d;have hA:=I;rw[Tryz.params6]at hA c;obtain⟨v0,v1,v2,v3,d0,d1,d2,d3,p0,p1,p2,p3,rfl,rfl,rfl,h0,h1,h2,h3⟩:=trodAll_four hA;obtain⟨cs,rfl,J⟩:=Q1u underlying24 Q2v (c 0 24 v0 rfl rfl) h0;obtain⟨E,B,Z,hc,hr,hh⟩:=Q0o J;rw[hc];obtain⟨xs,hx,q,u⟩:=Qa1 underlying25 Q2l (by kernel_rfl) (by decide) (c 1 25 v1 rfl rfl) h1;obtain⟨l,rfl,hl⟩:=Ms Yy.cells Yy.wf xs (λx aa=>Yy.of_fits (q x aa));obtain⟨a,cap,rfl,_,_,z⟩:=hx.row;obtain⟨n3,rfl,rfl,rfl,U⟩:=open_int underlying74 (c 2 74 v2 rfl rfl) h2;obtain⟨m3,rfl,K⟩:=Q2j U;obtain⟨n4,rfl,rfl,rfl,V⟩:=open_int underlying5 (c 3 5 v3 rfl rfl) h3;obtain⟨m4,rfl,R⟩:=Q2q V;exact(Qz6 E B Z hr hh l m3 m4 a cap W (by simpa using u) z hl K R).mono λe w' h=>⟨h.1,h.2.below⟩
theorem Qy6(k:Os)(c:k.Started)(H:Type)(enc:TypeId×Value->H):
  ReturnsInHanded {} Tryz.checked k 6 .any (Rows.enginePiecesSpec.pre6 enc prog f6 Rows.enginePiecesRow.domain false) (Rows.enginePiecesSpec.post enc prog f6 false true false false):=
 Rh (C:=Tryz.checked) (tb:=4) own c (by kernel_rfl) func6
  (ChangeSpec.witness6 (enc:=enc) (C:=Tryz.checked) false ⟨#[],#[.agg #[ZU 0,ZI 0,ZU 0],.slice none 0 0,.int .u16 0,.int .u8 0],[]⟩ 8 (by kernel_rfl) (by kernel_rfl) (by kernel_rfl) (by kernel_rfl))
  Qe7 (by kernel_rfl) rfl underlying4 rfl (λq d=>by
   match q,d with
   |[d0,d1,d2,d3],_=>rfl) (Qzj enc)
theorem enginePieces_holds:Rows.EnginePiecesSaid:=
 OpenClaim.holds_of_wide 6 f6 rfl rfl rfl rfl rfl rfl rfl ⟨rfl,rfl,rfl,rfl,rfl⟩ rfl rfl rfl rfl rfl Qav func6 Qj2
  (of_decide_eq_true (by kernel_rfl)) (by unfold Func.isWrapper;first|(rw[if_pos (by decide+kernel)];kernel_rfl)|(rw[if_neg (by decide+kernel)];exact⟨rfl,rfl⟩))
  (λd c H enc _=>Qy6 d c H enc)
end
end Go.Proofs.YtigcnnkagkbflaaGreat
