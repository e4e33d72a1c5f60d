/- The statement EngineOnce holds for every input: no condition. -/
import Derived.Test.YtigcnnkagkbflaaGreatUo24
namespace Go.Proofs.YtigcnnkagkbflaaGreat
set_option linter.unusedVariables false
set_option maxRecDepth 100000
set_option maxHeartbeats 4000000
open Go.RowKit
open Go.Proofs.Tryz
section
open Go.ChangeShapes Go.WideShapes Go.ChangeAt
theorem Qzr{H:Type}(enc:TypeId×Value->H):Qel enc prog 4 f4:=by intro W base k ds p d I aa Xg;have c:∀(j:Nat)t v,f4.params[j]? =some t->k[j]? =some v->Value.okWide prog W .any base t v:=d;have U:=I;rw[Tryz.params4]at U c;obtain⟨v0,v1,d0,d1,p0,p1,rfl,rfl,rfl,V,Z⟩:=trodAll_two U;obtain⟨cs,rfl,J⟩:=Q08 underlying24 Q12 (c 0 24 v0 rfl rfl) V;obtain⟨E,B,K,hc,hr,hh⟩:=Q0b J;rw[hc];obtain⟨xs,hx,q,u⟩:=Qa1 underlying25 Q1t (by kernel_rfl) (by decide) (c 1 25 v1 rfl rfl) Z;obtain⟨l,rfl,hl⟩:=Ms Yy.cells Yy.wf xs (λx R=>Yy.of_fits (q x R));obtain⟨a,cap,rfl,_,_,z⟩:=hx.row;exact(Q0k E B K hr hh l a cap W (by simpa using u) z hl).mono λe w' h=>⟨h.1,h.2.below⟩
theorem Qze(k:Os)(c:k.Started)(H:Type)(enc:TypeId×Value->H):
  ReturnsInHanded {} Tryz.checked k 4 .any (Rows.engineOnceSpec.pre6 enc prog f4 Rows.engineOnceRow.domain false) (Rows.engineOnceSpec.post enc prog f4 false true false false):=
 Rh (C:=Tryz.checked) (tb:=4) own c (by kernel_rfl) func4
  (ChangeSpec.witness6 (enc:=enc) (C:=Tryz.checked) false ⟨#[],#[.agg #[ZU 0,ZI 0,ZU 0],.slice none 0 0],[]⟩ 8 (by kernel_rfl) (by kernel_rfl) (by kernel_rfl) (by kernel_rfl))
  Qe7 (by kernel_rfl) rfl underlying4 rfl (λq d=>by
   match q,d with
   |[d0,d1],_=>rfl) (Qzr enc)
theorem engineOnce_holds:Rows.EngineOnceSaid:=
 OpenClaim.holds_of_wide 4 f4 rfl rfl rfl rfl rfl rfl rfl ⟨rfl,rfl,rfl,rfl,rfl⟩ rfl rfl rfl rfl rfl Qav func4 Qj2
  (of_decide_eq_true (by kernel_rfl)) (by unfold Func.isWrapper;first|(rw[if_pos (by decide+kernel)];kernel_rfl)|(rw[if_neg (by decide+kernel)];exact⟨rfl,rfl⟩))
  (λd c H enc _=>Qze d c H enc)
end
end Go.Proofs.YtigcnnkagkbflaaGreat
