/- The statement EngineVain holds for every input: no condition. -/
import Derived.Test.YtigcnnkagkbflaaGreatXb25
namespace Go.Proofs.YtigcnnkagkbflaaGreat
set_option linter.unusedVariables false
set_option maxRecDepth 100000
set_option maxHeartbeats 4000000
open Go.RowKit
open Go.Proofs.Tryz
section
open Go.ChangeShapes Go.WideShapes Go.ChangeAt
theorem Qzn{H:Type}(enc:TypeId×Value→H):Qel enc prog 5 f5:=by intro W base k ds p d I aa Xg;have c:∀(j:Nat)t v,f5.params[j]? =some t→k[j]? =some v→Value.okWide prog W .any base t v:=d;have U:=I;rw[Tryz.params5]at U c;obtain⟨v0,v1,v2,d0,d1,d2,p0,p1,p2,rfl,rfl,rfl,Z,h1,h2⟩:=trodAll_three U;obtain⟨cs,rfl,J⟩:=Q05 underlying24 Q1s (c 0 24 v0 rfl rfl) Z;obtain⟨E,B,K,hc,hr,hh⟩:=Qz6 J;rw[hc];obtain⟨xs,hx,q,u⟩:=Qa1 underlying25 Q1j (by kernel_rfl) (by decide) (c 1 25 v1 rfl rfl) h1;obtain⟨l,rfl,hl⟩:=Ms Yy.cells Yy.wf xs (fun x R=>Yy.of_fits (q x R));obtain⟨a,cap,rfl,_,_,z⟩:=hx.row;obtain⟨V,rfl,_⟩:=open_bool underlying4 (c 2 4 v2 rfl rfl) h2;exact(Q0e E B K hr hh l V a cap W (by simpa using u) z hl).mono fun e w' h=>⟨h.1,h.2.below⟩
theorem Qza(k:Os)(c:k.Started)(H:Type)(enc:TypeId×Value→H):
  ReturnsInHanded {} Tryz.checked k 5 .any (Rows.engineVainSpec.pre6 enc prog f5 Rows.engineVainRow.domain false) (Rows.engineVainSpec.post enc prog f5 false true false false):=
 Rh (C:=Tryz.checked) (tb:=4) own c (by kernel_rfl) func5
  (ChangeSpec.witness6 (enc:=enc) (C:=Tryz.checked) false ⟨#[],#[.agg #[ZU 0,ZI 0,ZU 0],.slice none 0 0,.bool false],[]⟩ 8 (by kernel_rfl) (by kernel_rfl) (by kernel_rfl) (by kernel_rfl))
  Qe7 (by kernel_rfl) rfl underlying4 rfl (fun q d=>by
   match q,d with
   |[d0,d1,d2],_=>rfl) (Qzn enc)
theorem engineVain_holds:Rows.EngineVainSaid:=
 OpenClaim.holds_of_wide 5 f5 rfl rfl rfl rfl rfl rfl rfl ⟨rfl,rfl,rfl,rfl,rfl⟩ rfl rfl rfl rfl rfl Qav func5 Qj2
  (of_decide_eq_true (by kernel_rfl)) (by unfold Func.isWrapper;first|(rw[if_pos (by decide+kernel)];kernel_rfl)|(rw[if_neg (by decide+kernel)];exact⟨rfl,rfl⟩))
  (fun d c H enc _=>Qza d c H enc)
end
end Go.Proofs.YtigcnnkagkbflaaGreat
