/- The statement ModelOne holds for every input: no condition. -/
import Derived.Test.YtnnhmpehkbihnaaGreatPk50
namespace Go.Proofs.YtnnhmpehkbihnaaGreat
set_option linter.unusedVariables false
set_option maxRecDepth 100000
set_option maxHeartbeats 4000000
open Go.RowKit
open Go.Proofs.Tryz
section
open Go.ChangeShapes Go.WideShapes Go.ChangeAt
theorem Qwo{H:Type}(enc:TypeId×Value→H):Qel enc prog 6 f6:=by intro W base k Z p d B J Xg;have c:∀(j:Nat)t v,f6.params[j]? =some t→k[j]? =some v→Value.okWide prog W .any base t v:=d;have I:=B;rw[Tryz.params6]at I c;obtain⟨v0,v1,U,V,p0,p1,rfl,rfl,rfl,h0,h1⟩:=trodAll_two I;obtain⟨most,rfl,rfl,rfl,_⟩:=open_int underlying3 (c 0 3 v0 rfl rfl) h0;obtain⟨R,K,q,u⟩:=Qa1 underlying22 Qvd (by kernel_rfl) (by decide) (c 1 22 v1 rfl rfl) h1;obtain⟨l,rfl,hl⟩:=Ms Yy.cells Yy.wf R (fun x E=>Yy.of_fits (q x E));obtain⟨a,cap,rfl,_,_,z⟩:=K.row;exact(Qwz most l a cap W (by simpa using u) z hl).mono fun e w' h=>⟨h.1,h.2.below⟩
theorem Qv9(os:Os)(c:os.Started)(H:Type)(enc:TypeId×Value→H):
  ReturnsInHanded {} Tryz.checked os 6 .any (Rows.modelOneSpec.pre6 enc prog f6 Rows.modelOneRow.domain false) (Rows.modelOneSpec.post enc prog f6 false true false false):=
 Rh (C:=Tryz.checked) (tb:=4) own c (by kernel_rfl) func6
  (ChangeSpec.witness6 (enc:=enc) (C:=Tryz.checked) false ⟨#[],#[.int .i64 0,.slice none 0 0],[]⟩ 8 (by kernel_rfl) (by kernel_rfl) (by kernel_rfl) (by kernel_rfl))
  laidOut (by kernel_rfl) rfl underlying4 rfl (fun k d=>by
   match k,d with
   |[d0,d1],_=>rfl) (Qwo enc)
theorem modelOne_holds:Rows.ModelOneSaid:=
 OpenClaim.holds_of_wide 6 f6 rfl rfl rfl rfl rfl rfl rfl ⟨rfl,rfl,rfl,rfl,rfl⟩ rfl rfl rfl rfl rfl named_ok func6 closed
  (of_decide_eq_true (by kernel_rfl)) (by unfold Func.isWrapper;first|(rw[if_pos (by decide+kernel)];kernel_rfl)|(rw[if_neg (by decide+kernel)];exact⟨rfl,rfl⟩))
  (fun os c H enc _=>Qv9 os c H enc)
end
end Go.Proofs.YtnnhmpehkbihnaaGreat
