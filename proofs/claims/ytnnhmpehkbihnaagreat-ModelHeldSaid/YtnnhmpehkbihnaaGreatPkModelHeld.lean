/- The statement ModelHeld holds for every input: no condition. -/
import Derived.Test.YtnnhmpehkbihnaaGreatPk49
import Derived.Test.YtnnhmpehkbihnaaGreatPk51
namespace Go.Proofs.YtnnhmpehkbihnaaGreat
set_option linter.unusedVariables false
set_option maxRecDepth 100000
set_option maxHeartbeats 4000000
open Go.RowKit
open Go.Proofs.Tryz
section
open Go.ChangeShapes Go.WideShapes Go.ChangeAt
theorem modelHeld_law{H:Type}(enc:TypeId×Value→H):Qel enc prog 7 f7:=by
 intro W base k ds p d E R Xg;have c:∀(j:Nat)t v,f7.params[j]? =some t→k[j]? =some v→Value.okWide prog W .any base t v:=d;have J:=E;rw[Tryz.params7]at J c;obtain⟨v0,v1,v2,d0,d1,d2,p0,p1,p2,rfl,rfl,rfl,h0,h1,K⟩:=trodAll_three J;obtain⟨most,rfl,rfl,rfl,_⟩:=open_int underlying3 (c 0 3 v0 rfl rfl) h0;obtain⟨Z,U,q,u⟩:=Qa1 underlying22 Qvd (by kernel_rfl) (by decide) (c 1 22 v1 rfl rfl) h1;obtain⟨l,rfl,hl⟩:=Ms Yy.cells Yy.wf Z (fun x I=>Yy.of_fits (q x I));obtain⟨a,cap,rfl,_,_,z⟩:=U.row;obtain⟨t,rfl,rfl,rfl,ht⟩:=open_int underlying29 (c 2 29 v2 rfl rfl) K;have B:0≤t:=by
  simp[Lit.wf]at ht;have:IntKind.u64.min=0:=by kernel_rfl
  omega
 obtain⟨V,rfl⟩:=Int.eq_ofNat_of_zero_le B;exact(Qwr most V l a cap W (by simpa using u) z hl).mono fun e w' h=>⟨h.1,h.2.below⟩
theorem modelHeld_lifted(os:Os)(c:os.Started)(H:Type)(enc:TypeId×Value→H):
  ReturnsInHanded {} Tryz.checked os 7 .any (Rows.modelHeldSpec.pre6 enc prog f7 Rows.modelHeldRow.domain false) (Rows.modelHeldSpec.post enc prog f7 false true false false):=
 Rh (C:=Tryz.checked) (tb:=4) own c (by kernel_rfl) func7
  (ChangeSpec.witness6 (enc:=enc) (C:=Tryz.checked) false ⟨#[],#[.int .i64 0,.slice none 0 0,.int .u64 0],[]⟩ 8 (by kernel_rfl) (by kernel_rfl) (by kernel_rfl) (by kernel_rfl))
  laidOut (by kernel_rfl) rfl underlying4 rfl (fun k d=>by
   match k,d with
   |[d0,d1,d2],_=>rfl) (modelHeld_law enc)
theorem modelHeld_holds:Rows.ModelHeldSaid:=
 OpenClaim.holds_of_wide 7 f7 rfl rfl rfl rfl rfl rfl rfl ⟨rfl,rfl,rfl,rfl,rfl⟩ rfl rfl rfl rfl rfl named_ok func7 closed
  (of_decide_eq_true (by kernel_rfl)) (by unfold Func.isWrapper;first|(rw[if_pos (by decide+kernel)];kernel_rfl)|(rw[if_neg (by decide+kernel)];exact⟨rfl,rfl⟩))
  (fun os c H enc _=>modelHeld_lifted os c H enc)
end
end Go.Proofs.YtnnhmpehkbihnaaGreat
