/- A part of the proof: no condition. -/
import Derived.Test.YtnnhmpehkbihnaaGreatPk01
import Derived.OrdersHeld
namespace Go.Proofs.YtnnhmpehkbihnaaGreat
set_option linter.unusedVariables false
set_option maxRecDepth 100000
set_option maxHeartbeats 4000000
open Go.RowKit
open Go.Proofs.Tryz
section
variable{P:Program}{ops:Array Oper}{Q:Exit→Act→World→Prop}{C:World→Prop}
def Ld(P:Program)(ops:Array Oper)(Q:Exit→Act→World→Prop)(C:World→Prop)(late:Nat→Bool):Nat→Array Bool→Act→World→Prop
 |0,listed,a,w=>Region.ready .any ops listed=[]∧Q .normal a w
 |f+1,listed,a,w=>(Region.ready .any ops listed=[]→Q .normal a w)∧
  ∀i∈Region.ready .any ops listed,wpOp P ops Q i (fun c w'=>(late i=false→C w')∧Ld P ops Q C late f (listed.setIfInBounds i true) c w') a w
theorem Pj{late:Nat→Bool}:∀(f:Nat)(c:Array Bool)(a:Act)(w),Ld P ops Q C late f c a w→wpAny P .any ops Q f c a w
 |0,_,_,_,h=>h
 |f+1,_,_,_,h=>⟨h.1,fun i hi=>wpOp_mono (fun d w' h'=>Pj f _ d w' h'.2) (h.2 i hi)⟩
theorem Pi{late:Nat→Bool}{i F:Nat}{Z:Oper}{v:Value}(hi:ops[i]? =some Z)(R:∀(j:Nat)(o:Oper)cs b,ops[j]? =some o→o.op≠ .select cs b)
  (hQ:∀c a w,Q (.panic c) (a.put Z.dst v) w→Q (.panic c) a w) (V:∀j E,ops[j]? =some E→late j=true→Xs ops F j i=true):
  ∀(f:Nat)(d:Array Bool)(a:Act)(w),Xj ops d→
   (∀j E,ops[j]? =some E→j≠i→d.getD j true=false→(∀e∈E.after,Region.binds .any e=true→e.on≠i)→Z.apart ops E=true)→
   i∈Region.ready .any ops d→YieldsIf P ops C Z v a→C w→
   Ld P ops Q C late f (d.setIfInBounds i true) (a.put Z.dst v) w→Ld P ops Q C late (f+1) d a w:=by
 intro f;induction f with
 |zero=>
  intro d a w U _ hr hy hC H;refine⟨fun h=>(by rw[h]at hr;cases hr),fun j hj=>?_⟩;by_cases q:j=i;·subst q;exact hy.wpOp hi hC ⟨fun _=>hC,H⟩
  ·have:=ready_mono hj q;rw[H.1]at this;cases this
 |succ f ih=>
  intro d a w U u hr hy hC H;have B:=(mem_ready.1 hr).1;refine⟨fun h=>(by rw[h]at hr;cases hr),fun j hj=>?_⟩;by_cases q:j=i;·subst q;exact hy.wpOp hi hC ⟨fun _=>hC,H⟩
  ·have h1:=H.2 j (ready_mono hj q);obtain⟨K,E,z,J⟩:=mem_ready.1 hj;have af:late j=false:=by
    cases hl:late j with
    |false=>rfl
    |true=>
     have h1:=Yw U F j i (fun o ho e he hb=>by
      have:o=E:=Zs (ho.symm.trans z);subst this;exact J e he hb) (V j E z hl)
     rw[getD_both B]at h1;cases h1
   have ab:∀e∈E.after,Region.binds .any e=true→e.on≠i:=fun e he hb ac=>by have h1:=J e he hb;rw[ac,getD_both B]at h1;cases h1
   have h2:=wpOp_putIf (S:=C) z (u j E z q K ab) (fun cs b=>R i Z cs b hi) (fun cs b=>R j E cs b z) hQ hy h1;have I:∀k ok,ops[k]? =some ok→k≠i→(d.setIfInBounds j true).getD k true=false→
     (∀e∈ok.after,Region.binds .any e=true→e.on≠i)→Z.apart ops ok=true:=fun k ok hk ae B ag=>by
    refine u k ok hk ae ?_ ag;by_cases aa:j=k;·subst aa;exact K
    ·rw[getD_set_ne true aa]at B;exact B
   refine wpOp_mono (fun a' w' h3=>⟨h3.2.1,ih (d.setIfInBounds j true) a' w' (U.set hj) I (ready_mono hr (Ne.symm q)) h3.1 (h3.2.1 af) ?_⟩) h2;rw[Array.setIfInBounds_comm _ _ q];exact h3.2.2
def Qp(P:Program)(o:Oper)(a:Act)(C:World→Prop)(c:Act→Prop):Prop:=
 ∃v,(∀w,C w→(execOp a.eval o).run P w=.ok (.value v) w)∧c (a.put o.dst v)
def Yt(P:Program)(ops:Array Oper)(C:World→Prop)(R:Act→Prop):List Oper→Act→Prop
 |[],a=>R a
 |o::rest,a=>if Region.wanted o (yielded ops a.tmps)then Qp P o a C (Yt P ops C R rest)else Yt P ops C R rest (a.put o.dst undef)
theorem Qg{R:Act→Prop}{a:Act}(h:R a):Yt P ops C R [] a:=h
theorem Ql{R:Act→Prop}{a:Act}{o:Oper}{rest:List Oper}
  (h:∀K:Act→Prop,(∀a,Yt P ops C R rest a→K a)→if Region.wanted o (yielded ops a.tmps)then Qp P o a C K else K (a.put o.dst undef)):Yt P ops C R (o::rest) a:=
 h _ (fun _ h=>h)
def Jd(P:Program)(ops:Array Oper)(Q:Exit→Act→World→Prop)(C:World→Prop)(late:List Oper):List Oper→Act→World→Prop
 |[],a,w=>wpList P ops Q late a w
 |o::rest,a,w=>wpList P ops (Exit.then (fun c w'=>C w'∧Jd P ops Q C late rest c w') Q) [o] a w
def Qvo(ops:Array Oper):Nat→Nat→Array Bool→Bool
 |0,_,listed=>(Region.ready .any ops listed).isEmpty
 |g+1,k,listed=>decide (Region.ready .any ops listed=[k])&&Qvo ops g (k+1) (listed.setIfInBounds k true)
theorem Ko{i:Nat}{o:Oper}{K:Act→World→Prop}{a:Act}{w}(h0:ops[i]? =some o)(h:wpList P ops (Exit.then K Q) [o] a w):wpOp P ops Q i K a w:=by
 unfold wpOp;simp only[h0];simp only[wpList]at h;split
 ·rename_i c;simp only[c,if_true]at h;rcases h with h|⟨h1,a1,w1,d⟩
  ·refine .inl ?_;unfold Oper.wp at*;generalize(execOp a.eval o).run P w=r at*;cases r with
   |ok n w'=> cases n<;>simp only[Oper.upon]at h⊢<;>exact h
   |halt x w'=>cases x<;>simp only[Oper.upon]at h⊢<;>exact h
  ·exact .inr ⟨h1,a1,w1,d⟩
 ·rename_i c;simp only[c]at h;exact h
def Qnb(ops:Array Oper)(g:Nat):Nat→Nat→Array Bool→Bool
 |0,k,listed=>Qvo ops g k listed
 |f+1,k,listed=>(Region.ready .any ops listed).contains k&&Region.free .any ops listed k&&((ops[k]?).map (·.dst.isSome)).getD false&&Qnb ops g f (k+1) (listed.setIfInBounds k true)
def Qox(ops:Array Oper)(m n c:Nat):Bool:=
 (List.range ops.size).all fun t=>decide (t<c)||(List.range n).all fun h=>decide (h<m)||Xs ops ops.size t h
def Qcz(ops:Array Oper)(n g h:Nat):Nat→Nat→Array Bool→Bool
 |0,k,listed=>Qnb ops g h k listed&&decide (k+h=n)
 |f+1,k,listed=>(Region.ready .any ops listed).contains k&&Region.free .any ops listed k&&((ops[k]?).map W9).getD false&&Qcz ops n g h f (k+1) (listed.setIfInBounds k true)
def heldB(ops:Array Oper)(m n c:Nat):Bool:=
 Region.noSelect ops&&decide (m≤n)&&decide (n≤c)&&decide (c≤ops.size)&&Qox ops m n c&&Qcz ops n (ops.size-n) (n-m) m 0 (Array.replicate ops.size false)
end
end Go.Proofs.YtnnhmpehkbihnaaGreat
