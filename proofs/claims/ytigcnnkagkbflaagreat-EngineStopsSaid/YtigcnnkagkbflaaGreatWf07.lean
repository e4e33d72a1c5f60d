/- A part of the proof: no condition. -/
import Derived.Test.YtigcnnkagkbflaaGreatWf04
namespace Go.Proofs.YtigcnnkagkbflaaGreat
set_option linter.unusedVariables false
set_option maxRecDepth 100000
set_option maxHeartbeats 4000000
open Go.RowKit
open Go.Proofs.Tryz
section
variable{P:Program}{ops:Array Oper}{Q:Exit→Act→World→Prop}{C:World→Prop}
def Lr(P:Program)(ops:Array Oper)(Q:Exit→Act→World→Prop)(C:World→Prop):List (Bool×Oper)→Act→Prop
 |[],a=>∀w,C w→Q .normal a w
 |(true,o)::r,a=>if Region.wanted o (yielded ops a.tmps)then Qp P o a C (Lr P ops Q C r)else Lr P ops Q C r (a.put o.dst undef)
 |(false,o)::r,a=>∀w,C w→wpList P ops (Exit.then (fun c w'=>C w'∧Lr P ops Q C r c) Q) [o] a w
def E8(ops:Array Oper):List (Bool×Nat)→List (Bool×Oper)
 |[]=>[]
 |(b,k)::r=>match ops[k]? with
  |some o=>(b,o)::E8 ops r
  |none=>E8 ops r
theorem Id{b:Bool}{k:Nat}{r:List (Bool×Nat)}{o:Oper}(h:ops[k]? =some o):E8 ops ((b,k)::r)=(b,o)::E8 ops r:=by simp[E8,h]
def Qk6(ops:Array Oper):List (Bool×Nat)→Array Bool→Bool
 |[],listed=>(Region.ready .any ops listed).isEmpty
 |(true,k)::r,listed=>(Region.ready .any ops listed).contains k&&Region.free .any ops listed k&&((ops[k]?).map (·.dst.isSome)).getD false&&Qk6 ops r (listed.setIfInBounds k true)
 |(false,k)::r,listed=>decide (Region.ready .any ops listed=[k])&&Qk6 ops r (listed.setIfInBounds k true)
theorem Qfc(z:Region.noSelect ops=true)(V:∀c(a:Act)(d:Tmp)v w,Q (.panic c) (a.put (some d) v) w→Q (.panic c) a w):
  ∀(r:List (Bool×Nat))(q:Array Bool)(a:Act)(w),Xj ops q→C w→Qk6 ops r q=true→Lr P ops Q C (E8 ops r) a→Ld P ops Q C (fun _=>false) r.length q a w
 |[],q,a,w,hcl,hC,hB,h=>⟨by simpa[Qk6]using hB,h w hC⟩
 |(true,k)::r,q,a,w,hcl,hC,hB,h=>by
  simp only[Qk6,Zw]at hB;obtain⟨⟨⟨hr,hf⟩,J⟩,E⟩:=hB;have u:k∈Region.ready .any ops q:=by simpa using hr
  obtain⟨_,o,B,_⟩:=mem_ready.1 u;rw[B]at J;simp only[Zn,Option.getD_some]at J;obtain⟨d,J⟩:=Option.isSome_iff_exists.1 J;rw[Id B]at h;simp only[Lr]at h;have hy:∃v,YieldsIf P ops C o v a∧Lr P ops Q C (E8 ops r) (a.put o.dst v):=by
   by_cases R:Region.wanted o (yielded ops a.tmps)=true;·simp only[R,if_true]at h;obtain⟨v,I,K⟩:=h;exact⟨v,.inl ⟨R,I⟩,K⟩
   ·simp only[R]at h;exact⟨undef,.inr ⟨by simpa using R,rfl⟩,h⟩
  obtain⟨v,hy,hK⟩:=hy;exact Pi (F:=ops.size) B (Region.noSelect_spec z) (fun c U w' hq=>by rw[J]at hq;exact V c U d _ w' hq) (fun j oj hj hT=>by cases hT) _ q a w hcl (Region.free_spec B hf) u hy hC
   (Qfc z V r _ _ w (hcl.set u) hC E hK)
 |(false,k)::r,q,a,w,hcl,hC,hB,h=>by
  simp only[Qk6,Zw,decide_eq_true_eq]at hB;obtain⟨I,E⟩:=hB;have u:k∈Region.ready .any ops q:=by rw[I];simp
  obtain⟨_,o,B,_⟩:=mem_ready.1 u;rw[Id B]at h;simp only[Lr]at h;refine⟨fun K=>(by rw[I]at K;cases K),fun i hi=>?_⟩;rw[I]at hi;have Z:i=k:=by simpa using hi
  subst Z;refine wpOp_mono (fun U w' h'=>⟨fun _=>h'.1,?_⟩) (Ko B (h w hC));exact Qfc z V r _ U w' (hcl.set u) h'.1 E h'.2
theorem Qcp{id:Nat}{a:Act}{w}{l:List Oper}(k:List (Bool×Nat))(C:World→Prop)(K:P.follows .mixedOrders=true)
  (z:(Region.noSelect l.toArray&&(decide (k.length=l.toArray.size)&&Qk6 l.toArray k (Array.replicate l.toArray.size false)))=true)
  (J:∀c(a:Act)(d:Tmp)v w,Q (.panic c) (a.put (some d) v) w→Q (.panic c) a w) (I:C w.drew) (h:Lr P l.toArray Q C (E8 l.toArray k) a):
  (Code.region id l.toArray true).wp P Q a w:=by
 simp only[Zw,decide_eq_true_eq]at z;obtain⟨u,q,z⟩:=z;refine wp_region_any K ?_;have B:Xj l.toArray (Array.replicate l.toArray.size false):=fun j R _ E=>by rw[getD_replicate_false]at E;cases E
 have:=Qfc (P:=P) u J k _ a _ B I z h;rw[q]at this;exact Pj _ _ _ _ this
variable{r:List (Bool×Oper)}{a:Act}{o:Oper}
theorem Qt2(h:∀w,C w→Q .normal a w):Lr P ops Q C [] a:=h
theorem Qr1{v:Value}(d:Region.wanted o (yielded ops a.tmps)=true)(c:∀w,C w→(execOp a.eval o).run P w=.ok (.value v) w)(h:Lr P ops Q C r (a.put o.dst v)):Lr P ops Q C ((true,o)::r) a:=by simp only[Lr,d,if_true];exact⟨v,c,h⟩
theorem Qr0(h:∀w,C w→wpList P ops (Exit.then (fun c w'=>C w'∧Lr P ops Q C r c) Q) [o] a w):Lr P ops Q C ((false,o)::r) a:=h
end
section
variable{n:Nat}{P:Program}{ops:Array Oper}{Q:Exit→Act→World→Prop}{C:World→Prop}
theorem Nx{n m:Nat}{l:Nat}{f:FuncId}{q:Array Value}{d k:Code}{w}{R:Ending→World→Prop}(h:RoundIn Fence.wide n P l f q d k w R):RoundIn Fence.wide m P l f q d k w R:=
 ⟨h.1,fun c cs _=>h.2 c cs (room_wide _)⟩
theorem Qf6{n m:Nat}{l:Nat}{d:Array Value}{W}{R:Ending→World→Prop}(h:YieldAt Fence.wide n P l d W R):YieldAt Fence.wide m P l d W R:=by obtain⟨u,q,c,k,z,B⟩:=h;exact⟨u,q,c,k,z,Nx B⟩
theorem Sd{i:Nat}{o:Oper}{v:Value}{a:Act}(k:ops[i]? =some o)(u:YieldsIf P ops C o v a)
  {K:Act→World→Prop}{w}(d:C w)(h:K (a.put o.dst v) w):wpOpIn Fence.wide n P ops Q i K a w:=by
 unfold Go.wpOpIn;simp only[k];rcases u with⟨c,q⟩|⟨c,rfl⟩;·simp only[c,if_true,Oper.wpIn];refine⟨fun f _=>trivial,?_⟩;rw[show Fence.wide.round=none from rfl,Oper.semAt_none,q w d];exact h
 ·simp only[c,Bool.false_eq_true,if_false];exact⟨fun f _=>trivial,h⟩
theorem Qjo{j:Nat}{k B:Oper}{v:Value}(hj:ops[j]? =some B)(U:k.apart ops B=true)
  (V:∀cs b,k.op≠ .select cs b)(Z:∀cs b,B.op≠ .select cs b)
  (R:∀c a w,Q (.panic c) (a.put k.dst v) w→Q (.panic c) a w){K:Act→World→Prop}{a:Act}{w}
  (z:YieldsIf P ops C k v a) (h:wpOpIn Fence.wide n P ops Q j K (a.put k.dst v) w):
  wpOpIn Fence.wide n P ops Q j (fun a' w'=>YieldsIf P ops C k v a'∧K (a'.put k.dst v) w') a w:=by
 obtain⟨h1,E,h3⟩:=Oper.apart_spec U;have aB:∀(a:Act),YieldsIf P ops C k v a→∀u,YieldsIf P ops C k v (a.put B.dst u):=fun a z u=>
  z.of_same (execOp_put k V a B.dst u h3) (wanted_put k a B.dst u h3)
 have I:∀d,YieldsIf P ops C k v {a with defers:=d::a.defers}:=fun d=>z.of_same rfl rfl;unfold wpOpIn at*;simp only[hj]at*;rw[wanted_put B a k.dst v h1]at h;split
 ·rename_i hw;simp only[hw,if_true]at h;unfold Oper.wpIn at*;refine⟨fun f _=>trivial,?_⟩;have h:=h.2;rw[show Fence.wide.round=none from rfl,Oper.semAt_none,execOp_put B Z a k.dst v h1]at h;rw[show Fence.wide.round=none from rfl,Oper.semAt_none];generalize(execOp a.eval B).run P w=r at*;cases r with
  |ok x w'=>
   cases x<;>simp only[Oper.uponIn]at h⊢;case value u=>exact⟨aB a z u,by rw[←Act.put_comm a v u E];exact h⟩
   case skip=>exact⟨aB a z _,by rw[←Act.put_comm a v undef E];exact h⟩
   case defer d=> refine⟨aB _ (I d) _,?_⟩;rw[←Act.put_comm _ v undef E,←Act.put_defers];exact h
   case enter f args=>
    refine⟨h.1,CallsIn.mono h.2 fun e J q=>?_⟩;cases e with
    |returned u=>exact⟨aB a z u,by rw[←Act.put_comm a v u E];exact q⟩
    |panicked c=>exact R _ _ _ q
    |outgrown=>exact q
   case row row args=>exact⟨h.1,RowsIn.mono h.2 fun u J q=>⟨aB a z u,by rw[←Act.put_comm a v u E];exact q⟩⟩
   case round l f tmps assign body=>
    refine⟨h.1,RoundIn.mono h.2 fun e J q=>?_⟩;cases e with
    |returned u=>exact⟨aB a z u,by rw[←Act.put_comm a v u E];exact q⟩
    |panicked c=>exact R _ _ _ q
    |outgrown=>exact q
  |halt x w'=> cases x<;>simp only[Oper.uponIn]at h⊢;case panic u=>exact R _ _ _ h
 ·rename_i hw;simp only[hw]at h;exact⟨fun f _=>trivial,aB a z _,by rw[←Act.put_comm a v undef E];exact h.2⟩
theorem Qca{i:Nat}{o:Oper}{K:Act→World→Prop}{a:Act}{w}(d:ops[i]? =some o)(h:wpListIn Fence.wide n P ops (Exit.then K Q) [o] a w):wpOpIn Fence.wide n P ops Q i K a w:=by
 unfold wpOpIn;simp only[d];simp only[wpListIn]at h;split
 ·rename_i c;simp only[c,if_true]at h;unfold Oper.wpIn at*;refine⟨h.1,?_⟩;have h:=h.2;generalize(o.semAt Fence.wide.round a.eval).run P w=r at*;cases r with
  |ok x w'=>cases x<;>simp only[Oper.uponIn]at h⊢<;>exact h
  |halt x w'=>cases x<;>simp only[Oper.uponIn]at h⊢<;>exact h
 ·rename_i c;simp only[c]at h;exact h
variable{r:List (Bool×Oper)}{a:Act}{o:Oper}{w:World}
end
section
variable{P:Program}{ops:Array Oper}{Q:Exit→Act→World→Prop}
def Qb7(P:Program)(ops:Array Oper)(Q:Exit→Act→World→Prop)(c:Nat→Bool):Nat→Array Bool→Act→World→Prop
 |0,listed,a,w=>Region.ready .any ops listed=[]∧Q .normal a w
 |f+1,listed,a,w=>(Region.ready .any ops listed=[]→Q .normal a w)∧
  ∀i∈Region.ready .any ops listed,wpOp P ops Q i (fun d w'=>(c i=false→w'=w)∧Qb7 P ops Q c f (listed.setIfInBounds i true) d w') a w
theorem Qb9{d:Nat→Bool}:∀(f:Nat)(c:Array Bool)(a:Act)(w),Qb7 P ops Q d f c a w→wpAny P .any ops Q f c a w
 |0,_,_,_,h=>h
 |f+1,_,_,_,h=>⟨h.1,fun i q=>wpOp_mono (fun k w' h'=>Qb9 f _ k w' h'.2) (h.2 i q)⟩
theorem Bk{z:Nat→Bool}{D:World→Prop}{i F:Nat}{oi:Oper}{v:Value}(hi:ops[i]? =some oi)(U:∀(j:Nat)(o:Oper)cs b,ops[j]? =some o→o.op≠ .select cs b)
  (hQ:∀c a w,Q (.panic c) (a.put oi.dst v) w→Q (.panic c) a w):
  ∀(f:Nat)(d:Array Bool)(a:Act)(w),Xj ops d→
   ((∀w',D w')∨∀j J,ops[j]? =some J→z j=true→d.getD j true=false→Xs ops F j i=true)→
   (∀j J,ops[j]? =some J→j≠i→d.getD j true=false→(∀e∈J.after,Region.binds .any e=true→e.on≠i)→oi.apart ops J=true)→
   i∈Region.ready .any ops d→YieldsIf P ops D oi v a→D w→
   Qb7 P ops Q z f (d.setIfInBounds i true) (a.put oi.dst v) w→Qb7 P ops Q z (f+1) d a w:=by
 intro f;induction f with
 |zero=>
  intro d a w Z _ _ hr hy hD H;refine⟨fun h=>(by rw[h]at hr;cases hr),fun j hj=>?_⟩;by_cases u:j=i;·subst u;exact hy.wpOp hi hD ⟨fun _=>rfl,H⟩
  ·have:=ready_mono hj u;rw[H.1]at this;cases this
 |succ f ih=>
  intro d a w Z q B hr hy hD H;have ac:=(mem_ready.1 hr).1;refine⟨fun h=>(by rw[h]at hr;cases hr),fun j hj=>?_⟩;by_cases u:j=i;·subst u;exact hy.wpOp hi hD ⟨fun _=>rfl,H⟩
  ·have V:=H.2 j (ready_mono hj u);obtain⟨E,J,I,R⟩:=mem_ready.1 hj;have ag:(∀w',D w')∨z j=false:=by
    rcases q with hD|q;·exact .inl hD
    ·refine .inr ?_;cases hl:z j with
     |false=>rfl
     |true=>
      have V:=Yw Z F j i (fun o ho e he hb=>by
       have:o=J:=Zs (ho.symm.trans I);subst this;exact R e he hb) (q j J I hl E)
      rw[getD_both ac]at V;cases V
   have ab:∀e∈J.after,Region.binds .any e=true→e.on≠i:=fun e he hb ae=>by have V:=R e he hb;rw[ae,getD_both ac]at V;cases V
   have h2:=wpOp_putIf (S:=D) I (B j J I u E ab) (fun cs b=>U i oi cs b hi) (fun cs b=>U j J cs b I) hQ hy V;have K:∀k,(d.setIfInBounds j true).getD k true=false→d.getD k true=false:=fun k h=>by
    by_cases aa:j=k;·subst aa;exact E
    ·rwa[getD_set_ne true aa]at h
   refine wpOp_mono (fun a' w' h3=>⟨h3.2.1,ih (d.setIfInBounds j true) a' w' (Z.set hj) ?_ ?_ (ready_mono hr (Ne.symm u)) h3.1 ?_ ?_⟩) h2;·exact q.imp id fun h k ok hk hl hu=>h k ok hk hl (K k hu)
   ·exact fun k ok hk af hu ah=>B k ok hk af (K k hu) ah
   ·rcases ag with h|h;·exact h w'
    ·rw[h3.2.1 h];exact hD
   ·rw[Array.setIfInBounds_comm _ _ u];exact h3.2.2
def Kl(P:Program)(ops:Array Oper)(Q:Exit→Act→World→Prop):List (Nat×Oper)→Act→World→Prop
 |[],a,w=>Q .normal a w
 |(0,o)::r,a,w=>if Region.wanted o (yielded ops a.tmps)then∃v,(execOp a.eval o).run P w=.ok (.value v) w∧Kl P ops Q r (a.put o.dst v) w else Kl P ops Q r (a.put o.dst undef) w
 |(1,o)::r,a,w=>if Region.wanted o (yielded ops a.tmps)then∃v,(∀w',(execOp a.eval o).run P w'=.ok (.value v) w')∧Kl P ops Q r (a.put o.dst v) w else Kl P ops Q r (a.put o.dst undef) w
 |(_+2,o)::r,a,w=>wpList P ops (Exit.then (fun c w'=>Kl P ops Q r c w') Q) [o] a w
def Jk(ops:Array Oper):List (Nat×Nat)→List (Nat×Oper)
 |[]=>[]
 |(b,k)::r=>match ops[k]? with
  |some o=>(b,o)::Jk ops r
  |none=>Jk ops r
theorem Kq{b k:Nat}{r:List (Nat×Nat)}{o:Oper}(h:ops[k]? =some o):Jk ops ((b,k)::r)=(b,o)::Jk ops r:=by simp[Jk,h]
def Rb:List (Nat×Nat)→List Nat
 |[]=>[]
 |(0,_)::r=>Rb r
 |(1,_)::r=>Rb r
 |(_+2,k)::r=>k::Rb r
def xB(ops:Array Oper)(c:List Nat):List (Nat×Nat)→Array Bool→Bool
 |[],listed=>(Region.ready .any ops listed).isEmpty
 |(0,k)::r,listed=>(Region.ready .any ops listed).contains k&&Region.free .any ops listed k&&((ops[k]?).map (·.dst.isSome)).getD false&&(c.all fun j=>listed.getD j true||Xs ops ops.size j k)&&xB ops c r (listed.setIfInBounds k true)
 |(1,k)::r,listed=>(Region.ready .any ops listed).contains k&&Region.free .any ops listed k&&((ops[k]?).map (·.dst.isSome)).getD false&&xB ops c r (listed.setIfInBounds k true)
 |(_+2,k)::r,listed=>decide (Region.ready .any ops listed=[k])&&c.contains k&&xB ops c r (listed.setIfInBounds k true)
theorem Qnw{J:List Nat}(z:Region.noSelect ops=true)(hQ:∀c(a:Act)(d:Tmp)v w,Q (.panic c) (a.put (some d) v) w→Q (.panic c) a w):
  ∀(r:List (Nat×Nat))(q:Array Bool)(a:Act)(w),Xj ops q→xB ops J r q=true→Kl P ops Q (Jk ops r) a w→Qb7 P ops Q (fun j=>J.contains j) r.length q a w
 |[],q,a,w,hcl,hB,h=>⟨by simpa[xB]using hB,h⟩
 |(0,k)::r,q,a,w,hcl,hB,h=>by
  simp only[xB,Zw]at hB;obtain⟨⟨⟨⟨hr,hf⟩,I⟩,ab⟩,E⟩:=hB;have u:k∈Region.ready .any ops q:=by simpa using hr
  obtain⟨_,o,B,_⟩:=mem_ready.1 u;rw[B]at I;simp only[Zn,Option.getD_some]at I;obtain⟨d,I⟩:=Option.isSome_iff_exists.1 I;rw[Kq B]at h;simp only[Kl]at h;have U:∃v,YieldsIf P ops (fun w'=>w'=w) o v a∧Kl P ops Q (Jk ops r) (a.put o.dst v) w:=by
   by_cases K:Region.wanted o (yielded ops a.tmps)=true;·simp only[K,if_true]at h;obtain⟨v,R,V⟩:=h;exact⟨v,.inl ⟨K,fun w' e=>by rw[e];exact R⟩,V⟩
   ·simp only[K]at h;exact⟨undef,.inr ⟨by simpa using K,rfl⟩,h⟩
  obtain⟨v,U,hK⟩:=U;exact Bk (F:=ops.size) B (Region.noSelect_spec z) (fun c Z w' hq=>by rw[I]at hq;exact hQ c Z d _ w' hq) _ q a w hcl
   (.inr fun j oj hj hl hu=>by
    have:=List.all_eq_true.1 ab j (by simpa using hl);rw[hu]at this;simpa using this) (Region.free_spec B hf) u U rfl
   (Qnw z hQ r _ _ w (hcl.set u) E hK)
 |(1,k)::r,q,a,w,hcl,hB,h=>by
  simp only[xB,Zw]at hB;obtain⟨⟨⟨hr,hf⟩,I⟩,E⟩:=hB;have u:k∈Region.ready .any ops q:=by simpa using hr
  obtain⟨_,o,B,_⟩:=mem_ready.1 u;rw[B]at I;simp only[Zn,Option.getD_some]at I;obtain⟨d,I⟩:=Option.isSome_iff_exists.1 I;rw[Kq B]at h;simp only[Kl]at h;have U:∃v,YieldsIf P ops (fun _=>True) o v a∧Kl P ops Q (Jk ops r) (a.put o.dst v) w:=by
   by_cases K:Region.wanted o (yielded ops a.tmps)=true;·simp only[K,if_true]at h;obtain⟨v,R,V⟩:=h;exact⟨v,.inl ⟨K,fun w' _=>R w'⟩,V⟩
   ·simp only[K]at h;exact⟨undef,.inr ⟨by simpa using K,rfl⟩,h⟩
  obtain⟨v,U,hK⟩:=U;exact Bk (F:=ops.size) B (Region.noSelect_spec z) (fun c Z w' hq=>by rw[I]at hq;exact hQ c Z d _ w' hq) _ q a w hcl
   (.inl fun _=>trivial) (Region.free_spec B hf) u U trivial
   (Qnw z hQ r _ _ w (hcl.set u) E hK)
 |(n+2,k)::r,q,a,w,hcl,hB,h=>by
  simp only[xB,Zw,decide_eq_true_eq]at hB;obtain⟨⟨R,hl⟩,E⟩:=hB;have u:k∈Region.ready .any ops q:=by rw[R];simp
  obtain⟨_,o,B,_⟩:=mem_ready.1 u;rw[Kq B]at h;simp only[Kl]at h;refine⟨fun V=>(by rw[R]at V;cases V),fun i hi=>?_⟩;rw[R]at hi;have aa:i=k:=by simpa using hi
  subst aa;refine wpOp_mono (fun Z w' h'=>⟨fun h=>?_,?_⟩) (Ko B h);·exact absurd (show J.contains i=false from h) (by rw[hl];decide)
  ·exact Qnw z hQ r _ Z w' (hcl.set u) E h'
theorem Qj{id:Nat}{a:Act}{w}{l:List Oper}(k:List (Nat×Nat))(J:P.follows .mixedOrders=true)
  (z:(Region.noSelect l.toArray&&(decide (k.length=l.toArray.size)&&xB l.toArray (Rb k) k (Array.replicate l.toArray.size false)))=true)
  (I:∀c(a:Act)(d:Tmp)v w,Q (.panic c) (a.put (some d) v) w→Q (.panic c) a w) (h:Kl P l.toArray Q (Jk l.toArray k) a w.drew):
  (Code.region id l.toArray true).wp P Q a w:=by
 simp only[Zw,decide_eq_true_eq]at z;obtain⟨u,q,z⟩:=z;refine wp_region_any J ?_;have B:Xj l.toArray (Array.replicate l.toArray.size false):=fun j K _ E=>by rw[getD_replicate_false]at E;cases E
 have:=Qnw (P:=P) u I k _ a _ B z h;rw[q]at this;exact Qb9 _ _ _ _ this
variable{r:List (Nat×Oper)}{a:Act}{o:Oper}{w:World}
theorem Jo(h:Q .normal a w):Kl P ops Q [] a w:=h
theorem Qs8(c:Region.wanted o (yielded ops a.tmps)=false:=by kernel_rfl)(h:Kl P ops Q r (a.put o.dst undef) w):Kl P ops Q ((0,o)::r) a w:=by simp only[Kl,c,Bool.false_eq_true,if_false];exact h
theorem Qmz(c:Region.wanted o (yielded ops a.tmps)=false:=by kernel_rfl)(h:Kl P ops Q r (a.put o.dst undef) w):Kl P ops Q ((1,o)::r) a w:=by simp only[Kl,c,Bool.false_eq_true,if_false];exact h
theorem Jq{v:Value}(d:Region.wanted o (yielded ops a.tmps)=true:=by kernel_rfl)(c:(execOp a.eval o).run P w=.ok (.value v) w:=by go_simp;try rfl)(h:Kl P ops Q r (a.put o.dst v) w):Kl P ops Q ((0,o)::r) a w:=by simp only[Kl,d,if_true];exact⟨v,c,h⟩
theorem Q8{v:Value}(d:Region.wanted o (yielded ops a.tmps)=true:=by kernel_rfl)(c:∀w',(execOp a.eval o).run P w'=.ok (.value v) w':=by intros;go_simp;try rfl)(h:Kl P ops Q r (a.put o.dst v) w):Kl P ops Q ((1,o)::r) a w:=by simp only[Kl,d,if_true];exact⟨v,c,h⟩
theorem J7{n:Nat}(h:wpList P ops (Exit.then (fun c w'=>Kl P ops Q r c w') Q) [o] a w):Kl P ops Q ((n+2,o)::r) a w:=h
theorem Qs7{n:Nat}(c:Region.wanted o (yielded ops a.tmps)=false)(h:Kl P ops Q r (a.put o.dst undef) w):Kl P ops Q ((n+2,o)::r) a w:=by show wpList P ops _ [o] a w;simp only[wpList,c,Bool.false_eq_true,if_false];exact h
end
section
variable{n:Nat}{P:Program}{ops:Array Oper}{Q:Exit→Act→World→Prop}
def Bh(n:Nat)(P:Program)(ops:Array Oper)(Q:Exit→Act→World→Prop)(c:Nat→Bool):Nat→Array Bool→Act→World→Prop
 |0,listed,a,w=>Region.ready .any ops listed=[]∧Q .normal a w
 |f+1,listed,a,w=>(Region.ready .any ops listed=[]→Q .normal a w)∧
  ∀i∈Region.ready .any ops listed,wpOpIn Fence.wide n P ops Q i (fun d w'=>(c i=false→w'=w)∧Bh n P ops Q c f (listed.setIfInBounds i true) d w') a w
theorem Tm{d:Nat→Bool}:∀(f:Nat)(c:Array Bool)(a:Act)(w),Bh n P ops Q d f c a w→wpAnyIn Fence.wide n P .any ops Q f c a w
 |0,_,_,_,h=>h
 |f+1,_,_,_,h=>⟨h.1,fun i q=>wpOpIn_mono (fun k w' h'=>Tm f _ k w' h'.2) (h.2 i q)⟩
theorem To{z:Nat→Bool}{D:World→Prop}{i F:Nat}{oi:Oper}{v:Value}(hi:ops[i]? =some oi)(U:∀(j:Nat)(o:Oper)cs b,ops[j]? =some o→o.op≠ .select cs b)
  (hQ:∀c a w,Q (.panic c) (a.put oi.dst v) w→Q (.panic c) a w):
  ∀(f:Nat)(d:Array Bool)(a:Act)(w),Xj ops d→
   ((∀w',D w')∨∀j J,ops[j]? =some J→z j=true→d.getD j true=false→Xs ops F j i=true)→
   (∀j J,ops[j]? =some J→j≠i→d.getD j true=false→(∀e∈J.after,Region.binds .any e=true→e.on≠i)→oi.apart ops J=true)→
   i∈Region.ready .any ops d→YieldsIf P ops D oi v a→D w→
   Bh n P ops Q z f (d.setIfInBounds i true) (a.put oi.dst v) w→Bh n P ops Q z (f+1) d a w:=by
 intro f;induction f with
 |zero=>
  intro d a w Z _ _ hr hy hD H;refine⟨fun h=>(by rw[h]at hr;cases hr),fun j hj=>?_⟩;by_cases u:j=i;·subst u;exact Sd hi hy hD ⟨fun _=>rfl,H⟩
  ·have:=ready_mono hj u;rw[H.1]at this;cases this
 |succ f ih=>
  intro d a w Z q B hr hy hD H;have ac:=(mem_ready.1 hr).1;refine⟨fun h=>(by rw[h]at hr;cases hr),fun j hj=>?_⟩;by_cases u:j=i;·subst u;exact Sd hi hy hD ⟨fun _=>rfl,H⟩
  ·have V:=H.2 j (ready_mono hj u);obtain⟨E,J,I,R⟩:=mem_ready.1 hj;have ag:(∀w',D w')∨z j=false:=by
    rcases q with hD|q;·exact .inl hD
    ·refine .inr ?_;cases hl:z j with
     |false=>rfl
     |true=>
      have V:=Yw Z F j i (fun o ho e he hb=>by
       have:o=J:=Zs (ho.symm.trans I);subst this;exact R e he hb) (q j J I hl E)
      rw[getD_both ac]at V;cases V
   have ab:∀e∈J.after,Region.binds .any e=true→e.on≠i:=fun e he hb ae=>by have V:=R e he hb;rw[ae,getD_both ac]at V;cases V
   have h2:=Qjo (C:=D) I (B j J I u E ab) (fun cs b=>U i oi cs b hi) (fun cs b=>U j J cs b I) hQ hy V;have K:∀k,(d.setIfInBounds j true).getD k true=false→d.getD k true=false:=fun k h=>by
    by_cases aa:j=k;·subst aa;exact E
    ·rwa[getD_set_ne true aa]at h
   refine wpOpIn_mono (fun a' w' h3=>⟨h3.2.1,ih (d.setIfInBounds j true) a' w' (Z.set hj) ?_ ?_ (ready_mono hr (Ne.symm u)) h3.1 ?_ ?_⟩) h2;·exact q.imp id fun h k ok hk hl hu=>h k ok hk hl (K k hu)
   ·exact fun k ok hk af hu ah=>B k ok hk af (K k hu) ah
   ·rcases ag with h|h;·exact h w'
    ·rw[h3.2.1 h];exact hD
   ·rw[Array.setIfInBounds_comm _ _ u];exact h3.2.2
def Uo(n:Nat)(P:Program)(ops:Array Oper)(Q:Exit→Act→World→Prop):List (Nat×Oper)→Act→World→Prop
 |[],a,w=>Q .normal a w
 |(0,o)::r,a,w=>if Region.wanted o (yielded ops a.tmps)then∃v,(execOp a.eval o).run P w=.ok (.value v) w∧Uo n P ops Q r (a.put o.dst v) w else Uo n P ops Q r (a.put o.dst undef) w
 |(1,o)::r,a,w=>if Region.wanted o (yielded ops a.tmps)then∃v,(∀w',(execOp a.eval o).run P w'=.ok (.value v) w')∧Uo n P ops Q r (a.put o.dst v) w else Uo n P ops Q r (a.put o.dst undef) w
 |(_+2,o)::r,a,w=>wpListIn Fence.wide n P ops (Exit.then (fun c w'=>Uo n P ops Q r c w') Q) [o] a w
theorem Qf1{J:List Nat}(z:Region.noSelect ops=true)(hQ:∀c(a:Act)(d:Tmp)v w,Q (.panic c) (a.put (some d) v) w→Q (.panic c) a w):
  ∀(r:List (Nat×Nat))(q:Array Bool)(a:Act)(w),Xj ops q→xB ops J r q=true→Uo n P ops Q (Jk ops r) a w→Bh n P ops Q (fun j=>J.contains j) r.length q a w
 |[],q,a,w,hcl,hB,h=>⟨by simpa[xB]using hB,h⟩
 |(0,k)::r,q,a,w,hcl,hB,h=>by
  simp only[xB,Zw]at hB;obtain⟨⟨⟨⟨hr,hf⟩,I⟩,ab⟩,E⟩:=hB;have u:k∈Region.ready .any ops q:=by simpa using hr
  obtain⟨_,o,B,_⟩:=mem_ready.1 u;rw[B]at I;simp only[Zn,Option.getD_some]at I;obtain⟨d,I⟩:=Option.isSome_iff_exists.1 I;rw[Kq B]at h;simp only[Uo]at h;have U:∃v,YieldsIf P ops (fun w'=>w'=w) o v a∧Uo n P ops Q (Jk ops r) (a.put o.dst v) w:=by
   by_cases K:Region.wanted o (yielded ops a.tmps)=true;·simp only[K,if_true]at h;obtain⟨v,R,V⟩:=h;exact⟨v,.inl ⟨K,fun w' e=>by rw[e];exact R⟩,V⟩
   ·simp only[K]at h;exact⟨undef,.inr ⟨by simpa using K,rfl⟩,h⟩
  obtain⟨v,U,hK⟩:=U;exact To (F:=ops.size) B (Region.noSelect_spec z) (fun c Z w' hq=>by rw[I]at hq;exact hQ c Z d _ w' hq) _ q a w hcl
   (.inr fun j oj hj hl hu=>by
    have:=List.all_eq_true.1 ab j (by simpa using hl);rw[hu]at this;simpa using this) (Region.free_spec B hf) u U rfl
   (Qf1 z hQ r _ _ w (hcl.set u) E hK)
 |(1,k)::r,q,a,w,hcl,hB,h=>by
  simp only[xB,Zw]at hB;obtain⟨⟨⟨hr,hf⟩,I⟩,E⟩:=hB;have u:k∈Region.ready .any ops q:=by simpa using hr
  obtain⟨_,o,B,_⟩:=mem_ready.1 u;rw[B]at I;simp only[Zn,Option.getD_some]at I;obtain⟨d,I⟩:=Option.isSome_iff_exists.1 I;rw[Kq B]at h;simp only[Uo]at h;have U:∃v,YieldsIf P ops (fun _=>True) o v a∧Uo n P ops Q (Jk ops r) (a.put o.dst v) w:=by
   by_cases K:Region.wanted o (yielded ops a.tmps)=true;·simp only[K,if_true]at h;obtain⟨v,R,V⟩:=h;exact⟨v,.inl ⟨K,fun w' _=>R w'⟩,V⟩
   ·simp only[K]at h;exact⟨undef,.inr ⟨by simpa using K,rfl⟩,h⟩
  obtain⟨v,U,hK⟩:=U;exact To (F:=ops.size) B (Region.noSelect_spec z) (fun c Z w' hq=>by rw[I]at hq;exact hQ c Z d _ w' hq) _ q a w hcl
   (.inl fun _=>trivial) (Region.free_spec B hf) u U trivial
   (Qf1 z hQ r _ _ w (hcl.set u) E hK)
 |(m+2,k)::r,q,a,w,hcl,hB,h=>by
  simp only[xB,Zw,decide_eq_true_eq]at hB;obtain⟨⟨R,hl⟩,E⟩:=hB;have u:k∈Region.ready .any ops q:=by rw[R];simp
  obtain⟨_,o,B,_⟩:=mem_ready.1 u;rw[Kq B]at h;simp only[Uo]at h;refine⟨fun V=>(by rw[R]at V;cases V),fun i hi=>?_⟩;rw[R]at hi;have aa:i=k:=by simpa using hi
  subst aa;refine wpOpIn_mono (fun Z w' h'=>⟨fun h=>?_,?_⟩) (Qca B h);·exact absurd (show J.contains i=false from h) (by rw[hl];decide)
  ·exact Qf1 z hQ r _ Z w' (hcl.set u) E h'
theorem Lx{id:Nat}{a:Act}{w}{l:List Oper}(k:List (Nat×Nat))(J:P.follows .mixedOrders=true)
  (z:(Region.noSelect l.toArray&&(decide (k.length=l.toArray.size)&&xB l.toArray (Rb k) k (Array.replicate l.toArray.size false)))=true)
  (I:∀c(a:Act)(d:Tmp)v w,Q (.panic c) (a.put (some d) v) w→Q (.panic c) a w) (h:Uo n P l.toArray Q (Jk l.toArray k) a w.drew):
  (Code.region id l.toArray true).wpIn Fence.wide n P Q a w:=by
 simp only[Zw,decide_eq_true_eq]at z;obtain⟨u,q,z⟩:=z;refine wpIn_region_any J ?_;have B:Xj l.toArray (Array.replicate l.toArray.size false):=fun j K _ E=>by rw[getD_replicate_false]at E;cases E
 have:=Qf1 (n:=n) (P:=P) (Q:=Q) u I k _ a _ B z h;rw[q]at this;exact Tm _ _ _ _ this
variable{r:List (Nat×Oper)}{a:Act}{o:Oper}{w:World}
theorem Qf2(h:Q .normal a w):Uo n P ops Q [] a w:=h
theorem Qf4(c:Region.wanted o (yielded ops a.tmps)=false:=by kernel_rfl)(h:Uo n P ops Q r (a.put o.dst undef) w):Uo n P ops Q ((0,o)::r) a w:=by simp only[Uo,c,Bool.false_eq_true,if_false];exact h
theorem Ae(c:Region.wanted o (yielded ops a.tmps)=false:=by kernel_rfl)(h:Uo n P ops Q r (a.put o.dst undef) w):Uo n P ops Q ((1,o)::r) a w:=by simp only[Uo,c,Bool.false_eq_true,if_false];exact h
theorem Et{v:Value}(d:Region.wanted o (yielded ops a.tmps)=true:=by kernel_rfl)(c:(execOp a.eval o).run P w=.ok (.value v) w:=by go_simp;try rfl)(h:Uo n P ops Q r (a.put o.dst v) w):Uo n P ops Q ((0,o)::r) a w:=by simp only[Uo,d,if_true];exact⟨v,c,h⟩
theorem Dl{v:Value}(d:Region.wanted o (yielded ops a.tmps)=true:=by kernel_rfl)(c:∀w',(execOp a.eval o).run P w'=.ok (.value v) w':=by intros;go_simp;try rfl)(h:Uo n P ops Q r (a.put o.dst v) w):Uo n P ops Q ((1,o)::r) a w:=by simp only[Uo,d,if_true];exact⟨v,c,h⟩
theorem Bl{m:Nat}(h:wpListIn Fence.wide n P ops (Exit.then (fun c w'=>Uo n P ops Q r c w') Q) [o] a w):Uo n P ops Q ((m+2,o)::r) a w:=h
theorem Qf3{m:Nat}(c:Region.wanted o (yielded ops a.tmps)=false)(h:Uo n P ops Q r (a.put o.dst undef) w):Uo n P ops Q ((m+2,o)::r) a w:=by show wpListIn Fence.wide n P ops _ [o] a w;simp only[wpListIn,c,Bool.false_eq_true,if_false];exact⟨fun f _=>trivial,h⟩
end
def Z7(p:List Nat):List (Nat×Nat):=p.map fun n=>(n/100,n%100)
def Z8(ops:Array Oper):List Nat→List (Nat×Oper)
 |[]=>[]
 |n::r=>match ops[n%100]? with|some o=>(n/100,o)::Z8 ops r|none=>Z8 ops r
theorem ZA(ops:Array Oper)(p:List Nat):Z8 ops p=Jk ops (Z7 p):=by
 induction p with
 |nil=>rfl
 |cons n r ih=>show _=Jk ops ((n/100,n%100)::Z7 r);rw[Z8,Jk,ih]
theorem ZB{Q:Exit→Act→World→Prop}{id:Nat}{a:Act}{w:World}{l:List Oper}(p:List Nat)(h:Kl prog l.toArray Q (Z8 l.toArray p) a w.drew)(hB:(Region.noSelect l.toArray&&(decide ((Z7 p).length=l.toArray.size)&&xB l.toArray (Rb (Z7 p)) (Z7 p) (Array.replicate l.toArray.size false)))=true:=by kernel_rfl)(hQ:∀c (a:Act)(d:Tmp) v w,Q (.panic c) (a.put (some d) v) w→Q (.panic c) a w:=by exact fun _ _ _ _ _ h=>h):(Code.region id l.toArray true).wp prog Q a w:=Qj _ Zq hB hQ (by rw[←ZA];exact h)
section
variable{P:Program}{ops:Array Oper}{Q:Exit→Act→World→Prop}{D:World→Prop}
def Fi(P:Program)(ops:Array Oper)(Q:Exit→Act→World→Prop)(D:World→Prop)(c d:Nat→Bool):Nat→Array Bool→Act→World→Prop
 |0,listed,a,w=>Region.ready .any ops listed=[]∧Q .normal a w
 |f+1,listed,a,w=>(Region.ready .any ops listed=[]→Q .normal a w)∧
  ∀i∈Region.ready .any ops listed,wpOp P ops Q i (fun k w'=>((c i=false→w'=w)∧(c i=true→d i=false→D w'))∧Fi P ops Q D c d f (listed.setIfInBounds i true) k w') a w
theorem Mu{d k:Nat→Bool}:∀(f:Nat)(c:Array Bool)(a:Act)(w),Fi P ops Q D d k f c a w→wpAny P .any ops Q f c a w
 |0,_,_,_,h=>h
 |f+1,_,_,_,h=>⟨h.1,fun i u=>wpOp_mono (fun q w' h'=>Mu f _ q w' h'.2) (h.2 i u)⟩
theorem Gm{u Z:Nat→Bool}{E:World→Prop}{i F:Nat}{oi:Oper}{v:Value}(hi:ops[i]? =some oi)(af:u i=false)(ab:∀(j:Nat)(o:Oper)cs b,ops[j]? =some o→o.op≠ .select cs b)
  (hQ:∀c a w,Q (.panic c) (a.put oi.dst v) w→Q (.panic c) a w):
  ∀(f:Nat)(d:Array Bool)(a:Act)(w),Xj ops d→
   (((∀w',D w'→E w')∧∀j B,ops[j]? =some B→Z j=true→d.getD j true=false→Xs ops F j i=true)∨∀j B,ops[j]? =some B→u j=true→d.getD j true=false→Xs ops F j i=true)→
   (∀j B,ops[j]? =some B→j≠i→d.getD j true=false→(∀e∈B.after,Region.binds .any e=true→e.on≠i)→oi.apart ops B=true)→
   i∈Region.ready .any ops d→YieldsIf P ops E oi v a→E w→
   Fi P ops Q D u Z f (d.setIfInBounds i true) (a.put oi.dst v) w→Fi P ops Q D u Z (f+1) d a w:=by
 intro f;induction f with
 |zero=>
  intro d a w ac _ _ hr hy hE H;refine⟨fun h=>(by rw[h]at hr;cases hr),fun j hj=>?_⟩;by_cases q:j=i;·subst q;exact hy.wpOp hi hE ⟨⟨fun _=>rfl,fun I _=>(by rw[af]at I;cases I)⟩,H⟩
  ·have:=ready_mono hj q;rw[H.1]at this;cases this
 |succ f ih=>
  intro d a w ac U R hr hy hE H;have ah:=(mem_ready.1 hr).1;refine⟨fun h=>(by rw[h]at hr;cases hr),fun j hj=>?_⟩;by_cases q:j=i;·subst q;exact hy.wpOp hi hE ⟨⟨fun _=>rfl,fun I _=>(by rw[af]at I;cases I)⟩,H⟩
  ·have I:=H.2 j (ready_mono hj q);obtain⟨z,B,J,aa⟩:=mem_ready.1 hj;have V:Xs ops F j i=true→False:=fun hw=>by
    have I:=Yw ac F j i (fun o ho e he hb=>by
     have:o=B:=Zs (ho.symm.trans J);subst this;exact aa e he hb) hw
    rw[getD_both ah]at I;cases I
   have ag:∀e∈B.after,Region.binds .any e=true→e.on≠i:=fun e he hb ai=>by have I:=aa e he hb;rw[ai,getD_both ah]at I;cases I
   have h2:=wpOp_putIf (S:=E) J (R j B J q z ag) (fun cs b=>ab i oi cs b hi) (fun cs b=>ab j B cs b J) hQ hy I;have K:∀k,(d.setIfInBounds j true).getD k true=false→d.getD k true=false:=fun k h=>by
    by_cases ae:j=k;·subst ae;exact z
    ·rwa[getD_set_ne true ae]at h
   refine wpOp_mono (fun a' w' h3=>⟨h3.2.1,ih (d.setIfInBounds j true) a' w' (ac.set hj) ?_ ?_ (ready_mono hr (Ne.symm q)) h3.1 ?_ ?_⟩) h2;·exact U.imp (fun h=>⟨h.1,fun k ok hk hl hu=>h.2 k ok hk hl (K k hu)⟩) fun h k ok hk hl hu=>h k ok hk hl (K k hu)
   ·exact fun k ok hk aj hu V=>R k ok hk aj (K k hu) V
   ·cases hl:u j with
    |false=>rw[h3.2.1.1 hl];exact hE
    |true=>
     rcases U with h|h
     ·cases hn:Z j with
      |false=>exact h.1 w' (h3.2.1.2 hl hn)
      |true=>exact(V (h.2 j B J hn z)).elim
     ·exact(V (h j B J hl z)).elim
   ·rw[Array.setIfInBounds_comm _ _ q];exact h3.2.2
def J9(P:Program)(ops:Array Oper)(Q:Exit→Act→World→Prop)(D:World→Prop):List (Nat×Oper)→Act→World→Prop
 |[],a,w=>Q .normal a w
 |(0,o)::r,a,w=>if Region.wanted o (yielded ops a.tmps)then∃v,(execOp a.eval o).run P w=.ok (.value v) w∧J9 P ops Q D r (a.put o.dst v) w else J9 P ops Q D r (a.put o.dst undef) w
 |(1,o)::r,a,w=>if Region.wanted o (yielded ops a.tmps)then∃v,(∀w',D w'→(execOp a.eval o).run P w'=.ok (.value v) w')∧J9 P ops Q D r (a.put o.dst v) w else J9 P ops Q D r (a.put o.dst undef) w
 |(2,o)::r,a,w=>wpList P ops (Exit.then (fun c w'=>D w'∧J9 P ops Q D r c w') Q) [o] a w
 |(_+3,o)::r,a,w=>wpList P ops (Exit.then (fun c w'=>J9 P ops Q D r c w') Q) [o] a w
def Qh8:List (Nat×Nat)→List Nat
 |[]=>[]
 |(0,_)::r=>Qh8 r
 |(1,_)::r=>Qh8 r
 |(2,_)::r=>Qh8 r
 |(_+3,k)::r=>k::Qh8 r
def Qdn(ops:Array Oper)(d:List Nat)(k:Nat)(c:Array Bool):Bool:=(Region.ready .any ops c).contains k&&Region.free .any ops c k&&((ops[k]?).map (·.dst.isSome)).getD false&&!d.contains k
def xdB(ops:Array Oper)(c d:List Nat):List (Nat×Nat)→Array Bool→Bool
 |[],listed=>(Region.ready .any ops listed).isEmpty
 |(0,k)::r,listed=>Qdn ops c k listed&&(c.all fun j=>listed.getD j true||Xs ops ops.size j k)&&xdB ops c d r (listed.setIfInBounds k true)
 |(1,k)::r,listed=>Qdn ops c k listed&&(d.all fun j=>listed.getD j true||Xs ops ops.size j k)&&xdB ops c d r (listed.setIfInBounds k true)
 |(2,k)::r,listed=>decide (Region.ready .any ops listed=[k])&&c.contains k&&xdB ops c d r (listed.setIfInBounds k true)
 |(_+3,k)::r,listed=>decide (Region.ready .any ops listed=[k])&&c.contains k&&d.contains k&&(r.all fun x=>x.1 != 1)&&xdB ops c d r (listed.setIfInBounds k true)
theorem E7{q:List Nat}{k:Nat}{c:Array Bool}(h:Qdn ops q k c=true):k∈Region.ready .any ops c∧Region.free .any ops c k=true∧q.contains k=false∧∃o d,ops[k]? =some o∧o.dst=some d:=by
 simp only[Qdn,Zw,Bool.not_eq_true']at h;obtain⟨⟨⟨J,E⟩,u⟩,I⟩:=h;have z:k∈Region.ready .any ops c:=by simpa using J
 obtain⟨_,o,B,_⟩:=mem_ready.1 z;rw[B]at u;simp only[Zn,Option.getD_some]at u;obtain⟨d,u⟩:=Option.isSome_iff_exists.1 u;exact⟨z,E,I,o,d,B,u⟩
theorem Qcd{E af:List Nat}(z:Region.noSelect ops=true)(hQ:∀c(a:Act)(d:Tmp)v w,Q (.panic c) (a.put (some d) v) w→Q (.panic c) a w):
  ∀(r:List (Nat×Nat))(q:Array Bool)(a:Act)(w),Xj ops q→(D w∨(r.all fun x=>x.1 != 1)=true)→xdB ops E af r q=true→J9 P ops Q D (Jk ops r) a w→
   Fi P ops Q D (fun j=>E.contains j) (fun j=>af.contains j) r.length q a w
 |[],q,a,w,hcl,U,hB,h=>⟨by simpa[xdB]using hB,h⟩
 |(0,k)::r,q,a,w,hcl,U,hB,h=>by
  simp only[xdB,Zw]at hB;obtain⟨⟨ab,ae⟩,B⟩:=hB;obtain⟨u,hf,K,o,d,I,hd⟩:=E7 ab;rw[Kq I]at h;simp only[J9]at h;have hy:∃v,YieldsIf P ops (fun w'=>w'=w) o v a∧J9 P ops Q D (Jk ops r) (a.put o.dst v) w:=by
   by_cases V:Region.wanted o (yielded ops a.tmps)=true;·simp only[V,if_true]at h;obtain⟨v,J,R⟩:=h;exact⟨v,.inl ⟨V,fun w' e=>by rw[e];exact J⟩,R⟩
   ·simp only[V]at h;exact⟨undef,.inr ⟨by simpa using V,rfl⟩,h⟩
  obtain⟨v,hy,hK⟩:=hy;exact Gm (F:=ops.size) I K (Region.noSelect_spec z) (fun c Z w' hq=>by rw[hd]at hq;exact hQ c Z d _ w' hq) _ q a w hcl
   (.inr fun j oj hj K hu=>by
    have:=List.all_eq_true.1 ae j (by simpa using K);rw[hu]at this;simpa using this) (Region.free_spec I hf) u hy rfl
   (Qcd z hQ r _ _ w (hcl.set u) (U.imp id fun h=>by simpa using h) B hK)
 |(1,k)::r,q,a,w,hcl,U,hB,h=>by
  simp only[xdB,Zw]at hB;obtain⟨⟨ab,ae⟩,B⟩:=hB;have U:D w:=U.elim id fun h=>by simp at h
  obtain⟨u,hf,K,o,d,I,hd⟩:=E7 ab;rw[Kq I]at h;simp only[J9]at h;have hy:∃v,YieldsIf P ops D o v a∧J9 P ops Q D (Jk ops r) (a.put o.dst v) w:=by
   by_cases V:Region.wanted o (yielded ops a.tmps)=true;·simp only[V,if_true]at h;obtain⟨v,J,R⟩:=h;exact⟨v,.inl ⟨V,J⟩,R⟩
   ·simp only[V]at h;exact⟨undef,.inr ⟨by simpa using V,rfl⟩,h⟩
  obtain⟨v,hy,hK⟩:=hy;exact Gm (F:=ops.size) I K (Region.noSelect_spec z) (fun c Z w' hq=>by rw[hd]at hq;exact hQ c Z d _ w' hq) _ q a w hcl
   (.inl ⟨fun _ h=>h,fun j oj hj K hu=>by
    have:=List.all_eq_true.1 ae j (by simpa using K);rw[hu]at this;simpa using this⟩) (Region.free_spec I hf) u hy U
   (Qcd z hQ r _ _ w (hcl.set u) (.inl U) B hK)
 |(2,k)::r,q,a,w,hcl,U,hB,h=>by
  simp only[xdB,Zw,decide_eq_true_eq]at hB;obtain⟨⟨J,K⟩,B⟩:=hB;have u:k∈Region.ready .any ops q:=by rw[J];simp
  obtain⟨_,o,I,_⟩:=mem_ready.1 u;rw[Kq I]at h;simp only[J9]at h;refine⟨fun R=>(by rw[J]at R;cases R),fun i hi=>?_⟩;rw[J]at hi;have aa:i=k:=by simpa using hi
  subst aa;refine wpOp_mono (fun Z w' h'=>⟨⟨fun h=>absurd (show E.contains i=false from h) (by rw[K];decide),fun _ _=>h'.1⟩,?_⟩) (Ko I h);exact Qcd z hQ r _ Z w' (hcl.set u) (.inl h'.1) B h'.2
 |(n+3,k)::r,q,a,w,hcl,U,hB,h=>by
  simp only[xdB,Zw,decide_eq_true_eq]at hB;obtain⟨⟨⟨⟨J,K⟩,hn⟩,ac⟩,B⟩:=hB;have u:k∈Region.ready .any ops q:=by rw[J];simp
  obtain⟨_,o,I,_⟩:=mem_ready.1 u;rw[Kq I]at h;simp only[J9]at h;refine⟨fun R=>(by rw[J]at R;cases R),fun i hi=>?_⟩;rw[J]at hi;have aa:i=k:=by simpa using hi
  subst aa;refine wpOp_mono (fun Z w' h'=>⟨⟨fun h=>absurd (show E.contains i=false from h) (by rw[K];decide),fun _ h=>absurd (show af.contains i=false from h) (by rw[hn];decide)⟩,?_⟩) (Ko I h);exact Qcd z hQ r _ Z w' (hcl.set u) (.inr ac) B h'
theorem Jp{id:Nat}{a:Act}{w}{l:List Oper}(k:List (Nat×Nat))(D:World→Prop)(K:P.follows .mixedOrders=true)
  (z:(Region.noSelect l.toArray&&(decide (k.length=l.toArray.size)&&xdB l.toArray (Rb k) (Qh8 k) k (Array.replicate l.toArray.size false)))=true)
  (J:∀c(a:Act)(d:Tmp)v w,Q (.panic c) (a.put (some d) v) w→Q (.panic c) a w) (I:D w.drew) (h:J9 P l.toArray Q D (Jk l.toArray k) a w.drew):
  (Code.region id l.toArray true).wp P Q a w:=by
 simp only[Zw,decide_eq_true_eq]at z;obtain⟨u,q,z⟩:=z;refine wp_region_any K ?_;have B:Xj l.toArray (Array.replicate l.toArray.size false):=fun j R _ E=>by rw[getD_replicate_false]at E;cases E
 have:=Qcd (P:=P) (D:=D) u J k _ a _ B (.inl I) z h;rw[q]at this;exact Mu _ _ _ _ this
variable{r:List (Nat×Oper)}{a:Act}{o:Oper}{w:World}
theorem Ky(h:Q .normal a w):J9 P ops Q D [] a w:=h
theorem Xe{v:Value}(d:Region.wanted o (yielded ops a.tmps)=true:=by kernel_rfl)(c:(execOp a.eval o).run P w=.ok (.value v) w:=by go_simp;try rfl)(h:J9 P ops Q D r (a.put o.dst v) w):J9 P ops Q D ((0,o)::r) a w:=by simp only[J9,d,if_true];exact⟨v,c,h⟩
theorem Qy{v:Value}(d:Region.wanted o (yielded ops a.tmps)=true:=by kernel_rfl)(c:∀w',D w'→(execOp a.eval o).run P w'=.ok (.value v) w':=by intros;go_simp;try rfl)(h:J9 P ops Q D r (a.put o.dst v) w):J9 P ops Q D ((1,o)::r) a w:=by simp only[J9,d,if_true];exact⟨v,c,h⟩
theorem Yb(h:wpList P ops (Exit.then (fun c w'=>D w'∧J9 P ops Q D r c w') Q) [o] a w):J9 P ops Q D ((2,o)::r) a w:=h
theorem Km(h:wpList P ops (Exit.then (fun c w'=>J9 P ops Q D r c w') Q) [o] a w):J9 P ops Q D ((3,o)::r) a w:=h
end
theorem ZC{Q:Exit→Act→World→Prop}{id:Nat}{a:Act}{w:World}{l:List Oper}(p:List Nat)(D:World→Prop)(h:J9 prog l.toArray Q D (Z8 l.toArray p) a w.drew)(hB:(Region.noSelect l.toArray&&(decide ((Z7 p).length=l.toArray.size)&&xdB l.toArray (Rb (Z7 p)) (Qh8 (Z7 p)) (Z7 p) (Array.replicate l.toArray.size false)))=true:=by kernel_rfl)(hQ:∀c (a:Act)(d:Tmp) v w,Q (.panic c) (a.put (some d) v) w→Q (.panic c) a w:=by exact fun _ _ _ _ _ h=>h)(hC:D w.drew:=by exact Z0):(Code.region id l.toArray true).wp prog Q a w:=Jp _ D Zq hB hQ hC (by rw[←ZA];exact h)
section
variable{n rl:Nat}{P:Program}{ops:Array Oper}{Q:Exit→Act→World→Prop}{C:World→Prop}
abbrev rF(rl:Nat):Fence:=Fence.wide.inRound rl
def Gh(o:Oper):Bool:=match o.op with| .defer _=>false|_=>true
theorem Qfg{o:Oper}(h:Gh o=true):∀c,o.op≠ .defer c:=fun c e=>by unfold Gh at h;rw[e]at h;cases h
theorem Qbq{o:Oper}(h:Gh o=true)(ρ:Operand→Value):o.semAt (rF rl).round ρ=execOp ρ o:=Oper.semAt_eq _ ρ o (Qfg h)
theorem Se{i:Nat}{o:Oper}{v:Value}{a:Act}(q:ops[i]? =some o)(c:Gh o=true)(z:YieldsIf P ops C o v a)
  {K:Act→World→Prop}{w}(k:C w)(h:K (a.put o.dst v) w):wpOpIn (rF rl) n P ops Q i K a w:=by
 unfold Go.wpOpIn;simp only[q];rcases z with⟨d,u⟩|⟨d,rfl⟩;·simp only[d,if_true,Oper.wpIn];refine⟨fun f _=>trivial,?_⟩;rw[Qbq c,u w k];exact h
 ·simp only[d,Bool.false_eq_true,if_false];exact⟨fun f _=>trivial,h⟩
theorem Qjp{j:Nat}{k q:Oper}{v:Value}(hj:ops[j]? =some q)(J:Gh q=true)(V:k.apart ops q=true)
  (Z:∀cs b,k.op≠ .select cs b)(aa:∀cs b,q.op≠ .select cs b)
  (U:∀c a w,Q (.panic c) (a.put k.dst v) w→Q (.panic c) a w){K:Act→World→Prop}{a:Act}{w}
  (B:YieldsIf P ops C k v a) (h:wpOpIn (rF rl) n P ops Q j K (a.put k.dst v) w):
  wpOpIn (rF rl) n P ops Q j (fun a' w'=>YieldsIf P ops C k v a'∧K (a'.put k.dst v) w') a w:=by
 obtain⟨h1,E,h3⟩:=Oper.apart_spec V;have aB:∀(a:Act),YieldsIf P ops C k v a→∀u,YieldsIf P ops C k v (a.put q.dst u):=fun a B u=>
  B.of_same (execOp_put k Z a q.dst u h3) (wanted_put k a q.dst u h3)
 have I:∀d,YieldsIf P ops C k v {a with defers:=d::a.defers}:=fun d=>B.of_same rfl rfl;unfold wpOpIn at*;simp only[hj]at*;rw[wanted_put q a k.dst v h1]at h;split
 ·rename_i hw;simp only[hw,if_true]at h;unfold Oper.wpIn at*;refine⟨fun f _=>trivial,?_⟩;have h:=h.2;rw[Qbq J,execOp_put q aa a k.dst v h1]at h;rw[Qbq J];generalize(execOp a.eval q).run P w=r at*;cases r with
  |ok x w'=>
   cases x<;>simp only[Oper.uponIn]at h⊢;case value u=>exact⟨aB a B u,by rw[←Act.put_comm a v u E];exact h⟩
   case skip=>exact⟨aB a B _,by rw[←Act.put_comm a v undef E];exact h⟩
   case defer d=> refine⟨aB _ (I d) _,?_⟩;rw[←Act.put_comm _ v undef E,←Act.put_defers];exact h
   case enter f args=>
    refine⟨h.1,CallsIn.mono h.2 fun e R z=>?_⟩;cases e with
    |returned u=>exact⟨aB a B u,by rw[←Act.put_comm a v u E];exact z⟩
    |panicked c=>exact U _ _ _ z
    |outgrown=>exact z
   case row row args=>exact⟨h.1,RowsIn.mono h.2 fun u R z=>⟨aB a B u,by rw[←Act.put_comm a v u E];exact z⟩⟩
   case round l f tmps assign body=>
    refine⟨h.1,RoundIn.mono h.2 fun e R z=>?_⟩;cases e with
    |returned u=>exact⟨aB a B u,by rw[←Act.put_comm a v u E];exact z⟩
    |panicked c=>exact U _ _ _ z
    |outgrown=>exact z
  |halt x w'=> cases x<;>simp only[Oper.uponIn]at h⊢;case panic u=>exact U _ _ _ h
 ·rename_i hw;simp only[hw]at h;exact⟨fun f _=>trivial,aB a B _,by rw[←Act.put_comm a v undef E];exact h.2⟩
theorem Qco{i:Nat}{o:Oper}{K:Act→World→Prop}{a:Act}{w}(d:ops[i]? =some o)(h:wpListIn (rF rl) n P ops (Exit.then K Q) [o] a w):wpOpIn (rF rl) n P ops Q i K a w:=by
 unfold wpOpIn;simp only[d];simp only[wpListIn]at h;split
 ·rename_i c;simp only[c,if_true]at h;unfold Oper.wpIn at*;refine⟨h.1,?_⟩;have h:=h.2;generalize(o.semAt (rF rl).round a.eval).run P w=r at*;cases r with
  |ok x w'=>cases x<;>simp only[Oper.uponIn]at h⊢<;>exact h
  |halt x w'=>cases x<;>simp only[Oper.uponIn]at h⊢<;>exact h
 ·rename_i c;simp only[c]at h;exact h
def Bj(rl n:Nat)(P:Program)(ops:Array Oper)(Q:Exit→Act→World→Prop)(c:Nat→Bool):Nat→Array Bool→Act→World→Prop
 |0,listed,a,w=>Region.ready .any ops listed=[]∧Q .normal a w
 |f+1,listed,a,w=>(Region.ready .any ops listed=[]→Q .normal a w)∧
  ∀i∈Region.ready .any ops listed,wpOpIn (rF rl) n P ops Q i (fun d w'=>(c i=false→w'=w)∧Bj rl n P ops Q c f (listed.setIfInBounds i true) d w') a w
theorem Tn{d:Nat→Bool}:∀(f:Nat)(c:Array Bool)(a:Act)(w),Bj rl n P ops Q d f c a w→wpAnyIn (rF rl) n P .any ops Q f c a w
 |0,_,_,_,h=>h
 |f+1,_,_,_,h=>⟨h.1,fun i q=>wpOpIn_mono (fun k w' h'=>Tn f _ k w' h'.2) (h.2 i q)⟩
theorem Tp(E:∀(j:Nat)(o:Oper),ops[j]? =some o→Gh o=true){z:Nat→Bool}{D:World→Prop}{i F:Nat}{oi:Oper}{v:Value}(hi:ops[i]? =some oi)(V:∀(j:Nat)(o:Oper)cs b,ops[j]? =some o→o.op≠ .select cs b)
  (hQ:∀c a w,Q (.panic c) (a.put oi.dst v) w→Q (.panic c) a w):
  ∀(f:Nat)(d:Array Bool)(a:Act)(w),Xj ops d→
   ((∀w',D w')∨∀j K,ops[j]? =some K→z j=true→d.getD j true=false→Xs ops F j i=true)→
   (∀j K,ops[j]? =some K→j≠i→d.getD j true=false→(∀e∈K.after,Region.binds .any e=true→e.on≠i)→oi.apart ops K=true)→
   i∈Region.ready .any ops d→YieldsIf P ops D oi v a→D w→
   Bj rl n P ops Q z f (d.setIfInBounds i true) (a.put oi.dst v) w→Bj rl n P ops Q z (f+1) d a w:=by
 intro f;induction f with
 |zero=>
  intro d a w aa _ _ hr hy hD H;refine⟨fun h=>(by rw[h]at hr;cases hr),fun j hj=>?_⟩;by_cases u:j=i;·subst u;exact Se hi (E _ _ hi) hy hD ⟨fun _=>rfl,H⟩
  ·have:=ready_mono hj u;rw[H.1]at this;cases this
 |succ f ih=>
  intro d a w aa q I hr hy hD H;have ae:=(mem_ready.1 hr).1;refine⟨fun h=>(by rw[h]at hr;cases hr),fun j hj=>?_⟩;by_cases u:j=i;·subst u;exact Se hi (E _ _ hi) hy hD ⟨fun _=>rfl,H⟩
  ·have Z:=H.2 j (ready_mono hj u);obtain⟨J,K,B,U⟩:=mem_ready.1 hj;have ah:(∀w',D w')∨z j=false:=by
    rcases q with hD|q;·exact .inl hD
    ·refine .inr ?_;cases hl:z j with
     |false=>rfl
     |true=>
      have Z:=Yw aa F j i (fun o ho e he hb=>by
       have:o=K:=Zs (ho.symm.trans B);subst this;exact U e he hb) (q j K B hl J)
      rw[getD_both ae]at Z;cases Z
   have ac:∀e∈K.after,Region.binds .any e=true→e.on≠i:=fun e he hb af=>by have Z:=U e he hb;rw[af,getD_both ae]at Z;cases Z
   have h2:=Qjp (C:=D) B (E _ _ B) (I j K B u J ac) (fun cs b=>V i oi cs b hi) (fun cs b=>V j K cs b B) hQ hy Z;have R:∀k,(d.setIfInBounds j true).getD k true=false→d.getD k true=false:=fun k h=>by
    by_cases ab:j=k;·subst ab;exact J
    ·rwa[getD_set_ne true ab]at h
   refine wpOpIn_mono (fun a' w' h3=>⟨h3.2.1,ih (d.setIfInBounds j true) a' w' (aa.set hj) ?_ ?_ (ready_mono hr (Ne.symm u)) h3.1 ?_ ?_⟩) h2;·exact q.imp id fun h k ok hk hl hu=>h k ok hk hl (R k hu)
   ·exact fun k ok hk ag hu ai=>I k ok hk ag (R k hu) ai
   ·rcases ah with h|h;·exact h w'
    ·rw[h3.2.1 h];exact hD
   ·rw[Array.setIfInBounds_comm _ _ u];exact h3.2.2
def Lh(rl n:Nat)(P:Program)(ops:Array Oper)(Q:Exit→Act→World→Prop):List (Nat×Oper)→Act→World→Prop
 |[],a,w=>Q .normal a w
 |(0,o)::r,a,w=>if Region.wanted o (yielded ops a.tmps)then∃v,(execOp a.eval o).run P w=.ok (.value v) w∧Lh rl n P ops Q r (a.put o.dst v) w else Lh rl n P ops Q r (a.put o.dst undef) w
 |(1,o)::r,a,w=>if Region.wanted o (yielded ops a.tmps)then∃v,(∀w',(execOp a.eval o).run P w'=.ok (.value v) w')∧Lh rl n P ops Q r (a.put o.dst v) w else Lh rl n P ops Q r (a.put o.dst undef) w
 |(_+2,o)::r,a,w=>wpListIn (rF rl) n P ops (Exit.then (fun c w'=>Lh rl n P ops Q r c w') Q) [o] a w
theorem Qf5(z:∀(j:Nat)(o:Oper),ops[j]? =some o→Gh o=true){K:List Nat}(B:Region.noSelect ops=true)(hQ:∀c(a:Act)(d:Tmp)v w,Q (.panic c) (a.put (some d) v) w→Q (.panic c) a w):
  ∀(r:List (Nat×Nat))(q:Array Bool)(a:Act)(w),Xj ops q→xB ops K r q=true→Lh rl n P ops Q (Jk ops r) a w→Bj rl n P ops Q (fun j=>K.contains j) r.length q a w
 |[],q,a,w,hcl,hB,h=>⟨by simpa[xB]using hB,h⟩
 |(0,k)::r,q,a,w,hcl,hB,h=>by
  simp only[xB,Zw]at hB;obtain⟨⟨⟨⟨hr,hf⟩,J⟩,ab⟩,I⟩:=hB;have u:k∈Region.ready .any ops q:=by simpa using hr
  obtain⟨_,o,E,_⟩:=mem_ready.1 u;rw[E]at J;simp only[Zn,Option.getD_some]at J;obtain⟨d,J⟩:=Option.isSome_iff_exists.1 J;rw[Kq E]at h;simp only[Lh]at h;have V:∃v,YieldsIf P ops (fun w'=>w'=w) o v a∧Lh rl n P ops Q (Jk ops r) (a.put o.dst v) w:=by
   by_cases R:Region.wanted o (yielded ops a.tmps)=true;·simp only[R,if_true]at h;obtain⟨v,U,Z⟩:=h;exact⟨v,.inl ⟨R,fun w' e=>by rw[e];exact U⟩,Z⟩
   ·simp only[R]at h;exact⟨undef,.inr ⟨by simpa using R,rfl⟩,h⟩
  obtain⟨v,V,hK⟩:=V;exact Tp z (F:=ops.size) E (Region.noSelect_spec B) (fun c a' w' hq=>by rw[J]at hq;exact hQ c a' d _ w' hq) _ q a w hcl
   (.inr fun j oj hj hl hu=>by
    have:=List.all_eq_true.1 ab j (by simpa using hl);rw[hu]at this;simpa using this) (Region.free_spec E hf) u V rfl
   (Qf5 z B hQ r _ _ w (hcl.set u) I hK)
 |(1,k)::r,q,a,w,hcl,hB,h=>by
  simp only[xB,Zw]at hB;obtain⟨⟨⟨hr,hf⟩,J⟩,I⟩:=hB;have u:k∈Region.ready .any ops q:=by simpa using hr
  obtain⟨_,o,E,_⟩:=mem_ready.1 u;rw[E]at J;simp only[Zn,Option.getD_some]at J;obtain⟨d,J⟩:=Option.isSome_iff_exists.1 J;rw[Kq E]at h;simp only[Lh]at h;have V:∃v,YieldsIf P ops (fun _=>True) o v a∧Lh rl n P ops Q (Jk ops r) (a.put o.dst v) w:=by
   by_cases R:Region.wanted o (yielded ops a.tmps)=true;·simp only[R,if_true]at h;obtain⟨v,U,Z⟩:=h;exact⟨v,.inl ⟨R,fun w' _=>U w'⟩,Z⟩
   ·simp only[R]at h;exact⟨undef,.inr ⟨by simpa using R,rfl⟩,h⟩
  obtain⟨v,V,hK⟩:=V;exact Tp z (F:=ops.size) E (Region.noSelect_spec B) (fun c a' w' hq=>by rw[J]at hq;exact hQ c a' d _ w' hq) _ q a w hcl
   (.inl fun _=>trivial) (Region.free_spec E hf) u V trivial
   (Qf5 z B hQ r _ _ w (hcl.set u) I hK)
 |(m+2,k)::r,q,a,w,hcl,hB,h=>by
  simp only[xB,Zw,decide_eq_true_eq]at hB;obtain⟨⟨U,hl⟩,I⟩:=hB;have u:k∈Region.ready .any ops q:=by rw[U];simp
  obtain⟨_,o,E,_⟩:=mem_ready.1 u;rw[Kq E]at h;simp only[Lh]at h;refine⟨fun Z=>(by rw[U]at Z;cases Z),fun i hi=>?_⟩;rw[U]at hi;have aa:i=k:=by simpa using hi
  subst aa;refine wpOpIn_mono (fun a' w' h'=>⟨fun h=>?_,?_⟩) (Qco E h);·exact absurd (show K.contains i=false from h) (by rw[hl];decide)
  ·exact Qf5 z B hQ r _ a' w' (hcl.set u) I h'
theorem Qf0{id:Nat}{a:Act}{w}{l:List Oper}(k:List (Nat×Nat))(R:P.follows .mixedOrders=true)
  (B:(l.all Gh&&(Region.noSelect l.toArray&&(decide (k.length=l.toArray.size)&&xB l.toArray (Rb k) k (Array.replicate l.toArray.size false))))=true)
  (K:∀c(a:Act)(d:Tmp)v w,Q (.panic c) (a.put (some d) v) w→Q (.panic c) a w) (h:Lh rl n P l.toArray Q (Jk l.toArray k) a w.drew):
  (Code.region id l.toArray true).wpIn (rF rl) n P Q a w:=by
 simp only[Zw,decide_eq_true_eq]at B;obtain⟨I,z,u,B⟩:=B;refine wpIn_region_any R ?_;have q:∀(j:Nat)(o:Oper),l.toArray[j]? =some o→Gh o=true:=fun j o h=>List.all_eq_true.1 I o (List.mem_of_getElem? (by simpa using h));have E:Xj l.toArray (Array.replicate l.toArray.size false):=fun j U _ J=>by rw[getD_replicate_false]at J;cases J
 have:=Qf5 (rl:=rl) (n:=n) (P:=P) (Q:=Q) q z K k _ a _ E B h;rw[u]at this;exact Tn _ _ _ _ this
variable{r:List (Nat×Oper)}{a:Act}{o:Oper}{w:World}
theorem Qu9(h:Q .normal a w):Lh rl n P ops Q [] a w:=h
theorem Qvq{v:Value}(d:Region.wanted o (yielded ops a.tmps)=true:=by kernel_rfl)(c:(execOp a.eval o).run P w=.ok (.value v) w:=by go_simp;try rfl)(h:Lh rl n P ops Q r (a.put o.dst v) w):Lh rl n P ops Q ((0,o)::r) a w:=by simp only[Lh,d,if_true];exact⟨v,c,h⟩
theorem Qva{v:Value}(d:Region.wanted o (yielded ops a.tmps)=true:=by kernel_rfl)(c:∀w',(execOp a.eval o).run P w'=.ok (.value v) w':=by intros;go_simp;try rfl)(h:Lh rl n P ops Q r (a.put o.dst v) w):Lh rl n P ops Q ((1,o)::r) a w:=by simp only[Lh,d,if_true];exact⟨v,c,h⟩
theorem Qvp{m:Nat}(h:wpListIn (rF rl) n P ops (Exit.then (fun c w'=>Lh rl n P ops Q r c w') Q) [o] a w):Lh rl n P ops Q ((m+2,o)::r) a w:=h
end
section
def Qnh(Q:Exit→Act→World→Prop):Exit→Act→World→Prop
 | .panic _,_,_=>False
 |e,a,w=>Q e a w
variable{n:Nat}{P:Program}{ops:Array Oper}{Q:Exit→Act→World→Prop}
theorem Sc{id:Nat}{a:Act}{w:World}{l:List Oper}(c:List (Nat×Nat))(k:P.follows .mixedOrders=true)
  (d:(Region.noSelect l.toArray&&(decide (c.length=l.toArray.size)&&xB l.toArray (Rb c) c (Array.replicate l.toArray.size false)))=true)
  (h:Uo n P l.toArray (Qnh Q) (Jk l.toArray c) a w.drew):(Code.region id l.toArray true).wpIn Fence.wide n P Q a w:=
 Code.wpIn_mono (fun e a w h=>by cases e<;>first|exact h.elim|exact h) (Lx c k d (fun _ _ _ _ _ h=>h) h)
theorem Qnv{a:Act}{w}(h:Q .normal a w):Uo n P ops (Qnh Q) [] a w:=h
end
inductive PT where
 |nil
 |look(k:Nat)(r:PT)
 |lookp(k:Nat)(r:PT)
 |walk(k:Nat)(r:PT)
 |fork(i:Nat)(x:PT)(j:Nat)(y:PT)
inductive PO where
 |nil
 |look(o:Oper)(r:PO)
 |lookp(o:Oper)(r:PO)
 |walk(o:Oper)(r:PO)
 |fork(o:Oper)(x:PO)(p:Oper)(y:PO)
section
variable{P:Program}{ops:Array Oper}{Q:Exit→Act→World→Prop}{D:World→Prop}
def O0(ops:Array Oper):PT→PO
 | .nil=>.nil
 | .look k r=>match ops[k]? with|some o=>.look o (O0 ops r)|none=>.nil
 | .lookp k r=>match ops[k]? with|some o=>.lookp o (O0 ops r)|none=>.nil
 | .walk k r=>match ops[k]? with|some o=>.walk o (O0 ops r)|none=>.nil
 | .fork i x j y=>match ops[i]? with|some o=>(match ops[j]? with|some p=>.fork o (O0 ops x) p (O0 ops y)|none=>.nil)|none=>.nil
def Qdg:PT→List Nat
 | .nil=>[]
 | .look _ r=>Qdg r
 | .lookp _ r=>Qdg r
 | .walk k r=>k::Qdg r
 | .fork i x j y=>i::j::(Qdg x++Qdg y)
def Xo(P:Program)(ops:Array Oper)(Q:Exit→Act→World→Prop)(D:World→Prop):PO→Act→World→Prop
 | .nil,a,w=>Q .normal a w
 | .look o r,a,w=>if Region.wanted o (yielded ops a.tmps)then∃v,(execOp a.eval o).run P w=.ok (.value v) w∧Xo P ops Q D r (a.put o.dst v) w else Xo P ops Q D r (a.put o.dst undef) w
 | .lookp o r,a,w=>if Region.wanted o (yielded ops a.tmps)then∃v,(∀w',D w'→(execOp a.eval o).run P w'=.ok (.value v) w')∧Xo P ops Q D r (a.put o.dst v) w else Xo P ops Q D r (a.put o.dst undef) w
 | .walk o r,a,w=>wpList P ops (Exit.then (fun c w'=>D w'∧Xo P ops Q D r c w') Q) [o] a w
 | .fork o x p y,a,w=>wpList P ops (Exit.then (fun c w'=>D w'∧Xo P ops Q D x c w') Q) [o] a w∧wpList P ops (Exit.then (fun c w'=>D w'∧Xo P ops Q D y c w') Q) [p] a w
def xfB(ops:Array Oper)(c:List Nat):PT→Nat→Array Bool→Bool
 | .nil,0,listed=>(Region.ready .any ops listed).isEmpty
 | .look k r,n+1,listed=>Qdn ops c k listed&&(c.all fun j=>listed.getD j true||Xs ops ops.size j k)&&xfB ops c r n (listed.setIfInBounds k true)
 | .lookp k r,n+1,listed=>Qdn ops c k listed&&xfB ops c r n (listed.setIfInBounds k true)
 | .walk k r,n+1,listed=>decide (Region.ready .any ops listed=[k])&&c.contains k&&xfB ops c r n (listed.setIfInBounds k true)
 | .fork i x j y,n+1,listed=>decide (Region.ready .any ops listed=[i,j])&&c.contains i&&c.contains j&&xfB ops c x n (listed.setIfInBounds i true)&&xfB ops c y n (listed.setIfInBounds j true)
 |_,_,_=>false
theorem Fk{B:List Nat}(u:Region.noSelect ops=true)(Z:∀c(a:Act)(d:Tmp)v w,Q (.panic c) (a.put (some d) v) w→Q (.panic c) a w):
  ∀(r:PT)(n:Nat)(q:Array Bool)(a:Act)(w),Xj ops q→D w→xfB ops B r n q=true→Xo P ops Q D (O0 ops r) a w→
   Fi P ops Q D (fun j=>B.contains j) (fun _=>false) n q a w
 | .nil,0,q,a,w,hcl,hC,hB,h=>⟨by simpa[xfB]using hB,h⟩
 | .look k r,n+1,q,a,w,hcl,hC,hB,h=>by
  simp only[xfB,Zw]at hB;obtain⟨⟨aa,aj⟩,J⟩:=hB;obtain⟨z,hf,U,o,d,E,hd⟩:=E7 aa;simp only[O0,E]at h;simp only[Xo]at h;have hy:∃v,YieldsIf P ops (fun w'=>w'=w) o v a∧Xo P ops Q D (O0 ops r) (a.put o.dst v) w:=by
   by_cases V:Region.wanted o (yielded ops a.tmps)=true;·simp only[V,if_true]at h;obtain⟨v,I,R⟩:=h;exact⟨v,.inl ⟨V,fun w' e=>by rw[e];exact I⟩,R⟩
   ·simp only[V]at h;exact⟨undef,.inr ⟨by simpa using V,rfl⟩,h⟩
  obtain⟨v,hy,hK⟩:=hy;exact Gm (F:=ops.size) E U (Region.noSelect_spec u) (fun c K w' hq=>by rw[hd]at hq;exact Z c K d _ w' hq) _ q a w hcl
   (.inr fun j oj hj U hu=>by
    have:=List.all_eq_true.1 aj j (by simpa using U);rw[hu]at this;simpa using this) (Region.free_spec E hf) z hy rfl
   (Fk u Z r n _ _ w (hcl.set z) hC J hK)
 | .lookp k r,n+1,q,a,w,hcl,hC,hB,h=>by
  simp only[xfB,Zw]at hB;obtain⟨aa,J⟩:=hB;obtain⟨z,hf,U,o,d,E,hd⟩:=E7 aa;simp only[O0,E]at h;simp only[Xo]at h;have hy:∃v,YieldsIf P ops D o v a∧Xo P ops Q D (O0 ops r) (a.put o.dst v) w:=by
   by_cases V:Region.wanted o (yielded ops a.tmps)=true;·simp only[V,if_true]at h;obtain⟨v,I,R⟩:=h;exact⟨v,.inl ⟨V,I⟩,R⟩
   ·simp only[V]at h;exact⟨undef,.inr ⟨by simpa using V,rfl⟩,h⟩
  obtain⟨v,hy,hK⟩:=hy;exact Gm (F:=ops.size) E U (Region.noSelect_spec u) (fun c K w' hq=>by rw[hd]at hq;exact Z c K d _ w' hq) _ q a w hcl
   (.inl ⟨fun _ h=>h,fun j oj hj U hu=>by cases U⟩) (Region.free_spec E hf) z hy hC
   (Fk u Z r n _ _ w (hcl.set z) hC J hK)
 | .walk k r,n+1,q,a,w,hcl,hC,hB,h=>by
  simp only[xfB,Zw,decide_eq_true_eq]at hB;obtain⟨⟨I,U⟩,J⟩:=hB;have z:k∈Region.ready .any ops q:=by rw[I];simp
  obtain⟨_,o,E,_⟩:=mem_ready.1 z;simp only[O0,E]at h;simp only[Xo]at h;refine⟨fun R=>(by rw[I]at R;cases R),fun i hi=>?_⟩;rw[I]at hi;have ag:i=k:=by simpa using hi
  subst ag;refine wpOp_mono (fun K w' h'=>⟨⟨fun h=>absurd (show B.contains i=false from h) (by rw[U];decide),fun _ _=>h'.1⟩,?_⟩) (Ko E h);exact Fk u Z r n _ K w' (hcl.set z) h'.1 J h'.2
 | .fork i x j y,n+1,q,a,w,hcl,hC,hB,h=>by
  simp only[xfB,Zw,decide_eq_true_eq]at hB;obtain⟨⟨⟨⟨I,ah⟩,ai⟩,ae⟩,af⟩:=hB;have ab:i∈Region.ready .any ops q:=by rw[I];simp
  have ac:j∈Region.ready .any ops q:=by rw[I];simp
  obtain⟨_,o,E,_⟩:=mem_ready.1 ab;obtain⟨_,p,p0,_⟩:=mem_ready.1 ac;simp only[O0,E,p0]at h;simp only[Xo]at h;refine⟨fun R=>(by rw[I]at R;cases R),fun k hk=>?_⟩;rw[I]at hk;rcases(show k=i∨k=j by simpa using hk)with rfl|rfl;·refine wpOp_mono (fun K w' h'=>⟨⟨fun h=>absurd (show B.contains k=false from h) (by rw[ah];decide),fun _ _=>h'.1⟩,?_⟩) (Ko E h.1);exact Fk u Z x n _ K w' (hcl.set ab) h'.1 ae h'.2
  ·refine wpOp_mono (fun K w' h'=>⟨⟨fun h=>absurd (show B.contains k=false from h) (by rw[ai];decide),fun _ _=>h'.1⟩,?_⟩) (Ko p0 h.2);exact Fk u Z y n _ K w' (hcl.set ac) h'.1 af h'.2
 | .nil,n+1,q,a,w,hcl,hC,hB,h=>by simp[xfB]at hB
 | .look _ _,0,q,a,w,hcl,hC,hB,h=>by simp[xfB]at hB
 | .lookp _ _,0,q,a,w,hcl,hC,hB,h=>by simp[xfB]at hB
 | .walk _ _,0,q,a,w,hcl,hC,hB,h=>by simp[xfB]at hB
 | .fork _ _ _ _,0,q,a,w,hcl,hC,hB,h=>by simp[xfB]at hB
theorem Ui{id:Nat}{a:Act}{w}{l:List Oper}(k:PT)(D:World→Prop)(J:P.follows .mixedOrders=true)
  (u:(Region.noSelect l.toArray&&xfB l.toArray (Qdg k) k l.toArray.size (Array.replicate l.toArray.size false))=true)
  (I:∀c(a:Act)(d:Tmp)v w,Q (.panic c) (a.put (some d) v) w→Q (.panic c) a w) (E:D w.drew) (h:Xo P l.toArray Q D (O0 l.toArray k) a w.drew):
  (Code.region id l.toArray true).wp P Q a w:=by
 simp only[Zw]at u;obtain⟨q,u⟩:=u;refine wp_region_any J ?_;have z:Xj l.toArray (Array.replicate l.toArray.size false):=fun j K _ B=>by rw[getD_replicate_false]at B;cases B
 exact Mu _ _ _ _ (Fk (P:=P) (D:=D) q I k _ _ a _ z E u h)
variable{r x y:PO}{a:Act}{o p:Oper}{w:World}
theorem U9(h:Q .normal a w):Xo P ops Q D .nil a w:=h
theorem Vd{v:Value}(d:Region.wanted o (yielded ops a.tmps)=true:=by kernel_rfl)(c:(execOp a.eval o).run P w=.ok (.value v) w:=by go_simp;try rfl)(h:Xo P ops Q D r (a.put o.dst v) w):Xo P ops Q D (.look o r) a w:=by simp only[Xo,d,if_true];exact⟨v,c,h⟩
theorem Xi{v:Value}(d:Region.wanted o (yielded ops a.tmps)=true:=by kernel_rfl)(c:∀w',D w'→(execOp a.eval o).run P w'=.ok (.value v) w':=by intros;go_simp;try rfl)(h:Xo P ops Q D r (a.put o.dst v) w):Xo P ops Q D (.lookp o r) a w:=by simp only[Xo,d,if_true];exact⟨v,c,h⟩
theorem Xt(h:wpList P ops (Exit.then (fun c w'=>D w'∧Xo P ops Q D r c w') Q) [o] a w):Xo P ops Q D (.walk o r) a w:=h
theorem Gn(d:wpList P ops (Exit.then (fun c w'=>D w'∧Xo P ops Q D x c w') Q) [o] a w)(k:wpList P ops (Exit.then (fun c w'=>D w'∧Xo P ops Q D y c w') Q) [p] a w):Xo P ops Q D (.fork o x p y) a w:=⟨d,k⟩
end
end Go.Proofs.YtigcnnkagkbflaaGreat
