/- A part of the proof: no condition. -/
import Derived.Test.YtnnhmpehkbihnaaGreatPp14
namespace Go.Proofs.YtnnhmpehkbihnaaGreat
set_option linter.unusedVariables false
set_option maxRecDepth 100000
set_option maxHeartbeats 4000000
open Go.RowKit
open Go.Proofs.Tryz
section
variable{n:Nat}{P:Program}{ops:Array Oper}{Q:Exit→Act→World→Prop}{C:World→Prop}
theorem Qca{n m:Nat}{l:Nat}{f:FuncId}{k:Array Value}{d q:Code}{w:World}{R:Ending→World→Prop}(h:RoundIn Fence.wide n P l f k d q w R):RoundIn Fence.wide m P l f k d q w R:=
 ⟨h.1,fun c cs _=>h.2 c cs (room_wide _)⟩
theorem Qkz{n m:Nat}{l:Nat}{d:Array Value}{W:World}{R:Ending→World→Prop}(h:YieldAt Fence.wide n P l d W R):YieldAt Fence.wide m P l d W R:=by obtain⟨z,k,c,q,h1,u⟩:=h;exact⟨z,k,c,q,h1,Qca u⟩
theorem L9{i:Nat}{o:Oper}{v:Value}{a:Act}(hi:ops[i]? =some o)(d:YieldsIf P ops C o v a)
  {K:Act→World→Prop}{w:World}(q:C w)(h:K (a.put o.dst v) w):wpOpIn Fence.wide n P ops Q i K a w:=by
 unfold Go.wpOpIn;simp only[hi];rcases d with⟨c,k⟩|⟨c,rfl⟩;·simp only[c,if_true,Oper.wpIn];refine⟨fun f _=>trivial,?_⟩;rw[show Fence.wide.round=none from rfl,Oper.semAt_none,k w q];exact h
 ·simp only[c,Bool.false_eq_true,if_false];exact⟨fun f _=>trivial,h⟩
theorem Qnj{j:Nat}{k q:Oper}{v:Value}(hj:ops[j]? =some q)(U:k.apart ops q=true)
  (aa:∀cs b,k.op≠ .select cs b)(V:∀cs b,q.op≠ .select cs b)
  (R:∀c a w,Q (.panic c) (a.put k.dst v) w→Q (.panic c) a w){K:Act→World→Prop}{a:Act}{w:World}
  (B:YieldsIf P ops C k v a) (h:wpOpIn Fence.wide n P ops Q j K (a.put k.dst v) w):
  wpOpIn Fence.wide n P ops Q j (fun a' w'=>YieldsIf P ops C k v a'∧K (a'.put k.dst v) w') a w:=by
 obtain⟨h1,E,h3⟩:=Oper.apart_spec U;have keep:∀(a:Act),YieldsIf P ops C k v a→∀u,YieldsIf P ops C k v (a.put q.dst u):=fun a B u=>
  B.of_same (execOp_put k aa a q.dst u h3) (wanted_put k a q.dst u h3)
 have I:∀d,YieldsIf P ops C k v {a with defers:=d::a.defers}:=fun d=>B.of_same rfl rfl;unfold wpOpIn at*;simp only[hj]at*;rw[wanted_put q a k.dst v h1]at h;split
 ·rename_i Z;simp only[Z,if_true]at h;unfold Oper.wpIn at*;refine⟨fun f _=>trivial,?_⟩;have h:=h.2;rw[show Fence.wide.round=none from rfl,Oper.semAt_none,execOp_put q V a k.dst v h1]at h;rw[show Fence.wide.round=none from rfl,Oper.semAt_none];generalize(execOp a.eval q).run P w=r at*;cases r with
  |ok x w'=>
   cases x<;>simp only[Oper.uponIn]at h⊢;case value u=>exact⟨keep a B u,by rw[←Act.put_comm a v u E];exact h⟩
   case skip=>exact⟨keep a B _,by rw[←Act.put_comm a v undef E];exact h⟩
   case defer d=> refine⟨keep _ (I d) _,?_⟩;rw[←Act.put_comm _ v undef E,←Act.put_defers];exact h
   case enter f args=>
    refine⟨h.1,CallsIn.mono h.2 fun e J z=>?_⟩;cases e with
    |returned u=>exact⟨keep a B u,by rw[←Act.put_comm a v u E];exact z⟩
    |panicked c=>exact R _ _ _ z
    |outgrown=>exact z
   case row row args=>exact⟨h.1,RowsIn.mono h.2 fun u J z=>⟨keep a B u,by rw[←Act.put_comm a v u E];exact z⟩⟩
   case round l f tmps assign body=>
    refine⟨h.1,RoundIn.mono h.2 fun e J z=>?_⟩;cases e with
    |returned u=>exact⟨keep a B u,by rw[←Act.put_comm a v u E];exact z⟩
    |panicked c=>exact R _ _ _ z
    |outgrown=>exact z
  |halt x w'=> cases x<;>simp only[Oper.uponIn]at h⊢;case panic u=>exact R _ _ _ h
 ·rename_i Z;simp only[Z]at h;exact⟨fun f _=>trivial,keep a B _,by rw[←Act.put_comm a v undef E];exact h.2⟩
theorem Qgn{i:Nat}{o:Oper}{K:Act→World→Prop}{a:Act}{w:World}(h0:ops[i]? =some o)(h:wpListIn Fence.wide n P ops (Exit.then K Q) [o] a w):wpOpIn Fence.wide n P ops Q i K a w:=by
 unfold wpOpIn;simp only[h0];simp only[wpListIn]at h;split
 ·rename_i c;simp only[c,if_true]at h;unfold Oper.wpIn at*;refine⟨h.1,?_⟩;have h:=h.2;generalize(o.semAt Fence.wide.round a.eval).run P w=r at*;cases r with
  |ok x w'=>cases x<;>simp only[Oper.uponIn]at h⊢<;>exact h
  |halt x w'=>cases x<;>simp only[Oper.uponIn]at h⊢<;>exact h
 ·rename_i c;simp only[c]at h;exact h
variable{r:List (Bool×Oper)}{a:Act}{o:Oper}{w:World}
end
section
variable{P:Program}{ops:Array Oper}{Q:Exit→Act→World→Prop}
def Qgo(P:Program)(ops:Array Oper)(Q:Exit→Act→World→Prop)(late:Nat→Bool):Nat→Array Bool→Act→World→Prop
 |0,listed,a,w=>Region.ready .any ops listed=[]∧Q .normal a w
 |f+1,listed,a,w=>(Region.ready .any ops listed=[]→Q .normal a w)∧
  ∀i∈Region.ready .any ops listed,wpOp P ops Q i (fun c w'=>(late i=false→w'=w)∧Qgo P ops Q late f (listed.setIfInBounds i true) c w') a w
theorem Qgp{late:Nat→Bool}:∀(f:Nat)(c:Array Bool)(a:Act)(w:World),Qgo P ops Q late f c a w→wpAny P .any ops Q f c a w
 |0,_,_,_,h=>h
 |f+1,_,_,_,h=>⟨h.1,fun i hi=>wpOp_mono (fun d w' h'=>Qgp f _ d w' h'.2) (h.2 i hi)⟩
theorem Qcb{late:Nat→Bool}{D:World→Prop}{i F:Nat}{V:Oper}{v:Value}(hi:ops[i]? =some V)(J:∀(j:Nat)(o:Oper)cs b,ops[j]? =some o→o.op≠ .select cs b)
  (hQ:∀c a w,Q (.panic c) (a.put V.dst v) w→Q (.panic c) a w):
  ∀(f:Nat)(d:Array Bool)(a:Act)(w:World),Ji ops d→
   ((∀w',D w')∨∀j z,ops[j]? =some z→late j=true→d.getD j true=false→Jy ops F j i=true)→
   (∀j z,ops[j]? =some z→j≠i→d.getD j true=false→(∀e∈z.after,Region.binds .any e=true→e.on≠i)→V.apart ops z=true)→
   i∈Region.ready .any ops d→YieldsIf P ops D V v a→D w→
   Qgo P ops Q late f (d.setIfInBounds i true) (a.put V.dst v) w→Qgo P ops Q late (f+1) d a w:=by
 intro f;induction f with
 |zero=>
  intro d a w U _ _ hr hy Z H;refine⟨fun h=>(by rw[h]at hr;cases hr),fun j hj=>?_⟩;by_cases u:j=i;·subst u;exact hy.wpOp hi Z ⟨fun _=>rfl,H⟩
  ·have:=ready_mono hj u;rw[H.1]at this;cases this
 |succ f ih=>
  intro d a w U q I hr hy Z H;have ab:=(mem_ready.1 hr).1;refine⟨fun h=>(by rw[h]at hr;cases hr),fun j hj=>?_⟩;by_cases u:j=i;·subst u;exact hy.wpOp hi Z ⟨fun _=>rfl,H⟩
  ·have h1:=H.2 j (ready_mono hj u);obtain⟨B,z,E,R⟩:=mem_ready.1 hj;have ag:(∀w',D w')∨late j=false:=by
    rcases q with Z|q;·exact .inl Z
    ·refine .inr ?_;cases hl:late j with
     |false=>rfl
     |true=>
      have h1:=Xp U F j i (fun o ho e he hb=>by
       have:o=z:=Option.some.inj (ho.symm.trans E);subst this;exact R e he hb) (q j z E hl B)
      rw[getD_both ab]at h1;cases h1
   have aa:∀e∈z.after,Region.binds .any e=true→e.on≠i:=fun e he hb af=>by have h1:=R e he hb;rw[af,getD_both ab]at h1;cases h1
   have h2:=wpOp_putIf (S:=D) E (I j z E u B aa) (fun cs b=>J i V cs b hi) (fun cs b=>J j z cs b E) hQ hy h1;have K:∀k,(d.setIfInBounds j true).getD k true=false→d.getD k true=false:=fun k h=>by
    by_cases ac:j=k;·subst ac;exact B
    ·rwa[getD_set_ne true ac]at h
   refine wpOp_mono (fun a' w' h3=>⟨h3.2.1,ih (d.setIfInBounds j true) a' w' (U.set hj) ?_ ?_ (ready_mono hr (Ne.symm u)) h3.1 ?_ ?_⟩) h2;·exact q.imp id fun h k ok hk hl hu=>h k ok hk hl (K k hu)
   ·exact fun k ok hk ah hu ae=>I k ok hk ah (K k hu) ae
   ·rcases ag with h|h;·exact h w'
    ·rw[h3.2.1 h];exact Z
   ·rw[Array.setIfInBounds_comm _ _ u];exact h3.2.2
def Y4(P:Program)(ops:Array Oper)(Q:Exit→Act→World→Prop):List (Nat×Oper)→Act→World→Prop
 |[],a,w=>Q .normal a w
 |(0,o)::r,a,w=>if Region.wanted o (yielded ops a.tmps)then∃v,(execOp a.eval o).run P w=.ok (.value v) w∧Y4 P ops Q r (a.put o.dst v) w else Y4 P ops Q r (a.put o.dst undef) w
 |(1,o)::r,a,w=>if Region.wanted o (yielded ops a.tmps)then∃v,(∀w',(execOp a.eval o).run P w'=.ok (.value v) w')∧Y4 P ops Q r (a.put o.dst v) w else Y4 P ops Q r (a.put o.dst undef) w
 |(_+2,o)::r,a,w=>wpList P ops (Exit.then (fun c w'=>Y4 P ops Q r c w') Q) [o] a w
def Zs(ops:Array Oper):List (Nat×Nat)→List (Nat×Oper)
 |[]=>[]
 |(b,k)::r=>match ops[k]? with
  |some o=>(b,o)::Zs ops r
  |none=>Zs ops r
theorem Yq{b k:Nat}{r:List (Nat×Nat)}{o:Oper}(h:ops[k]? =some o):Zs ops ((b,k)::r)=(b,o)::Zs ops r:=by simp[Zs,h]
def Ea:List (Nat×Nat)→List Nat
 |[]=>[]
 |(0,_)::r=>Ea r
 |(1,_)::r=>Ea r
 |(_+2,k)::r=>k::Ea r
def xB(ops:Array Oper)(late:List Nat):List (Nat×Nat)→Array Bool→Bool
 |[],listed=>(Region.ready .any ops listed).isEmpty
 |(0,k)::r,listed=>(Region.ready .any ops listed).contains k&&Region.free .any ops listed k&&((ops[k]?).map (·.dst.isSome)).getD false&&(late.all fun j=>listed.getD j true||Jy ops ops.size j k)&&xB ops late r (listed.setIfInBounds k true)
 |(1,k)::r,listed=>(Region.ready .any ops listed).contains k&&Region.free .any ops listed k&&((ops[k]?).map (·.dst.isSome)).getD false&&xB ops late r (listed.setIfInBounds k true)
 |(_+2,k)::r,listed=>decide (Region.ready .any ops listed=[k])&&late.contains k&&xB ops late r (listed.setIfInBounds k true)
theorem Qsd{late:List Nat}(z:Region.noSelect ops=true)(V:∀c(a:Act)(d:Tmp)v w,Q (.panic c) (a.put (some d) v) w→Q (.panic c) a w):
  ∀(r:List (Nat×Nat))(q:Array Bool)(a:Act)(w:World),Ji ops q→xB ops late r q=true→Y4 P ops Q (Zs ops r) a w→Qgo P ops Q (fun j=>late.contains j) r.length q a w
 |[],q,a,w,hcl,hB,h=>⟨by simpa[xB]using hB,h⟩
 |(0,k)::r,q,a,w,hcl,hB,h=>by
  simp only[xB,Bool.and_eq_true]at hB;obtain⟨⟨⟨⟨hr,hf⟩,B⟩,Z⟩,E⟩:=hB;have u:k∈Region.ready .any ops q:=by simpa using hr
  obtain⟨_,o,h0,_⟩:=mem_ready.1 u;rw[h0]at B;simp only[Option.map_some,Option.getD_some]at B;obtain⟨d,B⟩:=Option.isSome_iff_exists.1 B;rw[Yq h0]at h;simp only[Y4]at h;have J:∃v,YieldsIf P ops (fun w'=>w'=w) o v a∧Y4 P ops Q (Zs ops r) (a.put o.dst v) w:=by
   by_cases I:Region.wanted o (yielded ops a.tmps)=true;·simp only[I,if_true]at h;obtain⟨v,h1,K⟩:=h;exact⟨v,.inl ⟨I,fun w' e=>by rw[e];exact h1⟩,K⟩
   ·simp only[I]at h;exact⟨undef,.inr ⟨by simpa using I,rfl⟩,h⟩
  obtain⟨v,J,hK⟩:=J;exact Qcb (F:=ops.size) h0 (Region.noSelect_spec z) (fun c R w' U=>by rw[B]at U;exact V c R d _ w' U) _ q a w hcl
   (.inr fun j oj hj hl hu=>by
    have:=List.all_eq_true.1 Z j (by simpa using hl);rw[hu]at this;simpa using this) (Region.free_spec h0 hf) u J rfl
   (Qsd z V r _ _ w (hcl.set u) E hK)
 |(1,k)::r,q,a,w,hcl,hB,h=>by
  simp only[xB,Bool.and_eq_true]at hB;obtain⟨⟨⟨hr,hf⟩,B⟩,E⟩:=hB;have u:k∈Region.ready .any ops q:=by simpa using hr
  obtain⟨_,o,h0,_⟩:=mem_ready.1 u;rw[h0]at B;simp only[Option.map_some,Option.getD_some]at B;obtain⟨d,B⟩:=Option.isSome_iff_exists.1 B;rw[Yq h0]at h;simp only[Y4]at h;have J:∃v,YieldsIf P ops (fun _=>True) o v a∧Y4 P ops Q (Zs ops r) (a.put o.dst v) w:=by
   by_cases I:Region.wanted o (yielded ops a.tmps)=true;·simp only[I,if_true]at h;obtain⟨v,h1,K⟩:=h;exact⟨v,.inl ⟨I,fun w' _=>h1 w'⟩,K⟩
   ·simp only[I]at h;exact⟨undef,.inr ⟨by simpa using I,rfl⟩,h⟩
  obtain⟨v,J,hK⟩:=J;exact Qcb (F:=ops.size) h0 (Region.noSelect_spec z) (fun c R w' U=>by rw[B]at U;exact V c R d _ w' U) _ q a w hcl
   (.inl fun _=>trivial) (Region.free_spec h0 hf) u J trivial
   (Qsd z V r _ _ w (hcl.set u) E hK)
 |(n+2,k)::r,q,a,w,hcl,hB,h=>by
  simp only[xB,Bool.and_eq_true,decide_eq_true_eq]at hB;obtain⟨⟨h1,hl⟩,E⟩:=hB;have u:k∈Region.ready .any ops q:=by rw[h1];simp
  obtain⟨_,o,h0,_⟩:=mem_ready.1 u;rw[Yq h0]at h;simp only[Y4]at h;refine⟨fun K=>(by rw[h1]at K;cases K),fun i hi=>?_⟩;rw[h1]at hi;have aa:i=k:=by simpa using hi
  subst aa;refine wpOp_mono (fun R w' h'=>⟨fun h=>?_,?_⟩) (Yp h0 h);·exact absurd (show late.contains i=false from h) (by rw[hl];decide)
  ·exact Qsd z V r _ R w' (hcl.set u) E h'
theorem Qi{id:Nat}{a:Act}{w:World}{l:List Oper}(k:List (Nat×Nat))(E:P.follows .mixedOrders=true)
  (z:(Region.noSelect l.toArray&&(decide (k.length=l.toArray.size)&&xB l.toArray (Ea k) k (Array.replicate l.toArray.size false)))=true)
  (I:∀c(a:Act)(d:Tmp)v w,Q (.panic c) (a.put (some d) v) w→Q (.panic c) a w) (h:Y4 P l.toArray Q (Zs l.toArray k) a w.drew):
  (Code.region id l.toArray true).wp P Q a w:=by
 simp only[Bool.and_eq_true,decide_eq_true_eq]at z;obtain⟨q,u,z⟩:=z;refine wp_region_any E ?_;have B:Ji l.toArray (Array.replicate l.toArray.size false):=fun j J _ hl=>by rw[getD_replicate_false]at hl;cases hl
 have:=Qsd (P:=P) q I k _ a _ B z h;rw[u]at this;exact Qgp _ _ _ _ this
variable{r:List (Nat×Oper)}{a:Act}{o:Oper}{w:World}
theorem Zu(h:Q .normal a w):Y4 P ops Q [] a w:=h
theorem Qwm(c:Region.wanted o (yielded ops a.tmps)=false)(h:Y4 P ops Q r (a.put o.dst undef) w):Y4 P ops Q ((0,o)::r) a w:=by simp only[Y4,c,Bool.false_eq_true,if_false];exact h
theorem Qqf(c:Region.wanted o (yielded ops a.tmps)=false)(h:Y4 P ops Q r (a.put o.dst undef) w):Y4 P ops Q ((1,o)::r) a w:=by simp only[Y4,c,Bool.false_eq_true,if_false];exact h
theorem Zz{v:Value}(c:Region.wanted o (yielded ops a.tmps)=true)(d:(execOp a.eval o).run P w=.ok (.value v) w)(h:Y4 P ops Q r (a.put o.dst v) w):Y4 P ops Q ((0,o)::r) a w:=by simp only[Y4,c,if_true];exact⟨v,d,h⟩
theorem Q6{v:Value}(c:Region.wanted o (yielded ops a.tmps)=true)(d:∀w',(execOp a.eval o).run P w'=.ok (.value v) w')(h:Y4 P ops Q r (a.put o.dst v) w):Y4 P ops Q ((1,o)::r) a w:=by simp only[Y4,c,if_true];exact⟨v,d,h⟩
theorem Jj{n:Nat}(h:wpList P ops (Exit.then (fun c w'=>Y4 P ops Q r c w') Q) [o] a w):Y4 P ops Q ((n+2,o)::r) a w:=h
theorem Qwn{n:Nat}(c:Region.wanted o (yielded ops a.tmps)=false)(h:Y4 P ops Q r (a.put o.dst undef) w):Y4 P ops Q ((n+2,o)::r) a w:=by show wpList P ops _ [o] a w;simp only[wpList,c,Bool.false_eq_true,if_false];exact h
end
section
variable{n:Nat}{P:Program}{ops:Array Oper}{Q:Exit→Act→World→Prop}
def Qcc(n:Nat)(P:Program)(ops:Array Oper)(Q:Exit→Act→World→Prop)(late:Nat→Bool):Nat→Array Bool→Act→World→Prop
 |0,listed,a,w=>Region.ready .any ops listed=[]∧Q .normal a w
 |f+1,listed,a,w=>(Region.ready .any ops listed=[]→Q .normal a w)∧
  ∀i∈Region.ready .any ops listed,wpOpIn Fence.wide n P ops Q i (fun c w'=>(late i=false→w'=w)∧Qcc n P ops Q late f (listed.setIfInBounds i true) c w') a w
theorem Qar{late:Nat→Bool}:∀(f:Nat)(c:Array Bool)(a:Act)(w:World),Qcc n P ops Q late f c a w→wpAnyIn Fence.wide n P .any ops Q f c a w
 |0,_,_,_,h=>h
 |f+1,_,_,_,h=>⟨h.1,fun i hi=>wpOpIn_mono (fun d w' h'=>Qar f _ d w' h'.2) (h.2 i hi)⟩
theorem Qas{late:Nat→Bool}{D:World→Prop}{i F:Nat}{V:Oper}{v:Value}(hi:ops[i]? =some V)(J:∀(j:Nat)(o:Oper)cs b,ops[j]? =some o→o.op≠ .select cs b)
  (hQ:∀c a w,Q (.panic c) (a.put V.dst v) w→Q (.panic c) a w):
  ∀(f:Nat)(d:Array Bool)(a:Act)(w:World),Ji ops d→
   ((∀w',D w')∨∀j z,ops[j]? =some z→late j=true→d.getD j true=false→Jy ops F j i=true)→
   (∀j z,ops[j]? =some z→j≠i→d.getD j true=false→(∀e∈z.after,Region.binds .any e=true→e.on≠i)→V.apart ops z=true)→
   i∈Region.ready .any ops d→YieldsIf P ops D V v a→D w→
   Qcc n P ops Q late f (d.setIfInBounds i true) (a.put V.dst v) w→Qcc n P ops Q late (f+1) d a w:=by
 intro f;induction f with
 |zero=>
  intro d a w U _ _ hr hy Z H;refine⟨fun h=>(by rw[h]at hr;cases hr),fun j hj=>?_⟩;by_cases u:j=i;·subst u;exact L9 hi hy Z ⟨fun _=>rfl,H⟩
  ·have:=ready_mono hj u;rw[H.1]at this;cases this
 |succ f ih=>
  intro d a w U q I hr hy Z H;have ab:=(mem_ready.1 hr).1;refine⟨fun h=>(by rw[h]at hr;cases hr),fun j hj=>?_⟩;by_cases u:j=i;·subst u;exact L9 hi hy Z ⟨fun _=>rfl,H⟩
  ·have h1:=H.2 j (ready_mono hj u);obtain⟨B,z,E,R⟩:=mem_ready.1 hj;have ag:(∀w',D w')∨late j=false:=by
    rcases q with Z|q;·exact .inl Z
    ·refine .inr ?_;cases hl:late j with
     |false=>rfl
     |true=>
      have h1:=Xp U F j i (fun o ho e he hb=>by
       have:o=z:=Option.some.inj (ho.symm.trans E);subst this;exact R e he hb) (q j z E hl B)
      rw[getD_both ab]at h1;cases h1
   have aa:∀e∈z.after,Region.binds .any e=true→e.on≠i:=fun e he hb af=>by have h1:=R e he hb;rw[af,getD_both ab]at h1;cases h1
   have h2:=Qnj (C:=D) E (I j z E u B aa) (fun cs b=>J i V cs b hi) (fun cs b=>J j z cs b E) hQ hy h1;have K:∀k,(d.setIfInBounds j true).getD k true=false→d.getD k true=false:=fun k h=>by
    by_cases ac:j=k;·subst ac;exact B
    ·rwa[getD_set_ne true ac]at h
   refine wpOpIn_mono (fun a' w' h3=>⟨h3.2.1,ih (d.setIfInBounds j true) a' w' (U.set hj) ?_ ?_ (ready_mono hr (Ne.symm u)) h3.1 ?_ ?_⟩) h2;·exact q.imp id fun h k ok hk hl hu=>h k ok hk hl (K k hu)
   ·exact fun k ok hk ah hu ae=>I k ok hk ah (K k hu) ae
   ·rcases ag with h|h;·exact h w'
    ·rw[h3.2.1 h];exact Z
   ·rw[Array.setIfInBounds_comm _ _ u];exact h3.2.2
def V1(n:Nat)(P:Program)(ops:Array Oper)(Q:Exit→Act→World→Prop):List (Nat×Oper)→Act→World→Prop
 |[],a,w=>Q .normal a w
 |(0,o)::r,a,w=>if Region.wanted o (yielded ops a.tmps)then∃v,(execOp a.eval o).run P w=.ok (.value v) w∧V1 n P ops Q r (a.put o.dst v) w else V1 n P ops Q r (a.put o.dst undef) w
 |(1,o)::r,a,w=>if Region.wanted o (yielded ops a.tmps)then∃v,(∀w',(execOp a.eval o).run P w'=.ok (.value v) w')∧V1 n P ops Q r (a.put o.dst v) w else V1 n P ops Q r (a.put o.dst undef) w
 |(_+2,o)::r,a,w=>wpListIn Fence.wide n P ops (Exit.then (fun c w'=>V1 n P ops Q r c w') Q) [o] a w
theorem Qk0{late:List Nat}(z:Region.noSelect ops=true)(V:∀c(a:Act)(d:Tmp)v w,Q (.panic c) (a.put (some d) v) w→Q (.panic c) a w):
  ∀(r:List (Nat×Nat))(q:Array Bool)(a:Act)(w:World),Ji ops q→xB ops late r q=true→V1 n P ops Q (Zs ops r) a w→Qcc n P ops Q (fun j=>late.contains j) r.length q a w
 |[],q,a,w,hcl,hB,h=>⟨by simpa[xB]using hB,h⟩
 |(0,k)::r,q,a,w,hcl,hB,h=>by
  simp only[xB,Bool.and_eq_true]at hB;obtain⟨⟨⟨⟨hr,hf⟩,B⟩,Z⟩,E⟩:=hB;have u:k∈Region.ready .any ops q:=by simpa using hr
  obtain⟨_,o,h0,_⟩:=mem_ready.1 u;rw[h0]at B;simp only[Option.map_some,Option.getD_some]at B;obtain⟨d,B⟩:=Option.isSome_iff_exists.1 B;rw[Yq h0]at h;simp only[V1]at h;have J:∃v,YieldsIf P ops (fun w'=>w'=w) o v a∧V1 n P ops Q (Zs ops r) (a.put o.dst v) w:=by
   by_cases I:Region.wanted o (yielded ops a.tmps)=true;·simp only[I,if_true]at h;obtain⟨v,h1,K⟩:=h;exact⟨v,.inl ⟨I,fun w' e=>by rw[e];exact h1⟩,K⟩
   ·simp only[I]at h;exact⟨undef,.inr ⟨by simpa using I,rfl⟩,h⟩
  obtain⟨v,J,hK⟩:=J;exact Qas (F:=ops.size) h0 (Region.noSelect_spec z) (fun c R w' U=>by rw[B]at U;exact V c R d _ w' U) _ q a w hcl
   (.inr fun j oj hj hl hu=>by
    have:=List.all_eq_true.1 Z j (by simpa using hl);rw[hu]at this;simpa using this) (Region.free_spec h0 hf) u J rfl
   (Qk0 z V r _ _ w (hcl.set u) E hK)
 |(1,k)::r,q,a,w,hcl,hB,h=>by
  simp only[xB,Bool.and_eq_true]at hB;obtain⟨⟨⟨hr,hf⟩,B⟩,E⟩:=hB;have u:k∈Region.ready .any ops q:=by simpa using hr
  obtain⟨_,o,h0,_⟩:=mem_ready.1 u;rw[h0]at B;simp only[Option.map_some,Option.getD_some]at B;obtain⟨d,B⟩:=Option.isSome_iff_exists.1 B;rw[Yq h0]at h;simp only[V1]at h;have J:∃v,YieldsIf P ops (fun _=>True) o v a∧V1 n P ops Q (Zs ops r) (a.put o.dst v) w:=by
   by_cases I:Region.wanted o (yielded ops a.tmps)=true;·simp only[I,if_true]at h;obtain⟨v,h1,K⟩:=h;exact⟨v,.inl ⟨I,fun w' _=>h1 w'⟩,K⟩
   ·simp only[I]at h;exact⟨undef,.inr ⟨by simpa using I,rfl⟩,h⟩
  obtain⟨v,J,hK⟩:=J;exact Qas (F:=ops.size) h0 (Region.noSelect_spec z) (fun c R w' U=>by rw[B]at U;exact V c R d _ w' U) _ q a w hcl
   (.inl fun _=>trivial) (Region.free_spec h0 hf) u J trivial
   (Qk0 z V r _ _ w (hcl.set u) E hK)
 |(m+2,k)::r,q,a,w,hcl,hB,h=>by
  simp only[xB,Bool.and_eq_true,decide_eq_true_eq]at hB;obtain⟨⟨h1,hl⟩,E⟩:=hB;have u:k∈Region.ready .any ops q:=by rw[h1];simp
  obtain⟨_,o,h0,_⟩:=mem_ready.1 u;rw[Yq h0]at h;simp only[V1]at h;refine⟨fun K=>(by rw[h1]at K;cases K),fun i hi=>?_⟩;rw[h1]at hi;have aa:i=k:=by simpa using hi
  subst aa;refine wpOpIn_mono (fun R w' h'=>⟨fun h=>?_,?_⟩) (Qgn h0 h);·exact absurd (show late.contains i=false from h) (by rw[hl];decide)
  ·exact Qk0 z V r _ R w' (hcl.set u) E h'
theorem Dp{id:Nat}{a:Act}{w:World}{l:List Oper}(k:List (Nat×Nat))(E:P.follows .mixedOrders=true)
  (z:(Region.noSelect l.toArray&&(decide (k.length=l.toArray.size)&&xB l.toArray (Ea k) k (Array.replicate l.toArray.size false)))=true)
  (I:∀c(a:Act)(d:Tmp)v w,Q (.panic c) (a.put (some d) v) w→Q (.panic c) a w) (h:V1 n P l.toArray Q (Zs l.toArray k) a w.drew):
  (Code.region id l.toArray true).wpIn Fence.wide n P Q a w:=by
 simp only[Bool.and_eq_true,decide_eq_true_eq]at z;obtain⟨q,u,z⟩:=z;refine wpIn_region_any E ?_;have B:Ji l.toArray (Array.replicate l.toArray.size false):=fun j J _ hl=>by rw[getD_replicate_false]at hl;cases hl
 have:=Qk0 (n:=n) (P:=P) (Q:=Q) q I k _ a _ B z h;rw[u]at this;exact Qar _ _ _ _ this
variable{r:List (Nat×Oper)}{a:Act}{o:Oper}{w:World}
theorem Qk1(h:Q .normal a w):V1 n P ops Q [] a w:=h
theorem Qk2(c:Region.wanted o (yielded ops a.tmps)=false)(h:V1 n P ops Q r (a.put o.dst undef) w):V1 n P ops Q ((0,o)::r) a w:=by simp only[V1,c,Bool.false_eq_true,if_false];exact h
theorem Qez(c:Region.wanted o (yielded ops a.tmps)=false)(h:V1 n P ops Q r (a.put o.dst undef) w):V1 n P ops Q ((1,o)::r) a w:=by simp only[V1,c,Bool.false_eq_true,if_false];exact h
theorem Ge{v:Value}(c:Region.wanted o (yielded ops a.tmps)=true)(d:(execOp a.eval o).run P w=.ok (.value v) w)(h:V1 n P ops Q r (a.put o.dst v) w):V1 n P ops Q ((0,o)::r) a w:=by simp only[V1,c,if_true];exact⟨v,d,h⟩
theorem Uu{v:Value}(c:Region.wanted o (yielded ops a.tmps)=true)(d:∀w',(execOp a.eval o).run P w'=.ok (.value v) w')(h:V1 n P ops Q r (a.put o.dst v) w):V1 n P ops Q ((1,o)::r) a w:=by simp only[V1,c,if_true];exact⟨v,d,h⟩
theorem Qcd{m:Nat}(h:wpListIn Fence.wide n P ops (Exit.then (fun c w'=>V1 n P ops Q r c w') Q) [o] a w):V1 n P ops Q ((m+2,o)::r) a w:=h
theorem Qk3{m:Nat}(c:Region.wanted o (yielded ops a.tmps)=false)(h:V1 n P ops Q r (a.put o.dst undef) w):V1 n P ops Q ((m+2,o)::r) a w:=by show wpListIn Fence.wide n P ops _ [o] a w;simp only[wpListIn,c,Bool.false_eq_true,if_false];exact⟨fun f _=>trivial,h⟩
end
section
attribute [local go_sem] Qq
theorem Qc.undrew{S:Nat→Prop}{w w1:World}(h:Qc S w.drew w1):Qc S w w1:=⟨h.os,h.tape,h.output,h.size,h.block⟩
def Xv(m:Nat)(ad:Int→Nat)(w:World)(F:Fp)(b:Nat)(f:Q9):Prop:=∃l:List Zq,l.Perm f.all∧Hu (Qya b m f.mark ad l) w F
theorem Xv.obj(m:Nat)(ad:Int→Nat):Ky (Xv m ad) where
 bd:=fun⟨l,_,h⟩=>(Zm (J8 _ m _ ad l)).bd h
 own:=fun⟨l,_,h⟩=>by obtain⟨G,h1,q⟩:=Z7 (J8 _ m _ ad l) 0 rfl h;exact q _ h1.2.1
 keep:=fun⟨l,c,h⟩hc k=>⟨l,c,(Zm (J8 _ m _ ad l)).keep h hc k⟩
 more:=fun⟨l,c,h⟩hs d=>⟨l,c,(Zm (J8 _ m _ ad l)).more h hs d⟩
theorem Jb.addr{w:World}{F:Fp}{b:Nat}{f:Q9}(h:Jb w F b f):∃m ad,Xv m ad w F b f:=by obtain⟨m,ad,l,h⟩:=h;exact⟨m,ad,l,h⟩
section
variable{m:Nat}{ad:Int→Nat}{w w':World}{F:Fp}{b:Nat}{f:Q9}
theorem Xv.is(h:Xv m ad w F b f):Jb w F b f:=by obtain⟨l,h⟩:=h;exact⟨m,ad,l,h⟩
theorem Xv.same(h:Xv m ad w F b f)(hc:Qc Qb w w'):Xv m ad w' (Qn F w w') b f∧Qc F w w':=by obtain⟨l,d,h⟩:=h;have g:=Zm (J8 b m f.mark ad l);have h':=g.keep h hc (Je.none F);exact⟨⟨l,d,g.more h' (fun k c=>.inl c) ((g.bd h).ext (hc.none (F:=F)))⟩,hc.none⟩
theorem Xv.coll(h:Xv m ad w F b f):∃l:List Zq,l.Perm f.all∧Qh w b #[.map (some m),.int .u64 (f.mark:Int)] 212∧∃G,Xy Zq.id Vh w G m ad l:=by obtain⟨l,c,h⟩:=h;obtain⟨k,h0,_⟩:=Z7 (J8 _ m _ ad l) 0 rfl h;obtain⟨d,h1,_⟩:=Z7 (J8 _ m _ ad l) 1 rfl h;exact⟨l,c,h0.1,d,h1⟩
theorem Xv.blk(h:Xv m ad w F b f):Qh w b #[.map (some m),.int .u64 (f.mark:Int)] 212:=by obtain⟨l,d,c,_⟩:=h.coll;exact c
theorem Xv.nodup(h:Xv m ad w F b f):(f.all.map Zq.id).Nodup:=by obtain⟨l,d,_,G,c⟩:=h.coll;exact((d.map _).nodup_iff).1 c.nodup
theorem Q9.at_mem{i:Int}{x:Zq}(h:f.at i=some x):x∈f.all∧x.id=i:=Yh (key:=Zq.id) h
theorem Xv.mem(h:Xv m ad w F b f){x:Zq}(hx:x∈f.all):
  ∃G:Fp,Vh w G (ad x.id) x∧(∀k,G k→F k∧k≠b)∧∀w' x',x'.id=x.id→Vh w' (Qn G w w') (ad x.id) x'→Qc G w w'→Xv m ad w' (Qn F w w') b (f.set x')∧Qc F w w':=by
 obtain⟨l,K,hs⟩:=h;obtain⟨Z,G0,H,h1,h2,B,V,R⟩:=hs;obtain⟨H1,k1,k2,_,k3⟩:=Ju 0 (P:=fun w G=>Xy Zq.id Vh w G m ad l) (L:=[fun w G=>Xy Zq.id Vh w G m ad l]) (by intro P J;simp only[List.mem_cons,List.not_mem_nil,or_false]at J;subst J;exact E8 Vh.obj _ _ _) rfl h2;obtain⟨G,U,z,g3⟩:=k1.focus Vh.obj (K.mem_iff.2 hx);have q:∀k,G k→F k:=fun k c=>R k (k2 k (z k c).1);have I:∀k,G k→k≠b:=fun k c e=>by subst e;exact B _ h1.2.1 (k2 _ (z _ c).1)
 refine⟨G,U,fun k c=>⟨q k c,I k c⟩,fun w' x' E hm d=>?_⟩;have u:Qc H1 w w':=d.sub fun k c=>(z k c).1;have cH:Qc H w w':=u.sub k2;have e1:=k3 w' (fun w G=>Xy Zq.id Vh w G m ad (Dc Zq.id x' l)) u (g3 w' x' E hm d);refine⟨⟨Dc Zq.id x' l,K.map _,?_⟩,d.sub q⟩;refine Zl (G:=G0) (H:=Qn H w w') ((Yu _ _ _).keep h1 cH B) e1 ?_ (fun k c=>.inl (V k c)) (fun k c=>Qn.mono R k c) (Z.ext (d.sub q));exact Je.extR B ((Yu _ _ _).bd h1)
theorem Xv.marked(h:Xv m ad w F b f){n:Nat}(hc:Qc (fun k=>k=b) w w')(c:Qh w' b #[.map (some m),.int .u64 (n:Int)] 212):Xv m ad w' (Qn F w w') b ⟨f.all,n⟩∧Qc F w w':=by obtain⟨l,d,h⟩:=h;have:=(Ju 0 (J8 b m f.mark ad l) rfl h).cells hc c;exact⟨⟨l,d,this.1⟩,this.2⟩
theorem Xv.memB(h:Xv m ad w F b f){x:Zq}(c:x∈f.all):∃p H,Qh w (ad x.id) (Qde x p) 215∧Yx w H p x.run∧ad x.id≠b:=by obtain⟨G,h1,d,_⟩:=h.mem c;obtain⟨p,H,a,b',_⟩:=h1.ex;exact⟨p,H,a,b',(d _ h1.own).2⟩
theorem Xv.memC'(h:Xv m ad w F b f){x x':Zq}{p:Nat}(I:x∈f.all)(d:x'.id=x.id)(hr:x'.run=x.run)(u:Qh w (ad x.id) (Qde x p) 215)
  (hc:Qc (fun k=>k=ad x.id) w w') (B:Qh w' (ad x.id) (Qde x' p) 215):Xv m ad w' (Qn F w w') b (f.set x')∧Qc F w w':=by
 obtain⟨G,h1,U,E⟩:=h.mem I;obtain⟨p',H,a,J,K⟩:=h1.ex;have e:p'=p:=by have c:=a;unfold Qh at c u;rw[u]at c;simp only[Option.some.injEq,Obj.cells.injEq,Qde,Array.mk.injEq,List.cons.injEq,ptr,Value.pointer.injEq,Addr.mk.injEq]at c;exact c.1.2.2.1.1.symm
 subst e;have q:Yx w H p' x'.run:=hr▸J;obtain⟨z,R⟩:=Od.cell (x':=x') h1 q K runP hc B;exact E w' x' d z R
theorem Xv.memR(h:Xv m ad w F b f){x:Zq}(u:x∈f.all):
  ∃(p:Nat)(G:Fp),Qh w (ad x.id) (Qde x p) 215∧Yx w G p x.run∧∀w' r,Yx w' (Qn G w w') p r→Qc G w w'→Xv m ad w' (Qn F w w') b (f.set {x with run:=r})∧Qc F w w':=by
 obtain⟨G,h1,I,q⟩:=h.mem u;obtain⟨p,H,a,z,c⟩:=h1.ex;refine⟨p,H,a,z,fun w' r hr hc=>?_⟩;have k:Qh w' (ad x.id) (Qde {x with run:=r} p) 215:=hc.blk a (fun E=>(c _ E).2 rfl);obtain⟨d,B⟩:=Od.made (x':={x with run:=r}) h1 c runP hc hr (Qc.refl _ _) k;exact q w' {x with run:=r} rfl d B
def Qqg(ad:Int→Nat)(f:Q9)(i:Int):Value:=atP ad i (f.at i)
theorem Xv.at_any(h:Xv m ad w F b f)(i:Int):Cl 189 #[ptr b,.int .i64 i] w fun e w'=>e=.returned (Qqg ad f i)∧w=w':=by obtain⟨l,k,d,G,c⟩:=h.coll;have:=Qgm d c i;unfold Qqg;rw[Q9.at_eq k c.nodup];exact this
end
theorem Qnk{w:World}{F:Fp}{b:Nat}{f:Q9}(h:Jb w F b f)(i:Int):
  Cl 166 #[ptr b,.int .i64 i] w fun e w'=>e=.returned (.tuple #[])∧Jb w' (Qn F w w') b (f.sleep i)∧Qc F w w':=by
 obtain⟨m,ad,u⟩:=h.addr;have q:=O (u.at_any i);unfold Q9.sleep;unfold Qqg at q;cases z:f.at i with
 |none=> have d:=O (u.same (Qc.refl Qb w));rw[z]at q;dsimp only[atP]at q⊢;unfold ptr at*;clear h u z;go_enter func166,ntmps166;go_wp2_with fail;refine q.out.mono ?_;rintro e w1⟨rfl,rfl⟩;go_wp2;refine bodyPost_end (by simp[*,results,Tryz.results166,go_sem]) rfl ⟨rfl,d.out.1.is,d.out.2⟩
 |some x=>
  obtain⟨E,rfl⟩:=Q9.at_mem z;obtain⟨p,H,B,_,_⟩:=u.memB E;have I:=O B;have d:Hid (∀w',Qc (fun k=>k=ad x.id) w w'→Qh w' (ad x.id) (Qde {x with awake:=false} p) 215→Jb w' (Qn F w w') b (f.set {x with awake:=false})∧Qc F w w'):=O (fun w' hc J=>by
   obtain⟨a,c⟩:=u.memC' (x':={x with awake:=false}) E rfl rfl I.out hc J;exact⟨a.is,c⟩)
  obtain⟨K,a1,U,R⟩:=Xt B;have z0:=B.frozen 3;rw[z]at q;dsimp only[atP]at q⊢;unfold ptr at*;clear h u z B E;go_enter func166,ntmps166;go_wp2_with fail;refine q.out.mono ?_;rintro e w1⟨rfl,rfl⟩;go_wp2;refine bodyPost_end (by simp[*,results,Tryz.results166,go_sem]) rfl ⟨rfl,d.out _ (by(repeat' (first|(with_reducible first|exact Zg _ _|assumption|refine Zh ?_ _|refine Zi ?_ _|refine Zj ?_ |refine Zk ?_ _ ?_ |(apply Or.inl;rfl))|(apply Or.inl;simp;done)|(apply Or.inr;simp;first|done|omega)))) (I.out.set' 3 _ rfl)⟩
theorem Qgq{w:World}{F:Fp}{b:Nat}{f:Q9}(h:Jb w F b f)(i:Int):
  Cl 173 #[ptr b,.int .i64 i] w fun e w'=>e=.returned (.bool (f.at i).isSome)∧Jb w' (Qn F w w') b (f.drop i)∧Qc F w w':=by
 obtain⟨m,ad,I⟩:=h.addr;have u:=O (I.at_any i);unfold Qqg at u;cases E:f.at i with
 |none=>
  have e:f.drop i=f:=by
   unfold Q9.drop;have:(f.all.filter fun m=>!decide (m.id=i))=f.all:=List.filter_eq_self.2 fun y hy=>by have:=Dx (key:=Zq.id) E y hy;simpa using this
   rw[this]
  have c:=O (I.same (Qc.refl Qb w));rw[e];rw[E]at u;dsimp only[atP,Option.isSome_none]at u⊢;unfold ptr at*;clear h I E e;go_enter func173,ntmps173;go_wp2_with fail;refine u.out.mono ?_;rintro e w1⟨rfl,rfl⟩;go_wp2;go_ret;exact⟨rfl,c.out.1.is,c.out.2⟩
 |some x=>
  obtain⟨l,hp,hs⟩:=I;have J:=(Z7 (J8 b m f.mark ad l) 0 rfl hs);obtain⟨G0,J,_⟩:=J;obtain⟨G,z,V,R,d⟩:=Ju 1 (J8 b m f.mark ad l) rfl hs;obtain⟨w',Z,B,q⟩:=Uq (P:=prog) z.map underlying210 underlying3 3 0 i;have c:Hid (Jb w' (Qn F w w') b (f.drop i)∧Qc F w w'):=O (by
   have K:Qc G w w':=q.sub fun k U=>U▸z.at_;have h1:Xy Zq.id Vh w' (Qn G w w') m ad (Yw Zq.id i l):=(z.del Vh.obj i B q).more (fun k U=>.inl U) (z.bd.ext K);exact⟨⟨m,ad,Yw Zq.id i l,hp.filter _,d w' (fun w G=>Xy Zq.id Vh w G m ad (Yw Zq.id i l)) K h1⟩,K.sub V⟩)
  obtain⟨a0,a1⟩:=Qz J.1;rw[E]at u;dsimp only[atP,Option.isSome_some]at u⊢;unfold ptr at*;clear h E hs d V R z B q J hp;go_enter func173,ntmps173;go_wp2_with fail;refine u.out.mono ?_;rintro e w1⟨rfl,rfl⟩;go_wp2;go_ret;exact⟨rfl,c.out.1,c.out.2⟩
end
section
attribute [local go_sem] Qq
attribute [local go_sem ↓] Xe Xn
theorem Q9.set_set(f:Q9){a b:Zq}(h:a.id=b.id):(f.set a).set b=f.set b:=by
 unfold Q9.set;simp only[List.map_map,Q9.mk.injEq,and_true];refine List.map_congr_left fun x _=>?_;simp only[Function.comp];by_cases c:x.id=a.id;·rw[if_pos c,if_pos h,if_pos (c.trans h)]
 ·rw[if_neg c]
theorem Q9.mem_set{f:Q9}{x a:Zq}(c:x∈f.all)(h:a.id=x.id):a∈(f.set a).all:=List.mem_map.2 ⟨x,c,if_pos h.symm⟩
theorem Qqh{w:World}{b q mark:Nat}{u v0 v1 v2 v3:Value}(k:Qh w b #[u,.int .u64 (mark:Int)] 212)(d:Qh w q #[v0,v1,v2,v3] 215)(c:q≠b)(v:Nat):
  Cl 200 #[ptr b,ptr q,.int .u64 (v:Int)] w fun e w'=>e=.returned (.tuple #[])∧w'=(w.setCell ⟨q,1,none⟩ (.int .u64 (v:Int))).setCell ⟨b,1,none⟩ (.int .u64 ((max mark v:Nat):Int)):=by
 obtain⟨z,a1⟩:=Qz (k.other (a:=⟨q,1,none⟩) (.int .u64 (v:Int)) c);have z0:=(k.other (a:=⟨q,1,none⟩) (.int .u64 (v:Int)) c).frozen 1;have J:=d.frozen 1;obtain⟨E,B,I,K⟩:=Xt d;have e:max (mark:Int) (v:Int)=((max mark v:Nat):Int):=by omega
 rw[←e];unfold ptr at*;clear k d e;go_enter func200,ntmps200;go_wp2;refine bodyPost_end (by simp[*,results,Tryz.results200,go_sem]) rfl ⟨rfl,?_⟩;first|rfl|simp
theorem Xv.madeW{m:Nat}{ad:Int→Nat}{w w':World}{F:Fp}{b:Nat}{f:Q9}(h:Xv m ad w F b f){x:Zq}(d:x∈f.all)(v:Nat)
  (B:w'=(w.setCell ⟨ad x.id,1,none⟩ (.int .u64 (v:Int))).setCell ⟨b,1,none⟩ (.int .u64 ((max f.mark v:Nat):Int))):Xv m ad w' (Qn F w w') b (f.made x v)∧Qc F w w':=by
 subst B;obtain⟨p,H,c,_,q⟩:=h.memB d;obtain⟨h1,k⟩:=h.memC' (x':={x with v:=v}) d rfl rfl c ((Qc.refl _ w).setCell (a:=⟨ad x.id,1,none⟩) (.int .u64 (v:Int)) (.inl rfl)) (c.set' 1 _ rfl);obtain⟨z,u⟩:=h1.marked (n:=max f.mark v) ((Qc.refl _ _).setCell (a:=⟨b,1,none⟩) (.int .u64 ((max f.mark v:Nat):Int)) (.inl rfl)) (h1.blk.set' 1 _ rfl);exact(Xv.obj m ad).two z ((Xv.obj m ad).bd h) k u
theorem Qgr{m:Nat}{ad:Int→Nat}{w:World}{F:Fp}{b:Nat}{f:Q9}(h:Xv m ad w F b f){x:Zq}(d:x∈f.all)(v:Nat):
  Cl 200 #[ptr b,ptr (ad x.id),.int .u64 (v:Int)] w fun e w'=>e=.returned (.tuple #[])∧Xv m ad w' (Qn F w w') b (f.made x v)∧Qc F w w':=by
 obtain⟨p,H,q,_,c⟩:=h.memB d;refine(Qqh h.blk q c v).mono ?_;rintro e w1⟨rfl,k⟩;exact⟨rfl,h.madeW d v k⟩
theorem Qqi{w:World}{F:Fp}{b:Nat}{f:Q9}(h:Jb w F b f)(hN:∀x∈f.all,x.total≤Jz∧x.run.l.length<1099511627776)(i:Int)(g:Nat)(hg:g<18446744073709551616):
  Cl 163 #[ptr b,.int .i64 i,.int .u64 (g:Int)] w fun e w'=>e=.returned (.tuple #[])∧Jb w' (Qn F w w') b (f.gain i g)∧Qc F w w':=by
 obtain⟨m,ad,I⟩:=h.addr;have E:=O (I.at_any i);unfold Q9.gain;unfold Qqg at E;cases Z:f.at i with
 |none=> have c:=O (I.same (Qc.refl Qb w));rw[Z]at E;dsimp only[atP]at E⊢;unfold ptr at*;clear h I Z hN;go_enter func163,ntmps163;go_wp2_with fail;refine E.out.mono ?_;rintro e w1⟨rfl,rfl⟩;go_wp2;refine bodyPost_ret (results_none rfl _ _ _) rfl ⟨rfl,c.out.1.is,c.out.2⟩
 |some x=>
  obtain⟨V,rfl⟩:=Q9.at_mem Z;obtain⟨K,ae⟩:=hN x V;obtain⟨p,H,z,_,ab⟩:=I.memB V;obtain⟨T,hT⟩:=Zx (x.total+min g (Jz-x.total));have aa:T≤Jz:=by omega
  have e1:IntKind.u64.wrap (4611686018427387904-(x.total:Int))=((Jz-x.total:Nat):Int):=by rw[IntWalk.u64_in _ (by have:=Xu;omega)];have:=Xu;omega
  have e2:min (g:Int) ((Jz-x.total:Nat):Int)=((min g (Jz-x.total):Nat):Int):=by omega
  have e3:IntKind.u64.wrap ((x.total:Int)+((min g (Jz-x.total):Nat):Int))=(T:Int):=by rw[IntWalk.u64_in _ (by have:=Xu;omega)];omega
  have HM:=O z;obtain⟨W,hW⟩:=Zx ((w.setCell ⟨ad x.id,0,none⟩ (.int .u64 (T:Int))).drew);have U:Hid (Xv m ad W (Qn F w W) b (f.set {x with total:=T})∧Qc F w W):=O (by
   rw[hW];exact I.memC' (x':={x with total:=T}) V rfl rfl z ((Qc.refl (fun k=>k=ad x.id) w).setCell (a:=⟨ad x.id,0,none⟩) (.int .u64 (T:Int)) (.inl rfl)).drew (z.set' 0 _ rfl).drew)
  have BW:Hid (Qh W (ad x.id) (Qde {x with total:=T} p) 215):=O (by rw[hW];exact(z.set' 0 _ rfl).drew);have SS:=O (f.set_set (a:={x with total:=T}) (b:={{x with total:=T}with v:=x.run.reach T}) rfl);have MM:=O (Q9.mem_set (a:={x with total:=T}) V rfl);have af:=O ((Xv.obj m ad).bd I);rw[Z]at E;dsimp only[atP]at E⊢;rw[←hT];rcases Bool.eq_false_or_eq_true x.awake with d|d
  rotate_left
  ·rw[if_neg (by rw[d];decide)];obtain⟨a0,a1,a2,a3⟩:=Xt z.drew;have z0:=z.drew.frozen 0;obtain⟨d0,d1,d2,d3⟩:=Xt BW.out;simp only[d]at a3 d3;have c:=O U.out;generalize Jz-x.total=u at e1 e2 e3;generalize min g u=u2 at e2 e3;unfold ptr at*;clear h I Z z V K hT aa hN d ab;go_enter func163,ntmps163;go_wp2_with fail;refine E.out.mono ?_;rintro e w1⟨rfl,rfl⟩;go_wp2_with fail;refine Qi [(0,0),(0,1),(0,2),(0,3),(0,4),(0,5),(0,6),(0,7),(0,8),(0,9),(0,10),(0,11),(0,12),(0,13),(2,14)] (by kernel_rfl) (by kernel_rfl) ?_ ?_;·exact fun _ _ _ _ _ h=>h
   simp only[Zs,Zf,Ze,Zd];iterate 14 (refine Zz (by kernel_rfl) (by go_simp;try with_reducible rfl) ?_)
   refine Jj ?_;go_wp2_with fail;refine Zu ?_;rw[←hW];clear a0 a1 a2 a3 z0 hW;go_wp2_with fail;refine bodyPost_end (by simp[*,results,Tryz.results163,go_sem]) rfl ⟨rfl,c.out.1.is,c.out.2⟩
  ·rw[if_pos d];obtain⟨a0,a1,a2,a3⟩:=Xt z.drew;have z0:=z.drew.frozen 0;obtain⟨q,G,R,J,_⟩:=U.out.1.memR MM.out;obtain⟨_,_,_,d3⟩:=Xt R;obtain⟨g0,g1,g2,g3⟩:=Xt R.drew;have HR:=O (fun w'(hc:Qc Qb W w')=>Lw (runP.keep J hc (Je.none G)) ae T (by have:=Xu;omega));have c:Hid (∀w2,Qc Qb W w2→∀w3,Xv m ad w3 (Qn (Qn (Qn F w W) W w2) w2 w3) b ((f.set {x with total:=T}).made {x with total:=T} (x.run.reach T))→Qc (Qn (Qn F w W) W w2) w2 w3→Jb w3 (Qn F w w3) b (f.made {x with total:=T} (x.run.reach T))∧Qc F w w3):=O (by
    intro w2 B w3 h3 c3;obtain⟨s1,s2⟩:=U.out.1.same B;obtain⟨t1,t2⟩:=(Xv.obj m ad).two h3 ((Xv.obj m ad).bd U.out.1) s2 c3;obtain⟨u1,u2⟩:=(Xv.obj m ad).two t1 af.out U.out.2 t2;have e:(f.set {x with total:=T}).made {x with total:=T} (x.run.reach T)=f.made {x with total:=T} (x.run.reach T):=by unfold Q9.made;rw[SS.out];rfl
    rw[e]at u1;exact⟨u1.is,u2⟩)
   have ag:Hid (∀w2,Qc Qb W w2→Xv m ad w2 (Qn (Qn F w W) W w2) b (f.set {x with total:=T})):=O (fun w2 B=>(U.out.1.same B).1);simp only[d]at a3 d3;generalize hv:x.run.reach T=v at HR c⊢;generalize Jz-x.total=u at e1 e2 e3;generalize min g u=u2 at e2 e3;unfold ptr at*;clear h I Z z V K hT aa hN d ab R J hv;go_enter func163,ntmps163;go_wp2_with fail;refine E.out.mono ?_;rintro e w1⟨rfl,rfl⟩;go_wp2_with fail;refine Qi [(0,0),(0,1),(0,2),(0,3),(0,4),(0,5),(0,6),(0,7),(0,8),(0,9),(0,10),(0,11),(0,12),(0,13),(2,14)] (by kernel_rfl) (by kernel_rfl) ?_ ?_;·exact fun _ _ _ _ _ h=>h
   simp only[Zs,Zf,Ze,Zd];iterate 14 (refine Zz (by kernel_rfl) (by go_simp;try with_reducible rfl) ?_)
   refine Jj ?_;go_wp2_with fail;refine Zu ?_;rw[←hW];clear a0 a1 a2 a3 z0 hW;go_wp2_with fail;refine Qi [(1,0),(1,1),(0,2),(0,3),(0,4),(0,5),(0,6),(0,7),(0,8),(0,9),(2,10),(2,11)] (by kernel_rfl) (by kernel_rfl) ?_ ?_;·exact fun _ _ _ _ _ h=>h
   simp only[Zs,Zf,Ze,Zd];iterate 2 (refine Q6 (by kernel_rfl) (fun wv=>by go_simp;try with_reducible rfl) ?_;try simp only[Act.put,Za,Zc,Zb])
   iterate 8 (refine Zz (by kernel_rfl) (by go_simp;try with_reducible rfl) ?_)
   clear d3 g0 g1 g2 g3;refine Jj ?_;go_wp2_with fail;refine(HR.out _ (Qc.refl _ W).drew).mono ?_;rintro e w2⟨rfl,B⟩;replace B:=B.undrew;have ac:=ag.out _ B;have C2:=O B;clear B;go_wp2_with fail;refine Jj ?_;go_wp2_with fail;refine(Qgr ac (x:={x with total:=T}) MM.out v).mono ?_;rintro e w3⟨rfl,h3,c3⟩;have FF:=O (c.out _ C2.out _ h3 c3);clear h3 c3 ac;go_wp2_with fail;refine Zu ?_;go_wp2_with fail;refine bodyPost_end (by simp[*,results,Tryz.results163,go_sem]) rfl ⟨rfl,FF.out⟩
end
section
variable{P:Program}{ops:Array Oper}{Q:Exit→Act→World→Prop}{D:World→Prop}
def Qdf(P:Program)(ops:Array Oper)(Q:Exit→Act→World→Prop)(D:World→Prop)(late c:Nat→Bool):Nat→Array Bool→Act→World→Prop
 |0,listed,a,w=>Region.ready .any ops listed=[]∧Q .normal a w
 |f+1,listed,a,w=>(Region.ready .any ops listed=[]→Q .normal a w)∧
  ∀i∈Region.ready .any ops listed,wpOp P ops Q i (fun d w'=>((late i=false→w'=w)∧(late i=true→c i=false→D w'))∧Qdf P ops Q D late c f (listed.setIfInBounds i true) d w') a w
theorem Qbd{late d:Nat→Bool}:∀(f:Nat)(c:Array Bool)(a:Act)(w:World),Qdf P ops Q D late d f c a w→wpAny P .any ops Q f c a w
 |0,_,_,_,h=>h
 |f+1,_,_,_,h=>⟨h.1,fun i hi=>wpOp_mono (fun k w' h'=>Qbd f _ k w' h'.2) (h.2 i hi)⟩
theorem Oh{late U:Nat→Bool}{E:World→Prop}{i F:Nat}{oi:Oper}{v:Value}(hi:ops[i]? =some oi)(ac:late i=false)(V:∀(j:Nat)(o:Oper)cs b,ops[j]? =some o→o.op≠ .select cs b)
  (hQ:∀c a w,Q (.panic c) (a.put oi.dst v) w→Q (.panic c) a w):
  ∀(f:Nat)(d:Array Bool)(a:Act)(w:World),Ji ops d→
   (((∀w',D w'→E w')∧∀j u,ops[j]? =some u→U j=true→d.getD j true=false→Jy ops F j i=true)∨∀j u,ops[j]? =some u→late j=true→d.getD j true=false→Jy ops F j i=true)→
   (∀j u,ops[j]? =some u→j≠i→d.getD j true=false→(∀e∈u.after,Region.binds .any e=true→e.on≠i)→oi.apart ops u=true)→
   i∈Region.ready .any ops d→YieldsIf P ops E oi v a→E w→
   Qdf P ops Q D late U f (d.setIfInBounds i true) (a.put oi.dst v) w→Qdf P ops Q D late U (f+1) d a w:=by
 intro f;induction f with
 |zero=>
  intro d a w aa _ _ hr hy hE H;refine⟨fun h=>(by rw[h]at hr;cases hr),fun j hj=>?_⟩;by_cases q:j=i;·subst q;exact hy.wpOp hi hE ⟨⟨fun _=>rfl,fun h1 _=>(by rw[ac]at h1;cases h1)⟩,H⟩
  ·have:=ready_mono hj q;rw[H.1]at this;cases this
 |succ f ih=>
  intro d a w aa I K hr hy hE H;have ae:=(mem_ready.1 hr).1;refine⟨fun h=>(by rw[h]at hr;cases hr),fun j hj=>?_⟩;by_cases q:j=i;·subst q;exact hy.wpOp hi hE ⟨⟨fun _=>rfl,fun h1 _=>(by rw[ac]at h1;cases h1)⟩,H⟩
  ·have h1:=H.2 j (ready_mono hj q);obtain⟨z,u,B,Z⟩:=mem_ready.1 hj;have R:Jy ops F j i=true→False:=fun hw=>by
    have h1:=Xp aa F j i (fun o ho e he hb=>by
     have:o=u:=Option.some.inj (ho.symm.trans B);subst this;exact Z e he hb) hw
    rw[getD_both ae]at h1;cases h1
   have ab:∀e∈u.after,Region.binds .any e=true→e.on≠i:=fun e he hb ag=>by have h1:=Z e he hb;rw[ag,getD_both ae]at h1;cases h1
   have h2:=wpOp_putIf (S:=E) B (K j u B q z ab) (fun cs b=>V i oi cs b hi) (fun cs b=>V j u cs b B) hQ hy h1;have J:∀k,(d.setIfInBounds j true).getD k true=false→d.getD k true=false:=fun k h=>by
    by_cases af:j=k;·subst af;exact z
    ·rwa[getD_set_ne true af]at h
   refine wpOp_mono (fun a' w' h3=>⟨h3.2.1,ih (d.setIfInBounds j true) a' w' (aa.set hj) ?_ ?_ (ready_mono hr (Ne.symm q)) h3.1 ?_ ?_⟩) h2;·exact I.imp (fun h=>⟨h.1,fun k ok hk hl hu=>h.2 k ok hk hl (J k hu)⟩) fun h k ok hk hl hu=>h k ok hk hl (J k hu)
   ·exact fun k ok hk ah hu R=>K k ok hk ah (J k hu) R
   ·cases hl:late j with
    |false=>rw[h3.2.1.1 hl];exact hE
    |true=>
     rcases I with h|h
     ·cases hn:U j with
      |false=>exact h.1 w' (h3.2.1.2 hl hn)
      |true=>exact(R (h.2 j u B hn z)).elim
     ·exact(R (h j u B hl z)).elim
   ·rw[Array.setIfInBounds_comm _ _ q];exact h3.2.2
def Jm(P:Program)(ops:Array Oper)(Q:Exit→Act→World→Prop)(D:World→Prop):List (Nat×Oper)→Act→World→Prop
 |[],a,w=>Q .normal a w
 |(0,o)::r,a,w=>if Region.wanted o (yielded ops a.tmps)then∃v,(execOp a.eval o).run P w=.ok (.value v) w∧Jm P ops Q D r (a.put o.dst v) w else Jm P ops Q D r (a.put o.dst undef) w
 |(1,o)::r,a,w=>if Region.wanted o (yielded ops a.tmps)then∃v,(∀w',D w'→(execOp a.eval o).run P w'=.ok (.value v) w')∧Jm P ops Q D r (a.put o.dst v) w else Jm P ops Q D r (a.put o.dst undef) w
 |(2,o)::r,a,w=>wpList P ops (Exit.then (fun c w'=>D w'∧Jm P ops Q D r c w') Q) [o] a w
 |(_+3,o)::r,a,w=>wpList P ops (Exit.then (fun c w'=>Jm P ops Q D r c w') Q) [o] a w
def Qnl:List (Nat×Nat)→List Nat
 |[]=>[]
 |(0,_)::r=>Qnl r
 |(1,_)::r=>Qnl r
 |(2,_)::r=>Qnl r
 |(_+3,k)::r=>k::Qnl r
def Qjr(ops:Array Oper)(late:List Nat)(k:Nat)(c:Array Bool):Bool:=(Region.ready .any ops c).contains k&&Region.free .any ops c k&&((ops[k]?).map (·.dst.isSome)).getD false&&!late.contains k
def xdB(ops:Array Oper)(late c:List Nat):List (Nat×Nat)→Array Bool→Bool
 |[],listed=>(Region.ready .any ops listed).isEmpty
 |(0,k)::r,listed=>Qjr ops late k listed&&(late.all fun j=>listed.getD j true||Jy ops ops.size j k)&&xdB ops late c r (listed.setIfInBounds k true)
 |(1,k)::r,listed=>Qjr ops late k listed&&(c.all fun j=>listed.getD j true||Jy ops ops.size j k)&&xdB ops late c r (listed.setIfInBounds k true)
 |(2,k)::r,listed=>decide (Region.ready .any ops listed=[k])&&late.contains k&&xdB ops late c r (listed.setIfInBounds k true)
 |(_+3,k)::r,listed=>decide (Region.ready .any ops listed=[k])&&late.contains k&&c.contains k&&(r.all fun x=>x.1 != 1)&&xdB ops late c r (listed.setIfInBounds k true)
theorem G7{late:List Nat}{k:Nat}{c:Array Bool}(h:Qjr ops late k c=true):k∈Region.ready .any ops c∧Region.free .any ops c k=true∧late.contains k=false∧∃o d,ops[k]? =some o∧o.dst=some d:=by
 simp only[Qjr,Bool.and_eq_true,Bool.not_eq_true']at h;obtain⟨⟨⟨hr,hf⟩,q⟩,hl⟩:=h;have u:k∈Region.ready .any ops c:=by simpa using hr
 obtain⟨_,o,h0,_⟩:=mem_ready.1 u;rw[h0]at q;simp only[Option.map_some,Option.getD_some]at q;obtain⟨d,q⟩:=Option.isSome_iff_exists.1 q;exact⟨u,hf,hl,o,d,h0,q⟩
theorem Qgs{late Z:List Nat}(z:Region.noSelect ops=true)(hQ:∀c(a:Act)(d:Tmp)v w,Q (.panic c) (a.put (some d) v) w→Q (.panic c) a w):
  ∀(r:List (Nat×Nat))(q:Array Bool)(a:Act)(w:World),Ji ops q→(D w∨(r.all fun x=>x.1 != 1)=true)→xdB ops late Z r q=true→Jm P ops Q D (Zs ops r) a w→
   Qdf P ops Q D (fun j=>late.contains j) (fun j=>Z.contains j) r.length q a w
 |[],q,a,w,hcl,J,hB,h=>⟨by simpa[xdB]using hB,h⟩
 |(0,k)::r,q,a,w,hcl,J,hB,h=>by
  simp only[xdB,Bool.and_eq_true]at hB;obtain⟨⟨aa,ab⟩,B⟩:=hB;obtain⟨u,hf,hl,o,d,h0,hd⟩:=G7 aa;rw[Yq h0]at h;simp only[Jm]at h;have U:∃v,YieldsIf P ops (fun w'=>w'=w) o v a∧Jm P ops Q D (Zs ops r) (a.put o.dst v) w:=by
   by_cases E:Region.wanted o (yielded ops a.tmps)=true;·simp only[E,if_true]at h;obtain⟨v,h1,I⟩:=h;exact⟨v,.inl ⟨E,fun w' e=>by rw[e];exact h1⟩,I⟩
   ·simp only[E]at h;exact⟨undef,.inr ⟨by simpa using E,rfl⟩,h⟩
  obtain⟨v,U,hK⟩:=U;exact Oh (F:=ops.size) h0 hl (Region.noSelect_spec z) (fun c R w' hq=>by rw[hd]at hq;exact hQ c R d _ w' hq) _ q a w hcl
   (.inr fun j oj hj hl hu=>by
    have:=List.all_eq_true.1 ab j (by simpa using hl);rw[hu]at this;simpa using this) (Region.free_spec h0 hf) u U rfl
   (Qgs z hQ r _ _ w (hcl.set u) (J.imp id fun h=>by simpa using h) B hK)
 |(1,k)::r,q,a,w,hcl,J,hB,h=>by
  simp only[xdB,Bool.and_eq_true]at hB;obtain⟨⟨aa,ab⟩,B⟩:=hB;have J:D w:=J.elim id fun h=>by simp at h
  obtain⟨u,hf,hl,o,d,h0,hd⟩:=G7 aa;rw[Yq h0]at h;simp only[Jm]at h;have U:∃v,YieldsIf P ops D o v a∧Jm P ops Q D (Zs ops r) (a.put o.dst v) w:=by
   by_cases E:Region.wanted o (yielded ops a.tmps)=true;·simp only[E,if_true]at h;obtain⟨v,h1,I⟩:=h;exact⟨v,.inl ⟨E,h1⟩,I⟩
   ·simp only[E]at h;exact⟨undef,.inr ⟨by simpa using E,rfl⟩,h⟩
  obtain⟨v,U,hK⟩:=U;exact Oh (F:=ops.size) h0 hl (Region.noSelect_spec z) (fun c R w' hq=>by rw[hd]at hq;exact hQ c R d _ w' hq) _ q a w hcl
   (.inl ⟨fun _ h=>h,fun j oj hj hl hu=>by
    have:=List.all_eq_true.1 ab j (by simpa using hl);rw[hu]at this;simpa using this⟩) (Region.free_spec h0 hf) u U J
   (Qgs z hQ r _ _ w (hcl.set u) (.inl J) B hK)
 |(2,k)::r,q,a,w,hcl,J,hB,h=>by
  simp only[xdB,Bool.and_eq_true,decide_eq_true_eq]at hB;obtain⟨⟨h1,hl⟩,B⟩:=hB;have u:k∈Region.ready .any ops q:=by rw[h1];simp
  obtain⟨_,o,h0,_⟩:=mem_ready.1 u;rw[Yq h0]at h;simp only[Jm]at h;refine⟨fun I=>(by rw[h1]at I;cases I),fun i hi=>?_⟩;rw[h1]at hi;have K:i=k:=by simpa using hi
  subst K;refine wpOp_mono (fun R w' h'=>⟨⟨fun h=>absurd (show late.contains i=false from h) (by rw[hl];decide),fun _ _=>h'.1⟩,?_⟩) (Yp h0 h);exact Qgs z hQ r _ R w' (hcl.set u) (.inl h'.1) B h'.2
 |(n+3,k)::r,q,a,w,hcl,J,hB,h=>by
  simp only[xdB,Bool.and_eq_true,decide_eq_true_eq]at hB;obtain⟨⟨⟨⟨h1,hl⟩,hn⟩,V⟩,B⟩:=hB;have u:k∈Region.ready .any ops q:=by rw[h1];simp
  obtain⟨_,o,h0,_⟩:=mem_ready.1 u;rw[Yq h0]at h;simp only[Jm]at h;refine⟨fun I=>(by rw[h1]at I;cases I),fun i hi=>?_⟩;rw[h1]at hi;have K:i=k:=by simpa using hi
  subst K;refine wpOp_mono (fun R w' h'=>⟨⟨fun h=>absurd (show late.contains i=false from h) (by rw[hl];decide),fun _ h=>absurd (show Z.contains i=false from h) (by rw[hn];decide)⟩,?_⟩) (Yp h0 h);exact Qgs z hQ r _ R w' (hcl.set u) (.inr V) B h'
theorem Z9{id:Nat}{a:Act}{w:World}{l:List Oper}(k:List (Nat×Nat))(D:World→Prop)(I:P.follows .mixedOrders=true)
  (z:(Region.noSelect l.toArray&&(decide (k.length=l.toArray.size)&&xdB l.toArray (Ea k) (Qnl k) k (Array.replicate l.toArray.size false)))=true)
  (J:∀c(a:Act)(d:Tmp)v w,Q (.panic c) (a.put (some d) v) w→Q (.panic c) a w) (E:D w.drew) (h:Jm P l.toArray Q D (Zs l.toArray k) a w.drew):
  (Code.region id l.toArray true).wp P Q a w:=by
 simp only[Bool.and_eq_true,decide_eq_true_eq]at z;obtain⟨q,u,z⟩:=z;refine wp_region_any I ?_;have B:Ji l.toArray (Array.replicate l.toArray.size false):=fun j K _ hl=>by rw[getD_replicate_false]at hl;cases hl
 have:=Qgs (P:=P) (D:=D) q J k _ a _ B (.inl E) z h;rw[u]at this;exact Qbd _ _ _ _ this
variable{r:List (Nat×Oper)}{a:Act}{o:Oper}{w:World}
theorem K8(h:Q .normal a w):Jm P ops Q D [] a w:=h
theorem Jr{v:Value}(c:Region.wanted o (yielded ops a.tmps)=true)(d:(execOp a.eval o).run P w=.ok (.value v) w)(h:Jm P ops Q D r (a.put o.dst v) w):Jm P ops Q D ((0,o)::r) a w:=by simp only[Jm,c,if_true];exact⟨v,d,h⟩
theorem Q4{v:Value}(c:Region.wanted o (yielded ops a.tmps)=true)(d:∀w',D w'→(execOp a.eval o).run P w'=.ok (.value v) w')(h:Jm P ops Q D r (a.put o.dst v) w):Jm P ops Q D ((1,o)::r) a w:=by simp only[Jm,c,if_true];exact⟨v,d,h⟩
theorem Yc(h:wpList P ops (Exit.then (fun c w'=>D w'∧Jm P ops Q D r c w') Q) [o] a w):Jm P ops Q D ((2,o)::r) a w:=h
theorem V5(h:wpList P ops (Exit.then (fun c w'=>Jm P ops Q D r c w') Q) [o] a w):Jm P ops Q D ((3,o)::r) a w:=h
end
end Go.Proofs.YtnnhmpehkbihnaaGreat
