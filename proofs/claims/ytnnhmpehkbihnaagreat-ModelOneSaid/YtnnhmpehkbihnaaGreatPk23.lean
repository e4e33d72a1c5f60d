/- A part of the proof: no condition. -/
import Derived.Test.YtnnhmpehkbihnaaGreatPk06
import Derived.Test.YtnnhmpehkbihnaaGreatPk02
namespace Go.Proofs.YtnnhmpehkbihnaaGreat
set_option linter.unusedVariables false
set_option maxRecDepth 100000
set_option maxHeartbeats 4000000
open Go.RowKit
open Go.Proofs.Tryz
section
variable{n:Nat}{P:Program}{ops:Array Oper}{Q:Exit→Act→World→Prop}{C:World→Prop}
theorem Nx{n m:Nat}{l:Nat}{f:FuncId}{q:Array Value}{d k:Code}{w}{R:Ending→World→Prop}(h:RoundIn Fence.wide n P l f q d k w R):RoundIn Fence.wide m P l f q d k w R:=
 ⟨h.1,fun c cs _=>h.2 c cs (room_wide _)⟩
theorem Qf6{n m:Nat}{l:Nat}{d:Array Value}{W}{R:Ending→World→Prop}(h:YieldAt Fence.wide n P l d W R):YieldAt Fence.wide m P l d W R:=by obtain⟨u,q,c,k,h1,z⟩:=h;exact⟨u,q,c,k,h1,Nx z⟩
theorem Sd{i:Nat}{o:Oper}{v:Value}{a:Act}(hi:ops[i]? =some o)(q:YieldsIf P ops C o v a)
  {K:Act→World→Prop}{w}(d:C w)(h:K (a.put o.dst v) w):wpOpIn Fence.wide n P ops Q i K a w:=by
 unfold Go.wpOpIn;simp only[hi];rcases q with⟨c,k⟩|⟨c,rfl⟩;·simp only[c,if_true,Oper.wpIn];refine⟨fun f _=>trivial,?_⟩;rw[show Fence.wide.round=none from rfl,Oper.semAt_none,k w d];exact h
 ·simp only[c,Bool.false_eq_true,if_false];exact⟨fun f _=>trivial,h⟩
theorem Qjo{j:Nat}{k B:Oper}{v:Value}(hj:ops[j]? =some B)(U:k.apart ops B=true)
  (V:∀cs b,k.op≠ .select cs b)(Z:∀cs b,B.op≠ .select cs b)
  (R:∀c a w,Q (.panic c) (a.put k.dst v) w→Q (.panic c) a w){K:Act→World→Prop}{a:Act}{w}
  (z:YieldsIf P ops C k v a) (h:wpOpIn Fence.wide n P ops Q j K (a.put k.dst v) w):
  wpOpIn Fence.wide n P ops Q j (fun a' w'=>YieldsIf P ops C k v a'∧K (a'.put k.dst v) w') a w:=by
 obtain⟨h1,E,h3⟩:=Oper.apart_spec U;have aB:∀(a:Act),YieldsIf P ops C k v a→∀u,YieldsIf P ops C k v (a.put B.dst u):=fun a z u=>
  z.of_same (execOp_put k V a B.dst u h3) (wanted_put k a B.dst u h3)
 have I:∀d,YieldsIf P ops C k v {a with defers:=d::a.defers}:=fun d=>z.of_same rfl rfl;unfold wpOpIn at*;simp only[hj]at*;rw[wanted_put B a k.dst v h1]at h;split
 ·rename_i hw;simp only[hw,if_true]at h;unfold Oper.wpIn at*;refine⟨fun f _=>trivial,?_⟩;have h:=h.2;rw[show Fence.wide.round=none from rfl,Oper.semAt_none,execOp_put B Z a k.dst v h1]at h;rw[show Fence.wide.round=none from rfl,Oper.semAt_none];generalize(execOp a.eval B).run P w=r at*;cases r with
  |ok x w'=>
   cases x<;>simp only[Oper.uponIn]at h⊢;case value u=>exact⟨aB a z u,by rw[←Act.put_comm a v u E];exact h⟩
   case skip=>exact⟨aB a z _,by rw[←Act.put_comm a v undef E];exact h⟩
   case defer d=> refine⟨aB _ (I d) _,?_⟩;rw[←Act.put_comm _ v undef E,←Act.put_defers];exact h
   case enter f args=>
    refine⟨h.1,CallsIn.mono h.2 fun e J q=>?_⟩;cases e with
    |returned u=>exact⟨aB a z u,by rw[←Act.put_comm a v u E];exact q⟩
    |panicked c=>exact R _ _ _ q
    |outgrown=>exact q
   case row row args=>exact⟨h.1,RowsIn.mono h.2 fun u J q=>⟨aB a z u,by rw[←Act.put_comm a v u E];exact q⟩⟩
   case round l f tmps assign body=>
    refine⟨h.1,RoundIn.mono h.2 fun e J q=>?_⟩;cases e with
    |returned u=>exact⟨aB a z u,by rw[←Act.put_comm a v u E];exact q⟩
    |panicked c=>exact R _ _ _ q
    |outgrown=>exact q
  |halt x w'=> cases x<;>simp only[Oper.uponIn]at h⊢;case panic u=>exact R _ _ _ h
 ·rename_i hw;simp only[hw]at h;exact⟨fun f _=>trivial,aB a z _,by rw[←Act.put_comm a v undef E];exact h.2⟩
theorem Qca{i:Nat}{o:Oper}{K:Act→World→Prop}{a:Act}{w}(h0:ops[i]? =some o)(h:wpListIn Fence.wide n P ops (Exit.then K Q) [o] a w):wpOpIn Fence.wide n P ops Q i K a w:=by
 unfold wpOpIn;simp only[h0];simp only[wpListIn]at h;split
 ·rename_i c;simp only[c,if_true]at h;unfold Oper.wpIn at*;refine⟨h.1,?_⟩;have h:=h.2;generalize(o.semAt Fence.wide.round a.eval).run P w=r at*;cases r with
  |ok x w'=>cases x<;>simp only[Oper.uponIn]at h⊢<;>exact h
  |halt x w'=>cases x<;>simp only[Oper.uponIn]at h⊢<;>exact h
 ·rename_i c;simp only[c]at h;exact h
variable{r:List (Bool×Oper)}{a:Act}{o:Oper}{w:World}
end
section
variable{P:Program}{ops:Array Oper}{Q:Exit→Act→World→Prop}
def Qb7(P:Program)(ops:Array Oper)(Q:Exit→Act→World→Prop)(late:Nat→Bool):Nat→Array Bool→Act→World→Prop
 |0,listed,a,w=>Region.ready .any ops listed=[]∧Q .normal a w
 |f+1,listed,a,w=>(Region.ready .any ops listed=[]→Q .normal a w)∧
  ∀i∈Region.ready .any ops listed,wpOp P ops Q i (fun c w'=>(late i=false→w'=w)∧Qb7 P ops Q late f (listed.setIfInBounds i true) c w') a w
theorem Qb9{late:Nat→Bool}:∀(f:Nat)(c:Array Bool)(a:Act)(w),Qb7 P ops Q late f c a w→wpAny P .any ops Q f c a w
 |0,_,_,_,h=>h
 |f+1,_,_,_,h=>⟨h.1,fun i hi=>wpOp_mono (fun d w' h'=>Qb9 f _ d w' h'.2) (h.2 i hi)⟩
theorem Bk{late:Nat→Bool}{D:World→Prop}{i F:Nat}{Z:Oper}{v:Value}(hi:ops[i]? =some Z)(R:∀(j:Nat)(o:Oper)cs b,ops[j]? =some o→o.op≠ .select cs b)
  (hQ:∀c a w,Q (.panic c) (a.put Z.dst v) w→Q (.panic c) a w):
  ∀(f:Nat)(d:Array Bool)(a:Act)(w),Xj ops d→
   ((∀w',D w')∨∀j I,ops[j]? =some I→late j=true→d.getD j true=false→Xs ops F j i=true)→
   (∀j I,ops[j]? =some I→j≠i→d.getD j true=false→(∀e∈I.after,Region.binds .any e=true→e.on≠i)→Z.apart ops I=true)→
   i∈Region.ready .any ops d→YieldsIf P ops D Z v a→D w→
   Qb7 P ops Q late f (d.setIfInBounds i true) (a.put Z.dst v) w→Qb7 P ops Q late (f+1) d a w:=by
 intro f;induction f with
 |zero=>
  intro d a w U _ _ hr hy V H;refine⟨fun h=>(by rw[h]at hr;cases hr),fun j hj=>?_⟩;by_cases u:j=i;·subst u;exact hy.wpOp hi V ⟨fun _=>rfl,H⟩
  ·have:=ready_mono hj u;rw[H.1]at this;cases this
 |succ f ih=>
  intro d a w U q z hr hy V H;have ac:=(mem_ready.1 hr).1;refine⟨fun h=>(by rw[h]at hr;cases hr),fun j hj=>?_⟩;by_cases u:j=i;·subst u;exact hy.wpOp hi V ⟨fun _=>rfl,H⟩
  ·have h1:=H.2 j (ready_mono hj u);obtain⟨B,I,E,K⟩:=mem_ready.1 hj;have ag:(∀w',D w')∨late j=false:=by
    rcases q with V|q;·exact .inl V
    ·refine .inr ?_;cases hl:late j with
     |false=>rfl
     |true=>
      have h1:=Yw U F j i (fun o ho e he hb=>by
       have:o=I:=Zs (ho.symm.trans E);subst this;exact K e he hb) (q j I E hl B)
      rw[getD_both ac]at h1;cases h1
   have ab:∀e∈I.after,Region.binds .any e=true→e.on≠i:=fun e he hb ae=>by have h1:=K e he hb;rw[ae,getD_both ac]at h1;cases h1
   have h2:=wpOp_putIf (S:=D) E (z j I E u B ab) (fun cs b=>R i Z cs b hi) (fun cs b=>R j I cs b E) hQ hy h1;have J:∀k,(d.setIfInBounds j true).getD k true=false→d.getD k true=false:=fun k h=>by
    by_cases aa:j=k;·subst aa;exact B
    ·rwa[getD_set_ne true aa]at h
   refine wpOp_mono (fun a' w' h3=>⟨h3.2.1,ih (d.setIfInBounds j true) a' w' (U.set hj) ?_ ?_ (ready_mono hr (Ne.symm u)) h3.1 ?_ ?_⟩) h2;·exact q.imp id fun h k ok hk hl hu=>h k ok hk hl (J k hu)
   ·exact fun k ok hk af hu ah=>z k ok hk af (J k hu) ah
   ·rcases ag with h|h;·exact h w'
    ·rw[h3.2.1 h];exact V
   ·rw[Array.setIfInBounds_comm _ _ u];exact h3.2.2
def Kl(P:Program)(ops:Array Oper)(Q:Exit→Act→World→Prop):List (Nat×Oper)→Act→World→Prop
 |[],a,w=>Q .normal a w
 |(0,o)::r,a,w=>if Region.wanted o (yielded ops a.tmps)then∃v,(execOp a.eval o).run P w=.ok (.value v) w∧Kl P ops Q r (a.put o.dst v) w else Kl P ops Q r (a.put o.dst undef) w
 |(1,o)::r,a,w=>if Region.wanted o (yielded ops a.tmps)then∃v,(∀w',(execOp a.eval o).run P w'=.ok (.value v) w')∧Kl P ops Q r (a.put o.dst v) w else Kl P ops Q r (a.put o.dst undef) w
 |(_+2,o)::r,a,w=>wpList P ops (Exit.then (fun c w'=>Kl P ops Q r c w') Q) [o] a w
def Jk(ops:Array Oper):List (Nat×Nat)→List (Nat×Oper)
 |[]=>[]
 |(b,k)::r=>match ops[k]? with
  |some o=>(b,o)::Jk ops r
  |none=>Jk ops r
theorem Kq{b k:Nat}{r:List (Nat×Nat)}{o:Oper}(h:ops[k]? =some o):Jk ops ((b,k)::r)=(b,o)::Jk ops r:=by simp[Jk,h]
def Rb:List (Nat×Nat)→List Nat
 |[]=>[]
 |(0,_)::r=>Rb r
 |(1,_)::r=>Rb r
 |(_+2,k)::r=>k::Rb r
def xB(ops:Array Oper)(late:List Nat):List (Nat×Nat)→Array Bool→Bool
 |[],listed=>(Region.ready .any ops listed).isEmpty
 |(0,k)::r,listed=>(Region.ready .any ops listed).contains k&&Region.free .any ops listed k&&((ops[k]?).map (·.dst.isSome)).getD false&&(late.all fun j=>listed.getD j true||Xs ops ops.size j k)&&xB ops late r (listed.setIfInBounds k true)
 |(1,k)::r,listed=>(Region.ready .any ops listed).contains k&&Region.free .any ops listed k&&((ops[k]?).map (·.dst.isSome)).getD false&&xB ops late r (listed.setIfInBounds k true)
 |(_+2,k)::r,listed=>decide (Region.ready .any ops listed=[k])&&late.contains k&&xB ops late r (listed.setIfInBounds k true)
theorem Qnw{late:List Nat}(z:Region.noSelect ops=true)(U:∀c(a:Act)(d:Tmp)v w,Q (.panic c) (a.put (some d) v) w→Q (.panic c) a w):
  ∀(r:List (Nat×Nat))(q:Array Bool)(a:Act)(w),Xj ops q→xB ops late r q=true→Kl P ops Q (Jk ops r) a w→Qb7 P ops Q (fun j=>late.contains j) r.length q a w
 |[],q,a,w,hcl,hB,h=>⟨by simpa[xB]using hB,h⟩
 |(0,k)::r,q,a,w,hcl,hB,h=>by
  simp only[xB,Zw]at hB;obtain⟨⟨⟨⟨hr,hf⟩,E⟩,ab⟩,B⟩:=hB;have u:k∈Region.ready .any ops q:=by simpa using hr
  obtain⟨_,o,h0,_⟩:=mem_ready.1 u;rw[h0]at E;simp only[Zn,Option.getD_some]at E;obtain⟨d,E⟩:=Option.isSome_iff_exists.1 E;rw[Kq h0]at h;simp only[Kl]at h;have J:∃v,YieldsIf P ops (fun w'=>w'=w) o v a∧Kl P ops Q (Jk ops r) (a.put o.dst v) w:=by
   by_cases I:Region.wanted o (yielded ops a.tmps)=true;·simp only[I,if_true]at h;obtain⟨v,h1,K⟩:=h;exact⟨v,.inl ⟨I,fun w' e=>by rw[e];exact h1⟩,K⟩
   ·simp only[I]at h;exact⟨undef,.inr ⟨by simpa using I,rfl⟩,h⟩
  obtain⟨v,J,Z⟩:=J;exact Bk (F:=ops.size) h0 (Region.noSelect_spec z) (fun c R w' V=>by rw[E]at V;exact U c R d _ w' V) _ q a w hcl
   (.inr fun j oj hj hl hu=>by
    have:=List.all_eq_true.1 ab j (by simpa using hl);rw[hu]at this;simpa using this) (Region.free_spec h0 hf) u J rfl
   (Qnw z U r _ _ w (hcl.set u) B Z)
 |(1,k)::r,q,a,w,hcl,hB,h=>by
  simp only[xB,Zw]at hB;obtain⟨⟨⟨hr,hf⟩,E⟩,B⟩:=hB;have u:k∈Region.ready .any ops q:=by simpa using hr
  obtain⟨_,o,h0,_⟩:=mem_ready.1 u;rw[h0]at E;simp only[Zn,Option.getD_some]at E;obtain⟨d,E⟩:=Option.isSome_iff_exists.1 E;rw[Kq h0]at h;simp only[Kl]at h;have J:∃v,YieldsIf P ops (fun _=>True) o v a∧Kl P ops Q (Jk ops r) (a.put o.dst v) w:=by
   by_cases I:Region.wanted o (yielded ops a.tmps)=true;·simp only[I,if_true]at h;obtain⟨v,h1,K⟩:=h;exact⟨v,.inl ⟨I,fun w' _=>h1 w'⟩,K⟩
   ·simp only[I]at h;exact⟨undef,.inr ⟨by simpa using I,rfl⟩,h⟩
  obtain⟨v,J,Z⟩:=J;exact Bk (F:=ops.size) h0 (Region.noSelect_spec z) (fun c R w' V=>by rw[E]at V;exact U c R d _ w' V) _ q a w hcl
   (.inl fun _=>trivial) (Region.free_spec h0 hf) u J trivial
   (Qnw z U r _ _ w (hcl.set u) B Z)
 |(n+2,k)::r,q,a,w,hcl,hB,h=>by
  simp only[xB,Zw,decide_eq_true_eq]at hB;obtain⟨⟨h1,hl⟩,B⟩:=hB;have u:k∈Region.ready .any ops q:=by rw[h1];simp
  obtain⟨_,o,h0,_⟩:=mem_ready.1 u;rw[Kq h0]at h;simp only[Kl]at h;refine⟨fun K=>(by rw[h1]at K;cases K),fun i hi=>?_⟩;rw[h1]at hi;have aa:i=k:=by simpa using hi
  subst aa;refine wpOp_mono (fun R w' h'=>⟨fun h=>?_,?_⟩) (Ko h0 h);·exact absurd (show late.contains i=false from h) (by rw[hl];decide)
  ·exact Qnw z U r _ R w' (hcl.set u) B h'
theorem Qj{id:Nat}{a:Act}{w}{l:List Oper}(k:List (Nat×Nat))(I:P.follows .mixedOrders=true)
  (z:(Region.noSelect l.toArray&&(decide (k.length=l.toArray.size)&&xB l.toArray (Rb k) k (Array.replicate l.toArray.size false)))=true)
  (E:∀c(a:Act)(d:Tmp)v w,Q (.panic c) (a.put (some d) v) w→Q (.panic c) a w) (h:Kl P l.toArray Q (Jk l.toArray k) a w.drew):
  (Code.region id l.toArray true).wp P Q a w:=by
 simp only[Zw,decide_eq_true_eq]at z;obtain⟨u,q,z⟩:=z;refine wp_region_any I ?_;have B:Xj l.toArray (Array.replicate l.toArray.size false):=fun j J _ hl=>by rw[getD_replicate_false]at hl;cases hl
 have:=Qnw (P:=P) u E k _ a _ B z h;rw[q]at this;exact Qb9 _ _ _ _ this
variable{r:List (Nat×Oper)}{a:Act}{o:Oper}{w:World}
theorem Jo(h:Q .normal a w):Kl P ops Q [] a w:=h
theorem Qs8(c:Region.wanted o (yielded ops a.tmps)=false)(h:Kl P ops Q r (a.put o.dst undef) w):Kl P ops Q ((0,o)::r) a w:=by simp only[Kl,c,Bool.false_eq_true,if_false];exact h
theorem Qmz(c:Region.wanted o (yielded ops a.tmps)=false)(h:Kl P ops Q r (a.put o.dst undef) w):Kl P ops Q ((1,o)::r) a w:=by simp only[Kl,c,Bool.false_eq_true,if_false];exact h
theorem Jq{v:Value}(d:Region.wanted o (yielded ops a.tmps)=true)(c:(execOp a.eval o).run P w=.ok (.value v) w)(h:Kl P ops Q r (a.put o.dst v) w):Kl P ops Q ((0,o)::r) a w:=by simp only[Kl,d,if_true];exact⟨v,c,h⟩
theorem Q8{v:Value}(d:Region.wanted o (yielded ops a.tmps)=true)(c:∀w',(execOp a.eval o).run P w'=.ok (.value v) w')(h:Kl P ops Q r (a.put o.dst v) w):Kl P ops Q ((1,o)::r) a w:=by simp only[Kl,d,if_true];exact⟨v,c,h⟩
theorem J7{n:Nat}(h:wpList P ops (Exit.then (fun c w'=>Kl P ops Q r c w') Q) [o] a w):Kl P ops Q ((n+2,o)::r) a w:=h
theorem Qs7{n:Nat}(c:Region.wanted o (yielded ops a.tmps)=false)(h:Kl P ops Q r (a.put o.dst undef) w):Kl P ops Q ((n+2,o)::r) a w:=by show wpList P ops _ [o] a w;simp only[wpList,c,Bool.false_eq_true,if_false];exact h
end
section
variable{n:Nat}{P:Program}{ops:Array Oper}{Q:Exit→Act→World→Prop}
def Bh(n:Nat)(P:Program)(ops:Array Oper)(Q:Exit→Act→World→Prop)(late:Nat→Bool):Nat→Array Bool→Act→World→Prop
 |0,listed,a,w=>Region.ready .any ops listed=[]∧Q .normal a w
 |f+1,listed,a,w=>(Region.ready .any ops listed=[]→Q .normal a w)∧
  ∀i∈Region.ready .any ops listed,wpOpIn Fence.wide n P ops Q i (fun c w'=>(late i=false→w'=w)∧Bh n P ops Q late f (listed.setIfInBounds i true) c w') a w
theorem Tm{late:Nat→Bool}:∀(f:Nat)(c:Array Bool)(a:Act)(w),Bh n P ops Q late f c a w→wpAnyIn Fence.wide n P .any ops Q f c a w
 |0,_,_,_,h=>h
 |f+1,_,_,_,h=>⟨h.1,fun i hi=>wpOpIn_mono (fun d w' h'=>Tm f _ d w' h'.2) (h.2 i hi)⟩
theorem To{late:Nat→Bool}{D:World→Prop}{i F:Nat}{Z:Oper}{v:Value}(hi:ops[i]? =some Z)(R:∀(j:Nat)(o:Oper)cs b,ops[j]? =some o→o.op≠ .select cs b)
  (hQ:∀c a w,Q (.panic c) (a.put Z.dst v) w→Q (.panic c) a w):
  ∀(f:Nat)(d:Array Bool)(a:Act)(w),Xj ops d→
   ((∀w',D w')∨∀j I,ops[j]? =some I→late j=true→d.getD j true=false→Xs ops F j i=true)→
   (∀j I,ops[j]? =some I→j≠i→d.getD j true=false→(∀e∈I.after,Region.binds .any e=true→e.on≠i)→Z.apart ops I=true)→
   i∈Region.ready .any ops d→YieldsIf P ops D Z v a→D w→
   Bh n P ops Q late f (d.setIfInBounds i true) (a.put Z.dst v) w→Bh n P ops Q late (f+1) d a w:=by
 intro f;induction f with
 |zero=>
  intro d a w U _ _ hr hy V H;refine⟨fun h=>(by rw[h]at hr;cases hr),fun j hj=>?_⟩;by_cases u:j=i;·subst u;exact Sd hi hy V ⟨fun _=>rfl,H⟩
  ·have:=ready_mono hj u;rw[H.1]at this;cases this
 |succ f ih=>
  intro d a w U q z hr hy V H;have ac:=(mem_ready.1 hr).1;refine⟨fun h=>(by rw[h]at hr;cases hr),fun j hj=>?_⟩;by_cases u:j=i;·subst u;exact Sd hi hy V ⟨fun _=>rfl,H⟩
  ·have h1:=H.2 j (ready_mono hj u);obtain⟨B,I,E,K⟩:=mem_ready.1 hj;have ag:(∀w',D w')∨late j=false:=by
    rcases q with V|q;·exact .inl V
    ·refine .inr ?_;cases hl:late j with
     |false=>rfl
     |true=>
      have h1:=Yw U F j i (fun o ho e he hb=>by
       have:o=I:=Zs (ho.symm.trans E);subst this;exact K e he hb) (q j I E hl B)
      rw[getD_both ac]at h1;cases h1
   have ab:∀e∈I.after,Region.binds .any e=true→e.on≠i:=fun e he hb ae=>by have h1:=K e he hb;rw[ae,getD_both ac]at h1;cases h1
   have h2:=Qjo (C:=D) E (z j I E u B ab) (fun cs b=>R i Z cs b hi) (fun cs b=>R j I cs b E) hQ hy h1;have J:∀k,(d.setIfInBounds j true).getD k true=false→d.getD k true=false:=fun k h=>by
    by_cases aa:j=k;·subst aa;exact B
    ·rwa[getD_set_ne true aa]at h
   refine wpOpIn_mono (fun a' w' h3=>⟨h3.2.1,ih (d.setIfInBounds j true) a' w' (U.set hj) ?_ ?_ (ready_mono hr (Ne.symm u)) h3.1 ?_ ?_⟩) h2;·exact q.imp id fun h k ok hk hl hu=>h k ok hk hl (J k hu)
   ·exact fun k ok hk af hu ah=>z k ok hk af (J k hu) ah
   ·rcases ag with h|h;·exact h w'
    ·rw[h3.2.1 h];exact V
   ·rw[Array.setIfInBounds_comm _ _ u];exact h3.2.2
def Uo(n:Nat)(P:Program)(ops:Array Oper)(Q:Exit→Act→World→Prop):List (Nat×Oper)→Act→World→Prop
 |[],a,w=>Q .normal a w
 |(0,o)::r,a,w=>if Region.wanted o (yielded ops a.tmps)then∃v,(execOp a.eval o).run P w=.ok (.value v) w∧Uo n P ops Q r (a.put o.dst v) w else Uo n P ops Q r (a.put o.dst undef) w
 |(1,o)::r,a,w=>if Region.wanted o (yielded ops a.tmps)then∃v,(∀w',(execOp a.eval o).run P w'=.ok (.value v) w')∧Uo n P ops Q r (a.put o.dst v) w else Uo n P ops Q r (a.put o.dst undef) w
 |(_+2,o)::r,a,w=>wpListIn Fence.wide n P ops (Exit.then (fun c w'=>Uo n P ops Q r c w') Q) [o] a w
theorem Qf1{late:List Nat}(z:Region.noSelect ops=true)(U:∀c(a:Act)(d:Tmp)v w,Q (.panic c) (a.put (some d) v) w→Q (.panic c) a w):
  ∀(r:List (Nat×Nat))(q:Array Bool)(a:Act)(w),Xj ops q→xB ops late r q=true→Uo n P ops Q (Jk ops r) a w→Bh n P ops Q (fun j=>late.contains j) r.length q a w
 |[],q,a,w,hcl,hB,h=>⟨by simpa[xB]using hB,h⟩
 |(0,k)::r,q,a,w,hcl,hB,h=>by
  simp only[xB,Zw]at hB;obtain⟨⟨⟨⟨hr,hf⟩,E⟩,ab⟩,B⟩:=hB;have u:k∈Region.ready .any ops q:=by simpa using hr
  obtain⟨_,o,h0,_⟩:=mem_ready.1 u;rw[h0]at E;simp only[Zn,Option.getD_some]at E;obtain⟨d,E⟩:=Option.isSome_iff_exists.1 E;rw[Kq h0]at h;simp only[Uo]at h;have J:∃v,YieldsIf P ops (fun w'=>w'=w) o v a∧Uo n P ops Q (Jk ops r) (a.put o.dst v) w:=by
   by_cases I:Region.wanted o (yielded ops a.tmps)=true;·simp only[I,if_true]at h;obtain⟨v,h1,K⟩:=h;exact⟨v,.inl ⟨I,fun w' e=>by rw[e];exact h1⟩,K⟩
   ·simp only[I]at h;exact⟨undef,.inr ⟨by simpa using I,rfl⟩,h⟩
  obtain⟨v,J,Z⟩:=J;exact To (F:=ops.size) h0 (Region.noSelect_spec z) (fun c R w' V=>by rw[E]at V;exact U c R d _ w' V) _ q a w hcl
   (.inr fun j oj hj hl hu=>by
    have:=List.all_eq_true.1 ab j (by simpa using hl);rw[hu]at this;simpa using this) (Region.free_spec h0 hf) u J rfl
   (Qf1 z U r _ _ w (hcl.set u) B Z)
 |(1,k)::r,q,a,w,hcl,hB,h=>by
  simp only[xB,Zw]at hB;obtain⟨⟨⟨hr,hf⟩,E⟩,B⟩:=hB;have u:k∈Region.ready .any ops q:=by simpa using hr
  obtain⟨_,o,h0,_⟩:=mem_ready.1 u;rw[h0]at E;simp only[Zn,Option.getD_some]at E;obtain⟨d,E⟩:=Option.isSome_iff_exists.1 E;rw[Kq h0]at h;simp only[Uo]at h;have J:∃v,YieldsIf P ops (fun _=>True) o v a∧Uo n P ops Q (Jk ops r) (a.put o.dst v) w:=by
   by_cases I:Region.wanted o (yielded ops a.tmps)=true;·simp only[I,if_true]at h;obtain⟨v,h1,K⟩:=h;exact⟨v,.inl ⟨I,fun w' _=>h1 w'⟩,K⟩
   ·simp only[I]at h;exact⟨undef,.inr ⟨by simpa using I,rfl⟩,h⟩
  obtain⟨v,J,Z⟩:=J;exact To (F:=ops.size) h0 (Region.noSelect_spec z) (fun c R w' V=>by rw[E]at V;exact U c R d _ w' V) _ q a w hcl
   (.inl fun _=>trivial) (Region.free_spec h0 hf) u J trivial
   (Qf1 z U r _ _ w (hcl.set u) B Z)
 |(m+2,k)::r,q,a,w,hcl,hB,h=>by
  simp only[xB,Zw,decide_eq_true_eq]at hB;obtain⟨⟨h1,hl⟩,B⟩:=hB;have u:k∈Region.ready .any ops q:=by rw[h1];simp
  obtain⟨_,o,h0,_⟩:=mem_ready.1 u;rw[Kq h0]at h;simp only[Uo]at h;refine⟨fun K=>(by rw[h1]at K;cases K),fun i hi=>?_⟩;rw[h1]at hi;have aa:i=k:=by simpa using hi
  subst aa;refine wpOpIn_mono (fun R w' h'=>⟨fun h=>?_,?_⟩) (Qca h0 h);·exact absurd (show late.contains i=false from h) (by rw[hl];decide)
  ·exact Qf1 z U r _ R w' (hcl.set u) B h'
theorem Lx{id:Nat}{a:Act}{w}{l:List Oper}(k:List (Nat×Nat))(I:P.follows .mixedOrders=true)
  (z:(Region.noSelect l.toArray&&(decide (k.length=l.toArray.size)&&xB l.toArray (Rb k) k (Array.replicate l.toArray.size false)))=true)
  (E:∀c(a:Act)(d:Tmp)v w,Q (.panic c) (a.put (some d) v) w→Q (.panic c) a w) (h:Uo n P l.toArray Q (Jk l.toArray k) a w.drew):
  (Code.region id l.toArray true).wpIn Fence.wide n P Q a w:=by
 simp only[Zw,decide_eq_true_eq]at z;obtain⟨u,q,z⟩:=z;refine wpIn_region_any I ?_;have B:Xj l.toArray (Array.replicate l.toArray.size false):=fun j J _ hl=>by rw[getD_replicate_false]at hl;cases hl
 have:=Qf1 (n:=n) (P:=P) (Q:=Q) u E k _ a _ B z h;rw[q]at this;exact Tm _ _ _ _ this
variable{r:List (Nat×Oper)}{a:Act}{o:Oper}{w:World}
theorem Qf2(h:Q .normal a w):Uo n P ops Q [] a w:=h
theorem Qf4(c:Region.wanted o (yielded ops a.tmps)=false)(h:Uo n P ops Q r (a.put o.dst undef) w):Uo n P ops Q ((0,o)::r) a w:=by simp only[Uo,c,Bool.false_eq_true,if_false];exact h
theorem Ae(c:Region.wanted o (yielded ops a.tmps)=false)(h:Uo n P ops Q r (a.put o.dst undef) w):Uo n P ops Q ((1,o)::r) a w:=by simp only[Uo,c,Bool.false_eq_true,if_false];exact h
theorem Et{v:Value}(d:Region.wanted o (yielded ops a.tmps)=true)(c:(execOp a.eval o).run P w=.ok (.value v) w)(h:Uo n P ops Q r (a.put o.dst v) w):Uo n P ops Q ((0,o)::r) a w:=by simp only[Uo,d,if_true];exact⟨v,c,h⟩
theorem Dl{v:Value}(d:Region.wanted o (yielded ops a.tmps)=true)(c:∀w',(execOp a.eval o).run P w'=.ok (.value v) w')(h:Uo n P ops Q r (a.put o.dst v) w):Uo n P ops Q ((1,o)::r) a w:=by simp only[Uo,d,if_true];exact⟨v,c,h⟩
theorem Bl{m:Nat}(h:wpListIn Fence.wide n P ops (Exit.then (fun c w'=>Uo n P ops Q r c w') Q) [o] a w):Uo n P ops Q ((m+2,o)::r) a w:=h
theorem Qf3{m:Nat}(c:Region.wanted o (yielded ops a.tmps)=false)(h:Uo n P ops Q r (a.put o.dst undef) w):Uo n P ops Q ((m+2,o)::r) a w:=by show wpListIn Fence.wide n P ops _ [o] a w;simp only[wpListIn,c,Bool.false_eq_true,if_false];exact⟨fun f _=>trivial,h⟩
end
section
variable{P:Program}{ops:Array Oper}{Q:Exit→Act→World→Prop}{D:World→Prop}
def Fi(P:Program)(ops:Array Oper)(Q:Exit→Act→World→Prop)(D:World→Prop)(late c:Nat→Bool):Nat→Array Bool→Act→World→Prop
 |0,listed,a,w=>Region.ready .any ops listed=[]∧Q .normal a w
 |f+1,listed,a,w=>(Region.ready .any ops listed=[]→Q .normal a w)∧
  ∀i∈Region.ready .any ops listed,wpOp P ops Q i (fun d w'=>((late i=false→w'=w)∧(late i=true→c i=false→D w'))∧Fi P ops Q D late c f (listed.setIfInBounds i true) d w') a w
theorem Mu{late d:Nat→Bool}:∀(f:Nat)(c:Array Bool)(a:Act)(w),Fi P ops Q D late d f c a w→wpAny P .any ops Q f c a w
 |0,_,_,_,h=>h
 |f+1,_,_,_,h=>⟨h.1,fun i hi=>wpOp_mono (fun k w' h'=>Mu f _ k w' h'.2) (h.2 i hi)⟩
theorem Gm{late U:Nat→Bool}{E:World→Prop}{i F:Nat}{oi:Oper}{v:Value}(hi:ops[i]? =some oi)(ac:late i=false)(Z:∀(j:Nat)(o:Oper)cs b,ops[j]? =some o→o.op≠ .select cs b)
  (hQ:∀c a w,Q (.panic c) (a.put oi.dst v) w→Q (.panic c) a w):
  ∀(f:Nat)(d:Array Bool)(a:Act)(w),Xj ops d→
   (((∀w',D w'→E w')∧∀j z,ops[j]? =some z→U j=true→d.getD j true=false→Xs ops F j i=true)∨∀j z,ops[j]? =some z→late j=true→d.getD j true=false→Xs ops F j i=true)→
   (∀j z,ops[j]? =some z→j≠i→d.getD j true=false→(∀e∈z.after,Region.binds .any e=true→e.on≠i)→oi.apart ops z=true)→
   i∈Region.ready .any ops d→YieldsIf P ops E oi v a→E w→
   Fi P ops Q D late U f (d.setIfInBounds i true) (a.put oi.dst v) w→Fi P ops Q D late U (f+1) d a w:=by
 intro f;induction f with
 |zero=>
  intro d a w aa _ _ hr hy hE H;refine⟨fun h=>(by rw[h]at hr;cases hr),fun j hj=>?_⟩;by_cases q:j=i;·subst q;exact hy.wpOp hi hE ⟨⟨fun _=>rfl,fun h1 _=>(by rw[ac]at h1;cases h1)⟩,H⟩
  ·have:=ready_mono hj q;rw[H.1]at this;cases this
 |succ f ih=>
  intro d a w aa K J hr hy hE H;have af:=(mem_ready.1 hr).1;refine⟨fun h=>(by rw[h]at hr;cases hr),fun j hj=>?_⟩;by_cases q:j=i;·subst q;exact hy.wpOp hi hE ⟨⟨fun _=>rfl,fun h1 _=>(by rw[ac]at h1;cases h1)⟩,H⟩
  ·have h1:=H.2 j (ready_mono hj q);obtain⟨u,z,B,V⟩:=mem_ready.1 hj;have R:Xs ops F j i=true→False:=fun hw=>by
    have h1:=Yw aa F j i (fun o ho e he hb=>by
     have:o=z:=Zs (ho.symm.trans B);subst this;exact V e he hb) hw
    rw[getD_both af]at h1;cases h1
   have ae:∀e∈z.after,Region.binds .any e=true→e.on≠i:=fun e he hb ag=>by have h1:=V e he hb;rw[ag,getD_both af]at h1;cases h1
   have h2:=wpOp_putIf (S:=E) B (J j z B q u ae) (fun cs b=>Z i oi cs b hi) (fun cs b=>Z j z cs b B) hQ hy h1;have I:∀k,(d.setIfInBounds j true).getD k true=false→d.getD k true=false:=fun k h=>by
    by_cases ab:j=k;·subst ab;exact u
    ·rwa[getD_set_ne true ab]at h
   refine wpOp_mono (fun a' w' h3=>⟨h3.2.1,ih (d.setIfInBounds j true) a' w' (aa.set hj) ?_ ?_ (ready_mono hr (Ne.symm q)) h3.1 ?_ ?_⟩) h2;·exact K.imp (fun h=>⟨h.1,fun k ok hk hl hu=>h.2 k ok hk hl (I k hu)⟩) fun h k ok hk hl hu=>h k ok hk hl (I k hu)
   ·exact fun k ok hk ah hu R=>J k ok hk ah (I k hu) R
   ·cases hl:late j with
    |false=>rw[h3.2.1.1 hl];exact hE
    |true=>
     rcases K with h|h
     ·cases hn:U j with
      |false=>exact h.1 w' (h3.2.1.2 hl hn)
      |true=>exact(R (h.2 j z B hn u)).elim
     ·exact(R (h j z B hl u)).elim
   ·rw[Array.setIfInBounds_comm _ _ q];exact h3.2.2
def J9(P:Program)(ops:Array Oper)(Q:Exit→Act→World→Prop)(D:World→Prop):List (Nat×Oper)→Act→World→Prop
 |[],a,w=>Q .normal a w
 |(0,o)::r,a,w=>if Region.wanted o (yielded ops a.tmps)then∃v,(execOp a.eval o).run P w=.ok (.value v) w∧J9 P ops Q D r (a.put o.dst v) w else J9 P ops Q D r (a.put o.dst undef) w
 |(1,o)::r,a,w=>if Region.wanted o (yielded ops a.tmps)then∃v,(∀w',D w'→(execOp a.eval o).run P w'=.ok (.value v) w')∧J9 P ops Q D r (a.put o.dst v) w else J9 P ops Q D r (a.put o.dst undef) w
 |(2,o)::r,a,w=>wpList P ops (Exit.then (fun c w'=>D w'∧J9 P ops Q D r c w') Q) [o] a w
 |(_+3,o)::r,a,w=>wpList P ops (Exit.then (fun c w'=>J9 P ops Q D r c w') Q) [o] a w
def Qh8:List (Nat×Nat)→List Nat
 |[]=>[]
 |(0,_)::r=>Qh8 r
 |(1,_)::r=>Qh8 r
 |(2,_)::r=>Qh8 r
 |(_+3,k)::r=>k::Qh8 r
def Qdn(ops:Array Oper)(late:List Nat)(k:Nat)(c:Array Bool):Bool:=(Region.ready .any ops c).contains k&&Region.free .any ops c k&&((ops[k]?).map (·.dst.isSome)).getD false&&!late.contains k
def xdB(ops:Array Oper)(late c:List Nat):List (Nat×Nat)→Array Bool→Bool
 |[],listed=>(Region.ready .any ops listed).isEmpty
 |(0,k)::r,listed=>Qdn ops late k listed&&(late.all fun j=>listed.getD j true||Xs ops ops.size j k)&&xdB ops late c r (listed.setIfInBounds k true)
 |(1,k)::r,listed=>Qdn ops late k listed&&(c.all fun j=>listed.getD j true||Xs ops ops.size j k)&&xdB ops late c r (listed.setIfInBounds k true)
 |(2,k)::r,listed=>decide (Region.ready .any ops listed=[k])&&late.contains k&&xdB ops late c r (listed.setIfInBounds k true)
 |(_+3,k)::r,listed=>decide (Region.ready .any ops listed=[k])&&late.contains k&&c.contains k&&(r.all fun x=>x.1 != 1)&&xdB ops late c r (listed.setIfInBounds k true)
theorem E7{late:List Nat}{k:Nat}{c:Array Bool}(h:Qdn ops late k c=true):k∈Region.ready .any ops c∧Region.free .any ops c k=true∧late.contains k=false∧∃o d,ops[k]? =some o∧o.dst=some d:=by
 simp only[Qdn,Zw,Bool.not_eq_true']at h;obtain⟨⟨⟨hr,hf⟩,q⟩,hl⟩:=h;have u:k∈Region.ready .any ops c:=by simpa using hr
 obtain⟨_,o,h0,_⟩:=mem_ready.1 u;rw[h0]at q;simp only[Zn,Option.getD_some]at q;obtain⟨d,q⟩:=Option.isSome_iff_exists.1 q;exact⟨u,hf,hl,o,d,h0,q⟩
theorem Qcd{late aa:List Nat}(z:Region.noSelect ops=true)(hQ:∀c(a:Act)(d:Tmp)v w,Q (.panic c) (a.put (some d) v) w→Q (.panic c) a w):
  ∀(r:List (Nat×Nat))(q:Array Bool)(a:Act)(w),Xj ops q→(D w∨(r.all fun x=>x.1 != 1)=true)→xdB ops late aa r q=true→J9 P ops Q D (Jk ops r) a w→
   Fi P ops Q D (fun j=>late.contains j) (fun j=>aa.contains j) r.length q a w
 |[],q,a,w,hcl,I,hB,h=>⟨by simpa[xdB]using hB,h⟩
 |(0,k)::r,q,a,w,hcl,I,hB,h=>by
  simp only[xdB,Zw]at hB;obtain⟨⟨U,Z⟩,B⟩:=hB;obtain⟨u,hf,hl,o,d,h0,hd⟩:=E7 U;rw[Kq h0]at h;simp only[J9]at h;have hy:∃v,YieldsIf P ops (fun w'=>w'=w) o v a∧J9 P ops Q D (Jk ops r) (a.put o.dst v) w:=by
   by_cases J:Region.wanted o (yielded ops a.tmps)=true;·simp only[J,if_true]at h;obtain⟨v,h1,E⟩:=h;exact⟨v,.inl ⟨J,fun w' e=>by rw[e];exact h1⟩,E⟩
   ·simp only[J]at h;exact⟨undef,.inr ⟨by simpa using J,rfl⟩,h⟩
  obtain⟨v,hy,hK⟩:=hy;exact Gm (F:=ops.size) h0 hl (Region.noSelect_spec z) (fun c K w' hq=>by rw[hd]at hq;exact hQ c K d _ w' hq) _ q a w hcl
   (.inr fun j oj hj hl hu=>by
    have:=List.all_eq_true.1 Z j (by simpa using hl);rw[hu]at this;simpa using this) (Region.free_spec h0 hf) u hy rfl
   (Qcd z hQ r _ _ w (hcl.set u) (I.imp id fun h=>by simpa using h) B hK)
 |(1,k)::r,q,a,w,hcl,I,hB,h=>by
  simp only[xdB,Zw]at hB;obtain⟨⟨U,Z⟩,B⟩:=hB;have I:D w:=I.elim id fun h=>by simp at h
  obtain⟨u,hf,hl,o,d,h0,hd⟩:=E7 U;rw[Kq h0]at h;simp only[J9]at h;have hy:∃v,YieldsIf P ops D o v a∧J9 P ops Q D (Jk ops r) (a.put o.dst v) w:=by
   by_cases J:Region.wanted o (yielded ops a.tmps)=true;·simp only[J,if_true]at h;obtain⟨v,h1,E⟩:=h;exact⟨v,.inl ⟨J,h1⟩,E⟩
   ·simp only[J]at h;exact⟨undef,.inr ⟨by simpa using J,rfl⟩,h⟩
  obtain⟨v,hy,hK⟩:=hy;exact Gm (F:=ops.size) h0 hl (Region.noSelect_spec z) (fun c K w' hq=>by rw[hd]at hq;exact hQ c K d _ w' hq) _ q a w hcl
   (.inl ⟨fun _ h=>h,fun j oj hj hl hu=>by
    have:=List.all_eq_true.1 Z j (by simpa using hl);rw[hu]at this;simpa using this⟩) (Region.free_spec h0 hf) u hy I
   (Qcd z hQ r _ _ w (hcl.set u) (.inl I) B hK)
 |(2,k)::r,q,a,w,hcl,I,hB,h=>by
  simp only[xdB,Zw,decide_eq_true_eq]at hB;obtain⟨⟨h1,hl⟩,B⟩:=hB;have u:k∈Region.ready .any ops q:=by rw[h1];simp
  obtain⟨_,o,h0,_⟩:=mem_ready.1 u;rw[Kq h0]at h;simp only[J9]at h;refine⟨fun E=>(by rw[h1]at E;cases E),fun i hi=>?_⟩;rw[h1]at hi;have R:i=k:=by simpa using hi
  subst R;refine wpOp_mono (fun K w' h'=>⟨⟨fun h=>absurd (show late.contains i=false from h) (by rw[hl];decide),fun _ _=>h'.1⟩,?_⟩) (Ko h0 h);exact Qcd z hQ r _ K w' (hcl.set u) (.inl h'.1) B h'.2
 |(n+3,k)::r,q,a,w,hcl,I,hB,h=>by
  simp only[xdB,Zw,decide_eq_true_eq]at hB;obtain⟨⟨⟨⟨h1,hl⟩,hn⟩,V⟩,B⟩:=hB;have u:k∈Region.ready .any ops q:=by rw[h1];simp
  obtain⟨_,o,h0,_⟩:=mem_ready.1 u;rw[Kq h0]at h;simp only[J9]at h;refine⟨fun E=>(by rw[h1]at E;cases E),fun i hi=>?_⟩;rw[h1]at hi;have R:i=k:=by simpa using hi
  subst R;refine wpOp_mono (fun K w' h'=>⟨⟨fun h=>absurd (show late.contains i=false from h) (by rw[hl];decide),fun _ h=>absurd (show aa.contains i=false from h) (by rw[hn];decide)⟩,?_⟩) (Ko h0 h);exact Qcd z hQ r _ K w' (hcl.set u) (.inr V) B h'
theorem Jp{id:Nat}{a:Act}{w}{l:List Oper}(k:List (Nat×Nat))(D:World→Prop)(J:P.follows .mixedOrders=true)
  (z:(Region.noSelect l.toArray&&(decide (k.length=l.toArray.size)&&xdB l.toArray (Rb k) (Qh8 k) k (Array.replicate l.toArray.size false)))=true)
  (I:∀c(a:Act)(d:Tmp)v w,Q (.panic c) (a.put (some d) v) w→Q (.panic c) a w) (E:D w.drew) (h:J9 P l.toArray Q D (Jk l.toArray k) a w.drew):
  (Code.region id l.toArray true).wp P Q a w:=by
 simp only[Zw,decide_eq_true_eq]at z;obtain⟨u,q,z⟩:=z;refine wp_region_any J ?_;have B:Xj l.toArray (Array.replicate l.toArray.size false):=fun j K _ hl=>by rw[getD_replicate_false]at hl;cases hl
 have:=Qcd (P:=P) (D:=D) u I k _ a _ B (.inl E) z h;rw[q]at this;exact Mu _ _ _ _ this
variable{r:List (Nat×Oper)}{a:Act}{o:Oper}{w:World}
theorem Ky(h:Q .normal a w):J9 P ops Q D [] a w:=h
theorem Xe{v:Value}(d:Region.wanted o (yielded ops a.tmps)=true)(c:(execOp a.eval o).run P w=.ok (.value v) w)(h:J9 P ops Q D r (a.put o.dst v) w):J9 P ops Q D ((0,o)::r) a w:=by simp only[J9,d,if_true];exact⟨v,c,h⟩
theorem Qy{v:Value}(d:Region.wanted o (yielded ops a.tmps)=true)(c:∀w',D w'→(execOp a.eval o).run P w'=.ok (.value v) w')(h:J9 P ops Q D r (a.put o.dst v) w):J9 P ops Q D ((1,o)::r) a w:=by simp only[J9,d,if_true];exact⟨v,c,h⟩
theorem Yb(h:wpList P ops (Exit.then (fun c w'=>D w'∧J9 P ops Q D r c w') Q) [o] a w):J9 P ops Q D ((2,o)::r) a w:=h
theorem Km(h:wpList P ops (Exit.then (fun c w'=>J9 P ops Q D r c w') Q) [o] a w):J9 P ops Q D ((3,o)::r) a w:=h
end
section
variable{n rl:Nat}{P:Program}{ops:Array Oper}{Q:Exit→Act→World→Prop}{C:World→Prop}
abbrev rF(rl:Nat):Fence:=Fence.wide.inRound rl
def Gh(o:Oper):Bool:=match o.op with| .defer _=>false|_=>true
theorem Qfg{o:Oper}(h:Gh o=true):∀c,o.op≠ .defer c:=fun c e=>by unfold Gh at h;rw[e]at h;cases h
theorem Qbq{o:Oper}(h:Gh o=true)(ρ:Operand→Value):o.semAt (rF rl).round ρ=execOp ρ o:=Oper.semAt_eq _ ρ o (Qfg h)
theorem Se{i:Nat}{o:Oper}{v:Value}{a:Act}(hi:ops[i]? =some o)(c:Gh o=true)(u:YieldsIf P ops C o v a)
  {K:Act→World→Prop}{w}(k:C w)(h:K (a.put o.dst v) w):wpOpIn (rF rl) n P ops Q i K a w:=by
 unfold Go.wpOpIn;simp only[hi];rcases u with⟨d,q⟩|⟨d,rfl⟩;·simp only[d,if_true,Oper.wpIn];refine⟨fun f _=>trivial,?_⟩;rw[Qbq c,q w k];exact h
 ·simp only[d,Bool.false_eq_true,if_false];exact⟨fun f _=>trivial,h⟩
theorem Qjp{j:Nat}{k q:Oper}{v:Value}(hj:ops[j]? =some q)(J:Gh q=true)(V:k.apart ops q=true)
  (Z:∀cs b,k.op≠ .select cs b)(aa:∀cs b,q.op≠ .select cs b)
  (U:∀c a w,Q (.panic c) (a.put k.dst v) w→Q (.panic c) a w){K:Act→World→Prop}{a:Act}{w}
  (B:YieldsIf P ops C k v a) (h:wpOpIn (rF rl) n P ops Q j K (a.put k.dst v) w):
  wpOpIn (rF rl) n P ops Q j (fun a' w'=>YieldsIf P ops C k v a'∧K (a'.put k.dst v) w') a w:=by
 obtain⟨h1,E,h3⟩:=Oper.apart_spec V;have aB:∀(a:Act),YieldsIf P ops C k v a→∀u,YieldsIf P ops C k v (a.put q.dst u):=fun a B u=>
  B.of_same (execOp_put k Z a q.dst u h3) (wanted_put k a q.dst u h3)
 have I:∀d,YieldsIf P ops C k v {a with defers:=d::a.defers}:=fun d=>B.of_same rfl rfl;unfold wpOpIn at*;simp only[hj]at*;rw[wanted_put q a k.dst v h1]at h;split
 ·rename_i hw;simp only[hw,if_true]at h;unfold Oper.wpIn at*;refine⟨fun f _=>trivial,?_⟩;have h:=h.2;rw[Qbq J,execOp_put q aa a k.dst v h1]at h;rw[Qbq J];generalize(execOp a.eval q).run P w=r at*;cases r with
  |ok x w'=>
   cases x<;>simp only[Oper.uponIn]at h⊢;case value u=>exact⟨aB a B u,by rw[←Act.put_comm a v u E];exact h⟩
   case skip=>exact⟨aB a B _,by rw[←Act.put_comm a v undef E];exact h⟩
   case defer d=> refine⟨aB _ (I d) _,?_⟩;rw[←Act.put_comm _ v undef E,←Act.put_defers];exact h
   case enter f args=>
    refine⟨h.1,CallsIn.mono h.2 fun e R z=>?_⟩;cases e with
    |returned u=>exact⟨aB a B u,by rw[←Act.put_comm a v u E];exact z⟩
    |panicked c=>exact U _ _ _ z
    |outgrown=>exact z
   case row row args=>exact⟨h.1,RowsIn.mono h.2 fun u R z=>⟨aB a B u,by rw[←Act.put_comm a v u E];exact z⟩⟩
   case round l f tmps assign body=>
    refine⟨h.1,RoundIn.mono h.2 fun e R z=>?_⟩;cases e with
    |returned u=>exact⟨aB a B u,by rw[←Act.put_comm a v u E];exact z⟩
    |panicked c=>exact U _ _ _ z
    |outgrown=>exact z
  |halt x w'=> cases x<;>simp only[Oper.uponIn]at h⊢;case panic u=>exact U _ _ _ h
 ·rename_i hw;simp only[hw]at h;exact⟨fun f _=>trivial,aB a B _,by rw[←Act.put_comm a v undef E];exact h.2⟩
theorem Qco{i:Nat}{o:Oper}{K:Act→World→Prop}{a:Act}{w}(h0:ops[i]? =some o)(h:wpListIn (rF rl) n P ops (Exit.then K Q) [o] a w):wpOpIn (rF rl) n P ops Q i K a w:=by
 unfold wpOpIn;simp only[h0];simp only[wpListIn]at h;split
 ·rename_i c;simp only[c,if_true]at h;unfold Oper.wpIn at*;refine⟨h.1,?_⟩;have h:=h.2;generalize(o.semAt (rF rl).round a.eval).run P w=r at*;cases r with
  |ok x w'=>cases x<;>simp only[Oper.uponIn]at h⊢<;>exact h
  |halt x w'=>cases x<;>simp only[Oper.uponIn]at h⊢<;>exact h
 ·rename_i c;simp only[c]at h;exact h
def Bj(rl n:Nat)(P:Program)(ops:Array Oper)(Q:Exit→Act→World→Prop)(late:Nat→Bool):Nat→Array Bool→Act→World→Prop
 |0,listed,a,w=>Region.ready .any ops listed=[]∧Q .normal a w
 |f+1,listed,a,w=>(Region.ready .any ops listed=[]→Q .normal a w)∧
  ∀i∈Region.ready .any ops listed,wpOpIn (rF rl) n P ops Q i (fun c w'=>(late i=false→w'=w)∧Bj rl n P ops Q late f (listed.setIfInBounds i true) c w') a w
theorem Tn{late:Nat→Bool}:∀(f:Nat)(c:Array Bool)(a:Act)(w),Bj rl n P ops Q late f c a w→wpAnyIn (rF rl) n P .any ops Q f c a w
 |0,_,_,_,h=>h
 |f+1,_,_,_,h=>⟨h.1,fun i hi=>wpOpIn_mono (fun d w' h'=>Tn f _ d w' h'.2) (h.2 i hi)⟩
theorem Tp(B:∀(j:Nat)(o:Oper),ops[j]? =some o→Gh o=true){late:Nat→Bool}{D:World→Prop}{i F:Nat}{oi:Oper}{v:Value}(hi:ops[i]? =some oi)(U:∀(j:Nat)(o:Oper)cs b,ops[j]? =some o→o.op≠ .select cs b)
  (hQ:∀c a w,Q (.panic c) (a.put oi.dst v) w→Q (.panic c) a w):
  ∀(f:Nat)(d:Array Bool)(a:Act)(w),Xj ops d→
   ((∀w',D w')∨∀j J,ops[j]? =some J→late j=true→d.getD j true=false→Xs ops F j i=true)→
   (∀j J,ops[j]? =some J→j≠i→d.getD j true=false→(∀e∈J.after,Region.binds .any e=true→e.on≠i)→oi.apart ops J=true)→
   i∈Region.ready .any ops d→YieldsIf P ops D oi v a→D w→
   Bj rl n P ops Q late f (d.setIfInBounds i true) (a.put oi.dst v) w→Bj rl n P ops Q late (f+1) d a w:=by
 intro f;induction f with
 |zero=>
  intro d a w V _ _ hr hy Z H;refine⟨fun h=>(by rw[h]at hr;cases hr),fun j hj=>?_⟩;by_cases u:j=i;·subst u;exact Se hi (B _ _ hi) hy Z ⟨fun _=>rfl,H⟩
  ·have:=ready_mono hj u;rw[H.1]at this;cases this
 |succ f ih=>
  intro d a w V q E hr hy Z H;have ac:=(mem_ready.1 hr).1;refine⟨fun h=>(by rw[h]at hr;cases hr),fun j hj=>?_⟩;by_cases u:j=i;·subst u;exact Se hi (B _ _ hi) hy Z ⟨fun _=>rfl,H⟩
  ·have h1:=H.2 j (ready_mono hj u);obtain⟨I,J,z,R⟩:=mem_ready.1 hj;have ag:(∀w',D w')∨late j=false:=by
    rcases q with Z|q;·exact .inl Z
    ·refine .inr ?_;cases hl:late j with
     |false=>rfl
     |true=>
      have h1:=Yw V F j i (fun o ho e he hb=>by
       have:o=J:=Zs (ho.symm.trans z);subst this;exact R e he hb) (q j J z hl I)
      rw[getD_both ac]at h1;cases h1
   have ab:∀e∈J.after,Region.binds .any e=true→e.on≠i:=fun e he hb ae=>by have h1:=R e he hb;rw[ae,getD_both ac]at h1;cases h1
   have h2:=Qjp (C:=D) z (B _ _ z) (E j J z u I ab) (fun cs b=>U i oi cs b hi) (fun cs b=>U j J cs b z) hQ hy h1;have K:∀k,(d.setIfInBounds j true).getD k true=false→d.getD k true=false:=fun k h=>by
    by_cases aa:j=k;·subst aa;exact I
    ·rwa[getD_set_ne true aa]at h
   refine wpOpIn_mono (fun a' w' h3=>⟨h3.2.1,ih (d.setIfInBounds j true) a' w' (V.set hj) ?_ ?_ (ready_mono hr (Ne.symm u)) h3.1 ?_ ?_⟩) h2;·exact q.imp id fun h k ok hk hl hu=>h k ok hk hl (K k hu)
   ·exact fun k ok hk af hu ah=>E k ok hk af (K k hu) ah
   ·rcases ag with h|h;·exact h w'
    ·rw[h3.2.1 h];exact Z
   ·rw[Array.setIfInBounds_comm _ _ u];exact h3.2.2
def Lh(rl n:Nat)(P:Program)(ops:Array Oper)(Q:Exit→Act→World→Prop):List (Nat×Oper)→Act→World→Prop
 |[],a,w=>Q .normal a w
 |(0,o)::r,a,w=>if Region.wanted o (yielded ops a.tmps)then∃v,(execOp a.eval o).run P w=.ok (.value v) w∧Lh rl n P ops Q r (a.put o.dst v) w else Lh rl n P ops Q r (a.put o.dst undef) w
 |(1,o)::r,a,w=>if Region.wanted o (yielded ops a.tmps)then∃v,(∀w',(execOp a.eval o).run P w'=.ok (.value v) w')∧Lh rl n P ops Q r (a.put o.dst v) w else Lh rl n P ops Q r (a.put o.dst undef) w
 |(_+2,o)::r,a,w=>wpListIn (rF rl) n P ops (Exit.then (fun c w'=>Lh rl n P ops Q r c w') Q) [o] a w
theorem Qf5(z:∀(j:Nat)(o:Oper),ops[j]? =some o→Gh o=true){late:List Nat}(B:Region.noSelect ops=true)(V:∀c(a:Act)(d:Tmp)v w,Q (.panic c) (a.put (some d) v) w→Q (.panic c) a w):
  ∀(r:List (Nat×Nat))(q:Array Bool)(a:Act)(w),Xj ops q→xB ops late r q=true→Lh rl n P ops Q (Jk ops r) a w→Bj rl n P ops Q (fun j=>late.contains j) r.length q a w
 |[],q,a,w,hcl,hB,h=>⟨by simpa[xB]using hB,h⟩
 |(0,k)::r,q,a,w,hcl,hB,h=>by
  simp only[xB,Zw]at hB;obtain⟨⟨⟨⟨hr,hf⟩,I⟩,ab⟩,E⟩:=hB;have u:k∈Region.ready .any ops q:=by simpa using hr
  obtain⟨_,o,h0,_⟩:=mem_ready.1 u;rw[h0]at I;simp only[Zn,Option.getD_some]at I;obtain⟨d,I⟩:=Option.isSome_iff_exists.1 I;rw[Kq h0]at h;simp only[Lh]at h;have K:∃v,YieldsIf P ops (fun w'=>w'=w) o v a∧Lh rl n P ops Q (Jk ops r) (a.put o.dst v) w:=by
   by_cases J:Region.wanted o (yielded ops a.tmps)=true;·simp only[J,if_true]at h;obtain⟨v,h1,R⟩:=h;exact⟨v,.inl ⟨J,fun w' e=>by rw[e];exact h1⟩,R⟩
   ·simp only[J]at h;exact⟨undef,.inr ⟨by simpa using J,rfl⟩,h⟩
  obtain⟨v,K,hK⟩:=K;exact Tp z (F:=ops.size) h0 (Region.noSelect_spec B) (fun c U w' Z=>by rw[I]at Z;exact V c U d _ w' Z) _ q a w hcl
   (.inr fun j oj hj hl hu=>by
    have:=List.all_eq_true.1 ab j (by simpa using hl);rw[hu]at this;simpa using this) (Region.free_spec h0 hf) u K rfl
   (Qf5 z B V r _ _ w (hcl.set u) E hK)
 |(1,k)::r,q,a,w,hcl,hB,h=>by
  simp only[xB,Zw]at hB;obtain⟨⟨⟨hr,hf⟩,I⟩,E⟩:=hB;have u:k∈Region.ready .any ops q:=by simpa using hr
  obtain⟨_,o,h0,_⟩:=mem_ready.1 u;rw[h0]at I;simp only[Zn,Option.getD_some]at I;obtain⟨d,I⟩:=Option.isSome_iff_exists.1 I;rw[Kq h0]at h;simp only[Lh]at h;have K:∃v,YieldsIf P ops (fun _=>True) o v a∧Lh rl n P ops Q (Jk ops r) (a.put o.dst v) w:=by
   by_cases J:Region.wanted o (yielded ops a.tmps)=true;·simp only[J,if_true]at h;obtain⟨v,h1,R⟩:=h;exact⟨v,.inl ⟨J,fun w' _=>h1 w'⟩,R⟩
   ·simp only[J]at h;exact⟨undef,.inr ⟨by simpa using J,rfl⟩,h⟩
  obtain⟨v,K,hK⟩:=K;exact Tp z (F:=ops.size) h0 (Region.noSelect_spec B) (fun c U w' Z=>by rw[I]at Z;exact V c U d _ w' Z) _ q a w hcl
   (.inl fun _=>trivial) (Region.free_spec h0 hf) u K trivial
   (Qf5 z B V r _ _ w (hcl.set u) E hK)
 |(m+2,k)::r,q,a,w,hcl,hB,h=>by
  simp only[xB,Zw,decide_eq_true_eq]at hB;obtain⟨⟨h1,hl⟩,E⟩:=hB;have u:k∈Region.ready .any ops q:=by rw[h1];simp
  obtain⟨_,o,h0,_⟩:=mem_ready.1 u;rw[Kq h0]at h;simp only[Lh]at h;refine⟨fun R=>(by rw[h1]at R;cases R),fun i hi=>?_⟩;rw[h1]at hi;have aa:i=k:=by simpa using hi
  subst aa;refine wpOpIn_mono (fun U w' h'=>⟨fun h=>?_,?_⟩) (Qco h0 h);·exact absurd (show late.contains i=false from h) (by rw[hl];decide)
  ·exact Qf5 z B V r _ U w' (hcl.set u) E h'
theorem Qf0{id:Nat}{a:Act}{w}{l:List Oper}(k:List (Nat×Nat))(K:P.follows .mixedOrders=true)
  (B:(l.all Gh&&(Region.noSelect l.toArray&&(decide (k.length=l.toArray.size)&&xB l.toArray (Rb k) k (Array.replicate l.toArray.size false))))=true)
  (J:∀c(a:Act)(d:Tmp)v w,Q (.panic c) (a.put (some d) v) w→Q (.panic c) a w) (h:Lh rl n P l.toArray Q (Jk l.toArray k) a w.drew):
  (Code.region id l.toArray true).wpIn (rF rl) n P Q a w:=by
 simp only[Zw,decide_eq_true_eq]at B;obtain⟨I,z,u,B⟩:=B;refine wpIn_region_any K ?_;have q:∀(j:Nat)(o:Oper),l.toArray[j]? =some o→Gh o=true:=fun j o h=>List.all_eq_true.1 I o (List.mem_of_getElem? (by simpa using h));have E:Xj l.toArray (Array.replicate l.toArray.size false):=fun j R _ hl=>by rw[getD_replicate_false]at hl;cases hl
 have:=Qf5 (rl:=rl) (n:=n) (P:=P) (Q:=Q) q z J k _ a _ E B h;rw[u]at this;exact Tn _ _ _ _ this
variable{r:List (Nat×Oper)}{a:Act}{o:Oper}{w:World}
theorem Qu9(h:Q .normal a w):Lh rl n P ops Q [] a w:=h
theorem Qvq{v:Value}(d:Region.wanted o (yielded ops a.tmps)=true)(c:(execOp a.eval o).run P w=.ok (.value v) w)(h:Lh rl n P ops Q r (a.put o.dst v) w):Lh rl n P ops Q ((0,o)::r) a w:=by simp only[Lh,d,if_true];exact⟨v,c,h⟩
theorem Qva{v:Value}(d:Region.wanted o (yielded ops a.tmps)=true)(c:∀w',(execOp a.eval o).run P w'=.ok (.value v) w')(h:Lh rl n P ops Q r (a.put o.dst v) w):Lh rl n P ops Q ((1,o)::r) a w:=by simp only[Lh,d,if_true];exact⟨v,c,h⟩
theorem Qvp{m:Nat}(h:wpListIn (rF rl) n P ops (Exit.then (fun c w'=>Lh rl n P ops Q r c w') Q) [o] a w):Lh rl n P ops Q ((m+2,o)::r) a w:=h
end
section
def Qnh(Q:Exit→Act→World→Prop):Exit→Act→World→Prop
 | .panic _,_,_=>False
 |e,a,w=>Q e a w
variable{n:Nat}{P:Program}{ops:Array Oper}{Q:Exit→Act→World→Prop}
theorem Sc{id:Nat}{a:Act}{w:World}{l:List Oper}(c:List (Nat×Nat))(k:P.follows .mixedOrders=true)
  (d:(Region.noSelect l.toArray&&(decide (c.length=l.toArray.size)&&xB l.toArray (Rb c) c (Array.replicate l.toArray.size false)))=true)
  (h:Uo n P l.toArray (Qnh Q) (Jk l.toArray c) a w.drew):(Code.region id l.toArray true).wpIn Fence.wide n P Q a w:=
 Code.wpIn_mono (fun e a w h=>by cases e<;>first|exact h.elim|exact h) (Lx c k d (fun _ _ _ _ _ h=>h) h)
theorem Qnv{a:Act}{w}(h:Q .normal a w):Uo n P ops (Qnh Q) [] a w:=h
end
end Go.Proofs.YtnnhmpehkbihnaaGreat
