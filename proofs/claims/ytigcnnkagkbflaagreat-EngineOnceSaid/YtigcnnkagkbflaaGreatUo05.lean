/- A part of the proof: no condition. -/
import Derived.RangeFuncNested
import Derived.RangeFuncBound
import Derived.RangeFuncCalls
import Derived.RangeFuncLeaves
import Derived.Shelf.Abstract
import Derived.Shelf.RegionOpen
import Derived.OwnWalkIn
import Derived.TacticsInMore
import Derived.LoopNIn
import Derived.LoopIn
import Derived.Test.YtigcnnkagkbflaaGreatUo04
import Derived.Laws.MakeOwn
namespace Go.Proofs.YtigcnnkagkbflaaGreat
set_option linter.unusedVariables false
set_option maxRecDepth 100000
set_option maxHeartbeats 4000000
open Go.RowKit
open Go.Proofs.Tryz
section
open Go.Shelf
def Le(T:Fp)(W c:World):Prop:=∀b o,T b->W.heap[b]? =some o->(o.isCells=true\/o.isWalk=true)->c.heap[b]? =some o
theorem Le.trans{T:Fp}{A B C}(h:Le T A B)(k:Le T B C):Le T A C:=λb o d q c=>k b o d (h b o d q c) c
theorem Le.put{T:Fp}{w:World}(W:World)(l:Nat)(o u:Obj)(_:w.heap.size<=l)(h:W.heap[l]? =some o)(z:o.isCells=false)(B:o.isWalk=false):Le T W (W.putObj l u):=by
 intro b q _ c k;have d:b≠l:=by rintro rfl;rw[h]at c;obtain rfl:=Zs c;rw[z,B]at k;simp at k
 exact(World.grownBy.block (grownBy_putObj' W l u) b (Z2.1 c).1 (λe=>d (Zs e))).trans c
theorem Le.chg{T S:Fp}{W W'}(h:Qc S W W')(q:∀k,T k->S k->False):Le T W W':=λb o d c _=>h.heap c (λu=>q b d u)
theorem Le.blk{T:Fp}{W W'}{b:Nat}{cs:Array Value}{t:TypeId}(h:Le T W W')(d:Qh W b cs t)(c:T b):Qh W' b cs t:=h b _ c d (.inl rfl)
theorem Yx{β:Type}(B b:Nat)(f:β->Array Value)(t:TypeId):OwnFrom B (λs W=>Qh W b (f s) t):=λs W E z c q u=>by refine(q.block b c.lt (λe=>?_)).trans c;obtain⟨_,o,d,k⟩:=u b e.symm;rw[show W.heap[b]? =some (.cells (f s) t (0,0))from c]at d;obtain rfl:=Zs d;cases k
theorem Dr{β:Type}{B:Nat}{S:Fp}{w:World}(E:w.heap.size<=B):OwnFrom B (λ(_:β)W=>Qc S w W):=λs W z u q c d=>q.grown c λk e=>.inr (by have:=(d k e).1;omega)
theorem Vg{B:Nat}{S:Fp}{W W'}(h:Qc S W W')(d:∀k,S k->k<B):KeepsFrom B W W':=⟨h.size,λk o u c _=>h.heap c (λq=>by have:=d k q;omega)⟩
theorem Ud{S:Fp}{w W}{D:Nat}(h:Qc S w W)(c:w.heap.size<=D)(d:D<W.heap.size):Qc S w (W.putObj D (.deferred none)):=h.grown (grownBy_putObj' W D _) λk e=>.inr (by cases e;exact c)
theorem Uc{W}{b D:Nat}{cs:Array Value}{t:TypeId}(h:Qh W b cs t)(c:W.heap[D]? =some (.deferred (some []))):Qh (W.putObj D (.deferred none)) b cs t:=by refine(World.grownBy.block (grownBy_putObj' W D _) b h.lt (λe=>?_)).trans h;cases e;rw[show W.heap[b]? =some (.cells cs t (0,0))from h]at c;cases c
end
section
variable{n:Nat}{P:Program}{ops:Array Oper}{Q:Exit->Act->World->Prop}{C:World->Prop}
theorem Nx{n m:Nat}{l:Nat}{f:FuncId}{q:Array Value}{d k:Code}{w}{R:Ending->World->Prop}(h:RoundIn Fence.wide n P l f q d k w R):RoundIn Fence.wide m P l f q d k w R:=
 ⟨h.1,λc cs _=>h.2 c cs (room_wide _)⟩
theorem Qf6{n m:Nat}{l:Nat}{d:Array Value}{W}{R:Ending->World->Prop}(h:YieldAt Fence.wide n P l d W R):YieldAt Fence.wide m P l d W R:=by obtain⟨u,q,c,k,z,B⟩:=h;exact⟨u,q,c,k,z,Nx B⟩
theorem Sd{i:Nat}{o:Oper}{v:Value}{a:Act}(k:ops[i]? =some o)(u:YieldsIf P ops C o v a)
  {K:Act->World->Prop}{w}(d:C w)(h:K (a.put o.dst v) w):wpOpIn Fence.wide n P ops Q i K a w:=by
 unfold Go.wpOpIn;simp only[k];rcases u with⟨c,q⟩|⟨c,rfl⟩;·simp only[c,if_true,Oper.wpIn];refine⟨λf _=>trivial,?_⟩;rw[show Fence.wide.round=none from rfl,Oper.semAt_none,q w d];exact h
 .simp only[c,Bool.false_eq_true,if_false];exact⟨λf _=>trivial,h⟩
theorem Qjo{j:Nat}{k B:Oper}{v:Value}(hj:ops[j]? =some B)(U:k.apart ops B=true)
  (V:∀cs b,k.op≠ .select cs b)(Z:∀cs b,B.op≠ .select cs b)
  (R:∀c a w,Q (.panic c) (a.put k.dst v) w->Q (.panic c) a w){K:Act->World->Prop}{a:Act}{w}
  (z:YieldsIf P ops C k v a) (h:wpOpIn Fence.wide n P ops Q j K (a.put k.dst v) w):
  wpOpIn Fence.wide n P ops Q j (λa' w'=>YieldsIf P ops C k v a'/\K (a'.put k.dst v) w') a w:=by
 obtain⟨h1,E,h3⟩:=Oper.apart_spec U;have aB:∀(a:Act),YieldsIf P ops C k v a->∀u,YieldsIf P ops C k v (a.put B.dst u):=λa z u=>
  z.of_same (execOp_put k V a B.dst u h3) (wanted_put k a B.dst u h3)
 have I:∀d,YieldsIf P ops C k v {a with defers:=d::a.defers}:=λd=>z.of_same rfl rfl;unfold wpOpIn at*;simp only[hj]at*;rw[wanted_put B a k.dst v h1]at h;split
 .rename_i hw;simp only[hw,if_true]at h;unfold Oper.wpIn at*;refine⟨λf _=>trivial,?_⟩;have h:=h.2;rw[show Fence.wide.round=none from rfl,Oper.semAt_none,execOp_put B Z a k.dst v h1]at h;rw[show Fence.wide.round=none from rfl,Oper.semAt_none];generalize(execOp a.eval B).run P w=r at*;cases r with
  |ok x w'=>
   cases x<;>simp only[Oper.uponIn]at h|-;case value u=>exact⟨aB a z u,by rw[<-Act.put_comm a v u E];exact h⟩
   case skip=>exact⟨aB a z _,by rw[<-Act.put_comm a v undef E];exact h⟩
   case defer d=> refine⟨aB _ (I d) _,?_⟩;rw[<-Act.put_comm _ v undef E,<-Act.put_defers];exact h
   case enter f args=>
    refine⟨h.1,CallsIn.mono h.2 λe J q=>?_⟩;cases e with
    |returned u=>exact⟨aB a z u,by rw[<-Act.put_comm a v u E];exact q⟩
    |panicked c=>exact R _ _ _ q
    |outgrown=>exact q
   case row row args=>exact⟨h.1,RowsIn.mono h.2 λu J q=>⟨aB a z u,by rw[<-Act.put_comm a v u E];exact q⟩⟩
   case round l f tmps assign body=>
    refine⟨h.1,RoundIn.mono h.2 λe J q=>?_⟩;cases e with
    |returned u=>exact⟨aB a z u,by rw[<-Act.put_comm a v u E];exact q⟩
    |panicked c=>exact R _ _ _ q
    |outgrown=>exact q
  |halt x w'=> cases x<;>simp only[Oper.uponIn]at h|-;case panic u=>exact R _ _ _ h
 .rename_i hw;simp only[hw]at h;exact⟨λf _=>trivial,aB a z _,by rw[<-Act.put_comm a v undef E];exact h.2⟩
theorem Qca{i:Nat}{o:Oper}{K:Act->World->Prop}{a:Act}{w}(d:ops[i]? =some o)(h:wpListIn Fence.wide n P ops (Exit.then K Q) [o] a w):wpOpIn Fence.wide n P ops Q i K a w:=by
 unfold wpOpIn;simp only[d];simp only[wpListIn]at h;split
 .rename_i c;simp only[c,if_true]at h;unfold Oper.wpIn at*;refine⟨h.1,?_⟩;have h:=h.2;generalize(o.semAt Fence.wide.round a.eval).run P w=r at*;cases r with
  |ok x w'=>cases x<;>simp only[Oper.uponIn]at h|-<;>exact h
  |halt x w'=>cases x<;>simp only[Oper.uponIn]at h|-<;>exact h
 .rename_i c;simp only[c]at h;exact h
variable{r:List (Bool×Oper)}{a:Act}{o:Oper}{w:World}
end
section
variable{P:Program}{ops:Array Oper}{Q:Exit->Act->World->Prop}
def Qb7(P:Program)(ops:Array Oper)(Q:Exit->Act->World->Prop)(c:Nat->Bool):Nat->Array Bool->Act->World->Prop
 |0,listed,a,w=>Region.ready .any ops listed=[]/\Q .normal a w
 |f+1,listed,a,w=>(Region.ready .any ops listed=[]->Q .normal a w)/\
  ∀i∈Region.ready .any ops listed,wpOp P ops Q i (λd w'=>(c i=false->w'=w)/\Qb7 P ops Q c f (listed.setIfInBounds i true) d w') a w
theorem Qb9{d:Nat->Bool}:∀(f:Nat)(c:Array Bool)(a:Act)(w),Qb7 P ops Q d f c a w->wpAny P .any ops Q f c a w
 |0,_,_,_,h=>h
 |f+1,_,_,_,h=>⟨h.1,λi q=>wpOp_mono (λk w' h'=>Qb9 f _ k w' h'.2) (h.2 i q)⟩
theorem Bk{z:Nat->Bool}{D:World->Prop}{i F:Nat}{oi:Oper}{v:Value}(hi:ops[i]? =some oi)(U:∀(j:Nat)(o:Oper)cs b,ops[j]? =some o->o.op≠ .select cs b)
  (hQ:∀c a w,Q (.panic c) (a.put oi.dst v) w->Q (.panic c) a w):
  ∀(f:Nat)(d:Array Bool)(a:Act)(w),Xj ops d->
   ((∀w',D w')\/∀j J,ops[j]? =some J->z j=true->d.getD j true=false->Xs ops F j i=true)->
   (∀j J,ops[j]? =some J->j≠i->d.getD j true=false->(∀e∈J.after,Region.binds .any e=true->e.on≠i)->oi.apart ops J=true)->
   i∈Region.ready .any ops d->YieldsIf P ops D oi v a->D w->
   Qb7 P ops Q z f (d.setIfInBounds i true) (a.put oi.dst v) w->Qb7 P ops Q z (f+1) d a w:=by
 intro f;induction f with
 |zero=>
  intro d a w Z _ _ hr hy hD H;refine⟨λh=>(by rw[h]at hr;cases hr),λj hj=>?_⟩;by_cases u:j=i;·subst u;exact hy.wpOp hi hD ⟨λ_=>rfl,H⟩
  .have:=ready_mono hj u;rw[H.1]at this;cases this
 |succ f ih=>
  intro d a w Z q B hr hy hD H;have ac:=(mem_ready.1 hr).1;refine⟨λh=>(by rw[h]at hr;cases hr),λj hj=>?_⟩;by_cases u:j=i;·subst u;exact hy.wpOp hi hD ⟨λ_=>rfl,H⟩
  .have V:=H.2 j (ready_mono hj u);obtain⟨E,J,I,R⟩:=mem_ready.1 hj;have ag:(∀w',D w')\/z j=false:=by
    rcases q with hD|q;·exact .inl hD
    .refine .inr ?_;cases hl:z j with
     |false=>rfl
     |true=>
      have V:=Yw Z F j i (λo ho e he hb=>by
       have:o=J:=Zs (ho.symm.trans I);subst this;exact R e he hb) (q j J I hl E)
      rw[getD_both ac]at V;cases V
   have ab:∀e∈J.after,Region.binds .any e=true->e.on≠i:=λe he hb ae=>by have V:=R e he hb;rw[ae,getD_both ac]at V;cases V
   have h2:=wpOp_putIf (S:=D) I (B j J I u E ab) (λcs b=>U i oi cs b hi) (λcs b=>U j J cs b I) hQ hy V;have K:∀k,(d.setIfInBounds j true).getD k true=false->d.getD k true=false:=λk h=>by
    by_cases aa:j=k;·subst aa;exact E
    .rwa[getD_set_ne true aa]at h
   refine wpOp_mono (λa' w' h3=>⟨h3.2.1,ih (d.setIfInBounds j true) a' w' (Z.set hj) ?_ ?_ (ready_mono hr (Ne.symm u)) h3.1 ?_ ?_⟩) h2;·exact q.imp id λh k ok hk hl hu=>h k ok hk hl (K k hu)
   .exact λk ok hk af hu ah=>B k ok hk af (K k hu) ah
   .rcases ag with h|h;·exact h w'
    .rw[h3.2.1 h];exact hD
   .rw[Array.setIfInBounds_comm _ _ u];exact h3.2.2
def Kl(P:Program)(ops:Array Oper)(Q:Exit->Act->World->Prop):List (Nat×Oper)->Act->World->Prop
 |[],a,w=>Q .normal a w
 |(0,o)::r,a,w=>if Region.wanted o (yielded ops a.tmps)then∃v,(execOp a.eval o).run P w=.ok (.value v) w/\Kl P ops Q r (a.put o.dst v) w else Kl P ops Q r (a.put o.dst undef) w
 |(1,o)::r,a,w=>if Region.wanted o (yielded ops a.tmps)then∃v,(∀w',(execOp a.eval o).run P w'=.ok (.value v) w')/\Kl P ops Q r (a.put o.dst v) w else Kl P ops Q r (a.put o.dst undef) w
 |(_+2,o)::r,a,w=>wpList P ops (Exit.then (λc w'=>Kl P ops Q r c w') Q) [o] a w
def Jk(ops:Array Oper):List (Nat×Nat)->List (Nat×Oper)
 |[]=>[]
 |(b,k)::r=>match ops[k]? with
  |some o=>(b,o)::Jk ops r
  |none=>Jk ops r
theorem Kq{b k:Nat}{r:List (Nat×Nat)}{o:Oper}(h:ops[k]? =some o):Jk ops ((b,k)::r)=(b,o)::Jk ops r:=by simp[Jk,h]
def Rb:List (Nat×Nat)->List Nat
 |[]=>[]
 |(0,_)::r=>Rb r
 |(1,_)::r=>Rb r
 |(_+2,k)::r=>k::Rb r
def xB(ops:Array Oper)(c:List Nat):List (Nat×Nat)->Array Bool->Bool
 |[],listed=>(Region.ready .any ops listed).isEmpty
 |(0,k)::r,listed=>(Region.ready .any ops listed).contains k&&Region.free .any ops listed k&&((ops[k]?).map (·.dst.isSome)).getD false&&(c.all λj=>listed.getD j true||Xs ops ops.size j k)&&xB ops c r (listed.setIfInBounds k true)
 |(1,k)::r,listed=>(Region.ready .any ops listed).contains k&&Region.free .any ops listed k&&((ops[k]?).map (·.dst.isSome)).getD false&&xB ops c r (listed.setIfInBounds k true)
 |(_+2,k)::r,listed=>decide (Region.ready .any ops listed=[k])&&c.contains k&&xB ops c r (listed.setIfInBounds k true)
theorem Qnw{J:List Nat}(z:Region.noSelect ops=true)(hQ:∀c(a:Act)(d:Tmp)v w,Q (.panic c) (a.put (some d) v) w->Q (.panic c) a w):
  ∀(r:List (Nat×Nat))(q:Array Bool)(a:Act)(w),Xj ops q->xB ops J r q=true->Kl P ops Q (Jk ops r) a w->Qb7 P ops Q (λj=>J.contains j) r.length q a w
 |[],q,a,w,hcl,hB,h=>⟨by simpa[xB]using hB,h⟩
 |(0,k)::r,q,a,w,hcl,hB,h=>by
  simp only[xB,Zw]at hB;obtain⟨⟨⟨⟨hr,hf⟩,I⟩,ab⟩,E⟩:=hB;have u:k∈Region.ready .any ops q:=by simpa using hr
  obtain⟨_,o,B,_⟩:=mem_ready.1 u;rw[B]at I;simp only[Zn,Option.getD_some]at I;obtain⟨d,I⟩:=Option.isSome_iff_exists.1 I;rw[Kq B]at h;simp only[Kl]at h;have U:∃v,YieldsIf P ops (λw'=>w'=w) o v a/\Kl P ops Q (Jk ops r) (a.put o.dst v) w:=by
   by_cases K:Region.wanted o (yielded ops a.tmps)=true;·simp only[K,if_true]at h;obtain⟨v,R,V⟩:=h;exact⟨v,.inl ⟨K,λw' e=>by rw[e];exact R⟩,V⟩
   .simp only[K]at h;exact⟨undef,.inr ⟨by simpa using K,rfl⟩,h⟩
  obtain⟨v,U,hK⟩:=U;exact Bk (F:=ops.size) B (Region.noSelect_spec z) (λc Z w' hq=>by rw[I]at hq;exact hQ c Z d _ w' hq) _ q a w hcl
   (.inr λj oj hj hl hu=>by
    have:=List.all_eq_true.1 ab j (by simpa using hl);rw[hu]at this;simpa using this) (Region.free_spec B hf) u U rfl
   (Qnw z hQ r _ _ w (hcl.set u) E hK)
 |(1,k)::r,q,a,w,hcl,hB,h=>by
  simp only[xB,Zw]at hB;obtain⟨⟨⟨hr,hf⟩,I⟩,E⟩:=hB;have u:k∈Region.ready .any ops q:=by simpa using hr
  obtain⟨_,o,B,_⟩:=mem_ready.1 u;rw[B]at I;simp only[Zn,Option.getD_some]at I;obtain⟨d,I⟩:=Option.isSome_iff_exists.1 I;rw[Kq B]at h;simp only[Kl]at h;have U:∃v,YieldsIf P ops (λ_=>True) o v a/\Kl P ops Q (Jk ops r) (a.put o.dst v) w:=by
   by_cases K:Region.wanted o (yielded ops a.tmps)=true;·simp only[K,if_true]at h;obtain⟨v,R,V⟩:=h;exact⟨v,.inl ⟨K,λw' _=>R w'⟩,V⟩
   .simp only[K]at h;exact⟨undef,.inr ⟨by simpa using K,rfl⟩,h⟩
  obtain⟨v,U,hK⟩:=U;exact Bk (F:=ops.size) B (Region.noSelect_spec z) (λc Z w' hq=>by rw[I]at hq;exact hQ c Z d _ w' hq) _ q a w hcl
   (.inl λ_=>trivial) (Region.free_spec B hf) u U trivial
   (Qnw z hQ r _ _ w (hcl.set u) E hK)
 |(n+2,k)::r,q,a,w,hcl,hB,h=>by
  simp only[xB,Zw,decide_eq_true_eq]at hB;obtain⟨⟨R,hl⟩,E⟩:=hB;have u:k∈Region.ready .any ops q:=by rw[R];simp
  obtain⟨_,o,B,_⟩:=mem_ready.1 u;rw[Kq B]at h;simp only[Kl]at h;refine⟨λV=>(by rw[R]at V;cases V),λi hi=>?_⟩;rw[R]at hi;have aa:i=k:=by simpa using hi
  subst aa;refine wpOp_mono (λZ w' h'=>⟨λh=>?_,?_⟩) (Ko B h);·exact absurd (show J.contains i=false from h) (by rw[hl];decide)
  .exact Qnw z hQ r _ Z w' (hcl.set u) E h'
theorem Qj{id:Nat}{a:Act}{w}{l:List Oper}(k:List (Nat×Nat))(J:P.follows .mixedOrders=true)
  (z:(Region.noSelect l.toArray&&(decide (k.length=l.toArray.size)&&xB l.toArray (Rb k) k (Array.replicate l.toArray.size false)))=true)
  (I:∀c(a:Act)(d:Tmp)v w,Q (.panic c) (a.put (some d) v) w->Q (.panic c) a w) (h:Kl P l.toArray Q (Jk l.toArray k) a w.drew):
  (Code.region id l.toArray true).wp P Q a w:=by
 simp only[Zw,decide_eq_true_eq]at z;obtain⟨u,q,z⟩:=z;refine wp_region_any J ?_;have B:Xj l.toArray (Array.replicate l.toArray.size false):=λj K _ E=>by rw[getD_replicate_false]at E;cases E
 have:=Qnw (P:=P) u I k _ a _ B z h;rw[q]at this;exact Qb9 _ _ _ _ this
variable{r:List (Nat×Oper)}{a:Act}{o:Oper}{w:World}
theorem Jo(h:Q .normal a w):Kl P ops Q [] a w:=h
theorem Qs8(c:Region.wanted o (yielded ops a.tmps)=false:=by as_aux_lemma=>kernel_rfl)(h:Kl P ops Q r (a.put o.dst undef) w):Kl P ops Q ((0,o)::r) a w:=by simp only[Kl,c,Bool.false_eq_true,if_false];exact h
theorem Qmz(c:Region.wanted o (yielded ops a.tmps)=false:=by as_aux_lemma=>kernel_rfl)(h:Kl P ops Q r (a.put o.dst undef) w):Kl P ops Q ((1,o)::r) a w:=by simp only[Kl,c,Bool.false_eq_true,if_false];exact h
theorem Jq{v:Value}(d:Region.wanted o (yielded ops a.tmps)=true:=by as_aux_lemma=>kernel_rfl)(c:(execOp a.eval o).run P w=.ok (.value v) w:=by go_simp;try rfl)(h:Kl P ops Q r (a.put o.dst v) w):Kl P ops Q ((0,o)::r) a w:=by simp only[Kl,d,if_true];exact⟨v,c,h⟩
theorem Q8{v:Value}(d:Region.wanted o (yielded ops a.tmps)=true:=by as_aux_lemma=>kernel_rfl)(c:∀w',(execOp a.eval o).run P w'=.ok (.value v) w':=by intros;go_simp;try rfl)(h:Kl P ops Q r (a.put o.dst v) w):Kl P ops Q ((1,o)::r) a w:=by simp only[Kl,d,if_true];exact⟨v,c,h⟩
theorem J7{n:Nat}(h:wpList P ops (Exit.then (λc w'=>Kl P ops Q r c w') Q) [o] a w):Kl P ops Q ((n+2,o)::r) a w:=h
theorem Qs7{n:Nat}(c:Region.wanted o (yielded ops a.tmps)=false)(h:Kl P ops Q r (a.put o.dst undef) w):Kl P ops Q ((n+2,o)::r) a w:=by show wpList P ops _ [o] a w;simp only[wpList,c,Bool.false_eq_true,if_false];exact h
end
section
variable{n:Nat}{P:Program}{ops:Array Oper}{Q:Exit->Act->World->Prop}
def Bh(n:Nat)(P:Program)(ops:Array Oper)(Q:Exit->Act->World->Prop)(c:Nat->Bool):Nat->Array Bool->Act->World->Prop
 |0,listed,a,w=>Region.ready .any ops listed=[]/\Q .normal a w
 |f+1,listed,a,w=>(Region.ready .any ops listed=[]->Q .normal a w)/\
  ∀i∈Region.ready .any ops listed,wpOpIn Fence.wide n P ops Q i (λd w'=>(c i=false->w'=w)/\Bh n P ops Q c f (listed.setIfInBounds i true) d w') a w
theorem Tm{d:Nat->Bool}:∀(f:Nat)(c:Array Bool)(a:Act)(w),Bh n P ops Q d f c a w->wpAnyIn Fence.wide n P .any ops Q f c a w
 |0,_,_,_,h=>h
 |f+1,_,_,_,h=>⟨h.1,λi q=>wpOpIn_mono (λk w' h'=>Tm f _ k w' h'.2) (h.2 i q)⟩
theorem To{z:Nat->Bool}{D:World->Prop}{i F:Nat}{oi:Oper}{v:Value}(hi:ops[i]? =some oi)(U:∀(j:Nat)(o:Oper)cs b,ops[j]? =some o->o.op≠ .select cs b)
  (hQ:∀c a w,Q (.panic c) (a.put oi.dst v) w->Q (.panic c) a w):
  ∀(f:Nat)(d:Array Bool)(a:Act)(w),Xj ops d->
   ((∀w',D w')\/∀j J,ops[j]? =some J->z j=true->d.getD j true=false->Xs ops F j i=true)->
   (∀j J,ops[j]? =some J->j≠i->d.getD j true=false->(∀e∈J.after,Region.binds .any e=true->e.on≠i)->oi.apart ops J=true)->
   i∈Region.ready .any ops d->YieldsIf P ops D oi v a->D w->
   Bh n P ops Q z f (d.setIfInBounds i true) (a.put oi.dst v) w->Bh n P ops Q z (f+1) d a w:=by
 intro f;induction f with
 |zero=>
  intro d a w Z _ _ hr hy hD H;refine⟨λh=>(by rw[h]at hr;cases hr),λj hj=>?_⟩;by_cases u:j=i;·subst u;exact Sd hi hy hD ⟨λ_=>rfl,H⟩
  .have:=ready_mono hj u;rw[H.1]at this;cases this
 |succ f ih=>
  intro d a w Z q B hr hy hD H;have ac:=(mem_ready.1 hr).1;refine⟨λh=>(by rw[h]at hr;cases hr),λj hj=>?_⟩;by_cases u:j=i;·subst u;exact Sd hi hy hD ⟨λ_=>rfl,H⟩
  .have V:=H.2 j (ready_mono hj u);obtain⟨E,J,I,R⟩:=mem_ready.1 hj;have ag:(∀w',D w')\/z j=false:=by
    rcases q with hD|q;·exact .inl hD
    .refine .inr ?_;cases hl:z j with
     |false=>rfl
     |true=>
      have V:=Yw Z F j i (λo ho e he hb=>by
       have:o=J:=Zs (ho.symm.trans I);subst this;exact R e he hb) (q j J I hl E)
      rw[getD_both ac]at V;cases V
   have ab:∀e∈J.after,Region.binds .any e=true->e.on≠i:=λe he hb ae=>by have V:=R e he hb;rw[ae,getD_both ac]at V;cases V
   have h2:=Qjo (C:=D) I (B j J I u E ab) (λcs b=>U i oi cs b hi) (λcs b=>U j J cs b I) hQ hy V;have K:∀k,(d.setIfInBounds j true).getD k true=false->d.getD k true=false:=λk h=>by
    by_cases aa:j=k;·subst aa;exact E
    .rwa[getD_set_ne true aa]at h
   refine wpOpIn_mono (λa' w' h3=>⟨h3.2.1,ih (d.setIfInBounds j true) a' w' (Z.set hj) ?_ ?_ (ready_mono hr (Ne.symm u)) h3.1 ?_ ?_⟩) h2;·exact q.imp id λh k ok hk hl hu=>h k ok hk hl (K k hu)
   .exact λk ok hk af hu ah=>B k ok hk af (K k hu) ah
   .rcases ag with h|h;·exact h w'
    .rw[h3.2.1 h];exact hD
   .rw[Array.setIfInBounds_comm _ _ u];exact h3.2.2
def Uo(n:Nat)(P:Program)(ops:Array Oper)(Q:Exit->Act->World->Prop):List (Nat×Oper)->Act->World->Prop
 |[],a,w=>Q .normal a w
 |(0,o)::r,a,w=>if Region.wanted o (yielded ops a.tmps)then∃v,(execOp a.eval o).run P w=.ok (.value v) w/\Uo n P ops Q r (a.put o.dst v) w else Uo n P ops Q r (a.put o.dst undef) w
 |(1,o)::r,a,w=>if Region.wanted o (yielded ops a.tmps)then∃v,(∀w',(execOp a.eval o).run P w'=.ok (.value v) w')/\Uo n P ops Q r (a.put o.dst v) w else Uo n P ops Q r (a.put o.dst undef) w
 |(_+2,o)::r,a,w=>wpListIn Fence.wide n P ops (Exit.then (λc w'=>Uo n P ops Q r c w') Q) [o] a w
theorem Qf1{J:List Nat}(z:Region.noSelect ops=true)(hQ:∀c(a:Act)(d:Tmp)v w,Q (.panic c) (a.put (some d) v) w->Q (.panic c) a w):
  ∀(r:List (Nat×Nat))(q:Array Bool)(a:Act)(w),Xj ops q->xB ops J r q=true->Uo n P ops Q (Jk ops r) a w->Bh n P ops Q (λj=>J.contains j) r.length q a w
 |[],q,a,w,hcl,hB,h=>⟨by simpa[xB]using hB,h⟩
 |(0,k)::r,q,a,w,hcl,hB,h=>by
  simp only[xB,Zw]at hB;obtain⟨⟨⟨⟨hr,hf⟩,I⟩,ab⟩,E⟩:=hB;have u:k∈Region.ready .any ops q:=by simpa using hr
  obtain⟨_,o,B,_⟩:=mem_ready.1 u;rw[B]at I;simp only[Zn,Option.getD_some]at I;obtain⟨d,I⟩:=Option.isSome_iff_exists.1 I;rw[Kq B]at h;simp only[Uo]at h;have U:∃v,YieldsIf P ops (λw'=>w'=w) o v a/\Uo n P ops Q (Jk ops r) (a.put o.dst v) w:=by
   by_cases K:Region.wanted o (yielded ops a.tmps)=true;·simp only[K,if_true]at h;obtain⟨v,R,V⟩:=h;exact⟨v,.inl ⟨K,λw' e=>by rw[e];exact R⟩,V⟩
   .simp only[K]at h;exact⟨undef,.inr ⟨by simpa using K,rfl⟩,h⟩
  obtain⟨v,U,hK⟩:=U;exact To (F:=ops.size) B (Region.noSelect_spec z) (λc Z w' hq=>by rw[I]at hq;exact hQ c Z d _ w' hq) _ q a w hcl
   (.inr λj oj hj hl hu=>by
    have:=List.all_eq_true.1 ab j (by simpa using hl);rw[hu]at this;simpa using this) (Region.free_spec B hf) u U rfl
   (Qf1 z hQ r _ _ w (hcl.set u) E hK)
 |(1,k)::r,q,a,w,hcl,hB,h=>by
  simp only[xB,Zw]at hB;obtain⟨⟨⟨hr,hf⟩,I⟩,E⟩:=hB;have u:k∈Region.ready .any ops q:=by simpa using hr
  obtain⟨_,o,B,_⟩:=mem_ready.1 u;rw[B]at I;simp only[Zn,Option.getD_some]at I;obtain⟨d,I⟩:=Option.isSome_iff_exists.1 I;rw[Kq B]at h;simp only[Uo]at h;have U:∃v,YieldsIf P ops (λ_=>True) o v a/\Uo n P ops Q (Jk ops r) (a.put o.dst v) w:=by
   by_cases K:Region.wanted o (yielded ops a.tmps)=true;·simp only[K,if_true]at h;obtain⟨v,R,V⟩:=h;exact⟨v,.inl ⟨K,λw' _=>R w'⟩,V⟩
   .simp only[K]at h;exact⟨undef,.inr ⟨by simpa using K,rfl⟩,h⟩
  obtain⟨v,U,hK⟩:=U;exact To (F:=ops.size) B (Region.noSelect_spec z) (λc Z w' hq=>by rw[I]at hq;exact hQ c Z d _ w' hq) _ q a w hcl
   (.inl λ_=>trivial) (Region.free_spec B hf) u U trivial
   (Qf1 z hQ r _ _ w (hcl.set u) E hK)
 |(m+2,k)::r,q,a,w,hcl,hB,h=>by
  simp only[xB,Zw,decide_eq_true_eq]at hB;obtain⟨⟨R,hl⟩,E⟩:=hB;have u:k∈Region.ready .any ops q:=by rw[R];simp
  obtain⟨_,o,B,_⟩:=mem_ready.1 u;rw[Kq B]at h;simp only[Uo]at h;refine⟨λV=>(by rw[R]at V;cases V),λi hi=>?_⟩;rw[R]at hi;have aa:i=k:=by simpa using hi
  subst aa;refine wpOpIn_mono (λZ w' h'=>⟨λh=>?_,?_⟩) (Qca B h);·exact absurd (show J.contains i=false from h) (by rw[hl];decide)
  .exact Qf1 z hQ r _ Z w' (hcl.set u) E h'
theorem Lx{id:Nat}{a:Act}{w}{l:List Oper}(k:List (Nat×Nat))(J:P.follows .mixedOrders=true)
  (z:(Region.noSelect l.toArray&&(decide (k.length=l.toArray.size)&&xB l.toArray (Rb k) k (Array.replicate l.toArray.size false)))=true)
  (I:∀c(a:Act)(d:Tmp)v w,Q (.panic c) (a.put (some d) v) w->Q (.panic c) a w) (h:Uo n P l.toArray Q (Jk l.toArray k) a w.drew):
  (Code.region id l.toArray true).wpIn Fence.wide n P Q a w:=by
 simp only[Zw,decide_eq_true_eq]at z;obtain⟨u,q,z⟩:=z;refine wpIn_region_any J ?_;have B:Xj l.toArray (Array.replicate l.toArray.size false):=λj K _ E=>by rw[getD_replicate_false]at E;cases E
 have:=Qf1 (n:=n) (P:=P) (Q:=Q) u I k _ a _ B z h;rw[q]at this;exact Tm _ _ _ _ this
variable{r:List (Nat×Oper)}{a:Act}{o:Oper}{w:World}
theorem Qf2(h:Q .normal a w):Uo n P ops Q [] a w:=h
theorem Qf4(c:Region.wanted o (yielded ops a.tmps)=false:=by as_aux_lemma=>kernel_rfl)(h:Uo n P ops Q r (a.put o.dst undef) w):Uo n P ops Q ((0,o)::r) a w:=by simp only[Uo,c,Bool.false_eq_true,if_false];exact h
theorem Ae(c:Region.wanted o (yielded ops a.tmps)=false:=by as_aux_lemma=>kernel_rfl)(h:Uo n P ops Q r (a.put o.dst undef) w):Uo n P ops Q ((1,o)::r) a w:=by simp only[Uo,c,Bool.false_eq_true,if_false];exact h
theorem Et{v:Value}(d:Region.wanted o (yielded ops a.tmps)=true:=by as_aux_lemma=>kernel_rfl)(c:(execOp a.eval o).run P w=.ok (.value v) w:=by go_simp;try rfl)(h:Uo n P ops Q r (a.put o.dst v) w):Uo n P ops Q ((0,o)::r) a w:=by simp only[Uo,d,if_true];exact⟨v,c,h⟩
theorem Dl{v:Value}(d:Region.wanted o (yielded ops a.tmps)=true:=by as_aux_lemma=>kernel_rfl)(c:∀w',(execOp a.eval o).run P w'=.ok (.value v) w':=by intros;go_simp;try rfl)(h:Uo n P ops Q r (a.put o.dst v) w):Uo n P ops Q ((1,o)::r) a w:=by simp only[Uo,d,if_true];exact⟨v,c,h⟩
theorem Bl{m:Nat}(h:wpListIn Fence.wide n P ops (Exit.then (λc w'=>Uo n P ops Q r c w') Q) [o] a w):Uo n P ops Q ((m+2,o)::r) a w:=h
theorem Qf3{m:Nat}(c:Region.wanted o (yielded ops a.tmps)=false)(h:Uo n P ops Q r (a.put o.dst undef) w):Uo n P ops Q ((m+2,o)::r) a w:=by show wpListIn Fence.wide n P ops _ [o] a w;simp only[wpListIn,c,Bool.false_eq_true,if_false];exact⟨λf _=>trivial,h⟩
end
def Z7(p:List Nat):List (Nat×Nat):=p.map λn=>(n/100,n%100)
def Z8(ops:Array Oper):List Nat->List (Nat×Oper)
 |[]=>[]
 |n::r=>match ops[n%100]? with|some o=>(n/100,o)::Z8 ops r|none=>Z8 ops r
theorem ZA(ops:Array Oper)(p:List Nat):Z8 ops p=Jk ops (Z7 p):=by
 induction p with
 |nil=>rfl
 |cons n r ih=>show _=Jk ops ((n/100,n%100)::Z7 r);rw[Z8,Jk,ih]
theorem ZB{Q:Exit->Act->World->Prop}{id:Nat}{a:Act}{w:World}{l:List Oper}(p:List Nat)(h:Kl prog l.toArray Q (Z8 l.toArray p) a w.drew)(hB:(Region.noSelect l.toArray&&(decide ((Z7 p).length=l.toArray.size)&&xB l.toArray (Rb (Z7 p)) (Z7 p) (Array.replicate l.toArray.size false)))=true:=by kernel_rfl)(hQ:∀c (a:Act)(d:Tmp) v w,Q (.panic c) (a.put (some d) v) w->Q (.panic c) a w:=by exact λ_ _ _ _ _ h=>h):(Code.region id l.toArray true).wp prog Q a w:=Qj _ Zq hB hQ (by rw[<-ZA];exact h)
def dg:Nat->Nat->Nat->List Nat
 |0,_,_=>[]
 |f+1,n,i=>(n%10*100+i)::dg f (n/10) (i+1)
theorem XB{Q:Exit->Act->World->Prop}{id:Nat}{a:Act}{w:World}{l:List Oper}{K:Prop}(p:Nat)(k:K)(h:K->Kl prog l.toArray Q (Z8 l.toArray (dg l.length p 0)) a w.drew:=by intro k;simp only[dg,List.length_cons,List.length_nil,Z8,Zf,Ze,Zd];exact k)(hB:(Region.noSelect l.toArray&&(decide ((Z7 (dg l.length p 0)).length=l.toArray.size)&&xB l.toArray (Rb (Z7 (dg l.length p 0))) (Z7 (dg l.length p 0)) (Array.replicate l.toArray.size false)))=true:=by kernel_rfl)(hQ:∀c (a:Act)(d:Tmp) v w,Q (.panic c) (a.put (some d) v) w->Q (.panic c) a w:=by exact λ_ _ _ _ _ h=>h):(Code.region id l.toArray true).wp prog Q a w:=ZB (dg l.length p 0) (h k) hB hQ
theorem YB{Q:Exit->Act->World->Prop}{id:Nat}{a:Act}{w:World}{l:List Oper}{K:Prop}(p:List Nat)(k:K)(h:K->Kl prog l.toArray Q (Z8 l.toArray p) a w.drew:=by intro k;simp only[Z8,Zf,Ze,Zd];exact k)(hB:(Region.noSelect l.toArray&&(decide ((Z7 p).length=l.toArray.size)&&xB l.toArray (Rb (Z7 p)) (Z7 p) (Array.replicate l.toArray.size false)))=true:=by kernel_rfl)(hQ:∀c (a:Act)(d:Tmp) v w,Q (.panic c) (a.put (some d) v) w->Q (.panic c) a w:=by exact λ_ _ _ _ _ h=>h):(Code.region id l.toArray true).wp prog Q a w:=ZB p (h k) hB hQ
section
variable{P:Program}{ops:Array Oper}{Q:Exit->Act->World->Prop}{D:World->Prop}
def Fi(P:Program)(ops:Array Oper)(Q:Exit->Act->World->Prop)(D:World->Prop)(c d:Nat->Bool):Nat->Array Bool->Act->World->Prop
 |0,listed,a,w=>Region.ready .any ops listed=[]/\Q .normal a w
 |f+1,listed,a,w=>(Region.ready .any ops listed=[]->Q .normal a w)/\
  ∀i∈Region.ready .any ops listed,wpOp P ops Q i (λk w'=>((c i=false->w'=w)/\(c i=true->d i=false->D w'))/\Fi P ops Q D c d f (listed.setIfInBounds i true) k w') a w
theorem Mu{d k:Nat->Bool}:∀(f:Nat)(c:Array Bool)(a:Act)(w),Fi P ops Q D d k f c a w->wpAny P .any ops Q f c a w
 |0,_,_,_,h=>h
 |f+1,_,_,_,h=>⟨h.1,λi u=>wpOp_mono (λq w' h'=>Mu f _ q w' h'.2) (h.2 i u)⟩
theorem Gm{u Z:Nat->Bool}{E:World->Prop}{i F:Nat}{oi:Oper}{v:Value}(hi:ops[i]? =some oi)(af:u i=false)(ab:∀(j:Nat)(o:Oper)cs b,ops[j]? =some o->o.op≠ .select cs b)
  (hQ:∀c a w,Q (.panic c) (a.put oi.dst v) w->Q (.panic c) a w):
  ∀(f:Nat)(d:Array Bool)(a:Act)(w),Xj ops d->
   (((∀w',D w'->E w')/\∀j B,ops[j]? =some B->Z j=true->d.getD j true=false->Xs ops F j i=true)\/∀j B,ops[j]? =some B->u j=true->d.getD j true=false->Xs ops F j i=true)->
   (∀j B,ops[j]? =some B->j≠i->d.getD j true=false->(∀e∈B.after,Region.binds .any e=true->e.on≠i)->oi.apart ops B=true)->
   i∈Region.ready .any ops d->YieldsIf P ops E oi v a->E w->
   Fi P ops Q D u Z f (d.setIfInBounds i true) (a.put oi.dst v) w->Fi P ops Q D u Z (f+1) d a w:=by
 intro f;induction f with
 |zero=>
  intro d a w ac _ _ hr hy hE H;refine⟨λh=>(by rw[h]at hr;cases hr),λj hj=>?_⟩;by_cases q:j=i;·subst q;exact hy.wpOp hi hE ⟨⟨λ_=>rfl,λI _=>(by rw[af]at I;cases I)⟩,H⟩
  .have:=ready_mono hj q;rw[H.1]at this;cases this
 |succ f ih=>
  intro d a w ac U R hr hy hE H;have ah:=(mem_ready.1 hr).1;refine⟨λh=>(by rw[h]at hr;cases hr),λj hj=>?_⟩;by_cases q:j=i;·subst q;exact hy.wpOp hi hE ⟨⟨λ_=>rfl,λI _=>(by rw[af]at I;cases I)⟩,H⟩
  .have I:=H.2 j (ready_mono hj q);obtain⟨z,B,J,aa⟩:=mem_ready.1 hj;have V:Xs ops F j i=true->False:=λhw=>by
    have I:=Yw ac F j i (λo ho e he hb=>by
     have:o=B:=Zs (ho.symm.trans J);subst this;exact aa e he hb) hw
    rw[getD_both ah]at I;cases I
   have ag:∀e∈B.after,Region.binds .any e=true->e.on≠i:=λe he hb ai=>by have I:=aa e he hb;rw[ai,getD_both ah]at I;cases I
   have h2:=wpOp_putIf (S:=E) J (R j B J q z ag) (λcs b=>ab i oi cs b hi) (λcs b=>ab j B cs b J) hQ hy I;have K:∀k,(d.setIfInBounds j true).getD k true=false->d.getD k true=false:=λk h=>by
    by_cases ae:j=k;·subst ae;exact z
    .rwa[getD_set_ne true ae]at h
   refine wpOp_mono (λa' w' h3=>⟨h3.2.1,ih (d.setIfInBounds j true) a' w' (ac.set hj) ?_ ?_ (ready_mono hr (Ne.symm q)) h3.1 ?_ ?_⟩) h2;·exact U.imp (λh=>⟨h.1,λk ok hk hl hu=>h.2 k ok hk hl (K k hu)⟩) λh k ok hk hl hu=>h k ok hk hl (K k hu)
   .exact λk ok hk aj hu V=>R k ok hk aj (K k hu) V
   .cases hl:u j with
    |false=>rw[h3.2.1.1 hl];exact hE
    |true=>
     rcases U with h|h
     .cases hn:Z j with
      |false=>exact h.1 w' (h3.2.1.2 hl hn)
      |true=>exact(V (h.2 j B J hn z)).elim
     .exact(V (h j B J hl z)).elim
   .rw[Array.setIfInBounds_comm _ _ q];exact h3.2.2
def J9(P:Program)(ops:Array Oper)(Q:Exit->Act->World->Prop)(D:World->Prop):List (Nat×Oper)->Act->World->Prop
 |[],a,w=>Q .normal a w
 |(0,o)::r,a,w=>if Region.wanted o (yielded ops a.tmps)then∃v,(execOp a.eval o).run P w=.ok (.value v) w/\J9 P ops Q D r (a.put o.dst v) w else J9 P ops Q D r (a.put o.dst undef) w
 |(1,o)::r,a,w=>if Region.wanted o (yielded ops a.tmps)then∃v,(∀w',D w'->(execOp a.eval o).run P w'=.ok (.value v) w')/\J9 P ops Q D r (a.put o.dst v) w else J9 P ops Q D r (a.put o.dst undef) w
 |(2,o)::r,a,w=>wpList P ops (Exit.then (λc w'=>D w'/\J9 P ops Q D r c w') Q) [o] a w
 |(_+3,o)::r,a,w=>wpList P ops (Exit.then (λc w'=>J9 P ops Q D r c w') Q) [o] a w
def Qh8:List (Nat×Nat)->List Nat
 |[]=>[]
 |(0,_)::r=>Qh8 r
 |(1,_)::r=>Qh8 r
 |(2,_)::r=>Qh8 r
 |(_+3,k)::r=>k::Qh8 r
def Qdn(ops:Array Oper)(d:List Nat)(k:Nat)(c:Array Bool):Bool:=(Region.ready .any ops c).contains k&&Region.free .any ops c k&&((ops[k]?).map (·.dst.isSome)).getD false&&!d.contains k
def xdB(ops:Array Oper)(c d:List Nat):List (Nat×Nat)->Array Bool->Bool
 |[],listed=>(Region.ready .any ops listed).isEmpty
 |(0,k)::r,listed=>Qdn ops c k listed&&(c.all λj=>listed.getD j true||Xs ops ops.size j k)&&xdB ops c d r (listed.setIfInBounds k true)
 |(1,k)::r,listed=>Qdn ops c k listed&&(d.all λj=>listed.getD j true||Xs ops ops.size j k)&&xdB ops c d r (listed.setIfInBounds k true)
 |(2,k)::r,listed=>decide (Region.ready .any ops listed=[k])&&c.contains k&&xdB ops c d r (listed.setIfInBounds k true)
 |(_+3,k)::r,listed=>decide (Region.ready .any ops listed=[k])&&c.contains k&&d.contains k&&(r.all λx=>x.1 != 1)&&xdB ops c d r (listed.setIfInBounds k true)
theorem E7{q:List Nat}{k:Nat}{c:Array Bool}(h:Qdn ops q k c=true):k∈Region.ready .any ops c/\Region.free .any ops c k=true/\q.contains k=false/\∃o d,ops[k]? =some o/\o.dst=some d:=by
 simp only[Qdn,Zw,Bool.not_eq_true']at h;obtain⟨⟨⟨J,E⟩,u⟩,I⟩:=h;have z:k∈Region.ready .any ops c:=by simpa using J
 obtain⟨_,o,B,_⟩:=mem_ready.1 z;rw[B]at u;simp only[Zn,Option.getD_some]at u;obtain⟨d,u⟩:=Option.isSome_iff_exists.1 u;exact⟨z,E,I,o,d,B,u⟩
theorem Qcd{E af:List Nat}(z:Region.noSelect ops=true)(hQ:∀c(a:Act)(d:Tmp)v w,Q (.panic c) (a.put (some d) v) w->Q (.panic c) a w):
  ∀(r:List (Nat×Nat))(q:Array Bool)(a:Act)(w),Xj ops q->(D w\/(r.all λx=>x.1 != 1)=true)->xdB ops E af r q=true->J9 P ops Q D (Jk ops r) a w->
   Fi P ops Q D (λj=>E.contains j) (λj=>af.contains j) r.length q a w
 |[],q,a,w,hcl,U,hB,h=>⟨by simpa[xdB]using hB,h⟩
 |(0,k)::r,q,a,w,hcl,U,hB,h=>by
  simp only[xdB,Zw]at hB;obtain⟨⟨ab,ae⟩,B⟩:=hB;obtain⟨u,hf,K,o,d,I,hd⟩:=E7 ab;rw[Kq I]at h;simp only[J9]at h;have hy:∃v,YieldsIf P ops (λw'=>w'=w) o v a/\J9 P ops Q D (Jk ops r) (a.put o.dst v) w:=by
   by_cases V:Region.wanted o (yielded ops a.tmps)=true;·simp only[V,if_true]at h;obtain⟨v,J,R⟩:=h;exact⟨v,.inl ⟨V,λw' e=>by rw[e];exact J⟩,R⟩
   .simp only[V]at h;exact⟨undef,.inr ⟨by simpa using V,rfl⟩,h⟩
  obtain⟨v,hy,hK⟩:=hy;exact Gm (F:=ops.size) I K (Region.noSelect_spec z) (λc Z w' hq=>by rw[hd]at hq;exact hQ c Z d _ w' hq) _ q a w hcl
   (.inr λj oj hj K hu=>by
    have:=List.all_eq_true.1 ae j (by simpa using K);rw[hu]at this;simpa using this) (Region.free_spec I hf) u hy rfl
   (Qcd z hQ r _ _ w (hcl.set u) (U.imp id λh=>by simpa using h) B hK)
 |(1,k)::r,q,a,w,hcl,U,hB,h=>by
  simp only[xdB,Zw]at hB;obtain⟨⟨ab,ae⟩,B⟩:=hB;have U:D w:=U.elim id λh=>by simp at h
  obtain⟨u,hf,K,o,d,I,hd⟩:=E7 ab;rw[Kq I]at h;simp only[J9]at h;have hy:∃v,YieldsIf P ops D o v a/\J9 P ops Q D (Jk ops r) (a.put o.dst v) w:=by
   by_cases V:Region.wanted o (yielded ops a.tmps)=true;·simp only[V,if_true]at h;obtain⟨v,J,R⟩:=h;exact⟨v,.inl ⟨V,J⟩,R⟩
   .simp only[V]at h;exact⟨undef,.inr ⟨by simpa using V,rfl⟩,h⟩
  obtain⟨v,hy,hK⟩:=hy;exact Gm (F:=ops.size) I K (Region.noSelect_spec z) (λc Z w' hq=>by rw[hd]at hq;exact hQ c Z d _ w' hq) _ q a w hcl
   (.inl ⟨λ_ h=>h,λj oj hj K hu=>by
    have:=List.all_eq_true.1 ae j (by simpa using K);rw[hu]at this;simpa using this⟩) (Region.free_spec I hf) u hy U
   (Qcd z hQ r _ _ w (hcl.set u) (.inl U) B hK)
 |(2,k)::r,q,a,w,hcl,U,hB,h=>by
  simp only[xdB,Zw,decide_eq_true_eq]at hB;obtain⟨⟨J,K⟩,B⟩:=hB;have u:k∈Region.ready .any ops q:=by rw[J];simp
  obtain⟨_,o,I,_⟩:=mem_ready.1 u;rw[Kq I]at h;simp only[J9]at h;refine⟨λR=>(by rw[J]at R;cases R),λi hi=>?_⟩;rw[J]at hi;have aa:i=k:=by simpa using hi
  subst aa;refine wpOp_mono (λZ w' h'=>⟨⟨λh=>absurd (show E.contains i=false from h) (by rw[K];decide),λ_ _=>h'.1⟩,?_⟩) (Ko I h);exact Qcd z hQ r _ Z w' (hcl.set u) (.inl h'.1) B h'.2
 |(n+3,k)::r,q,a,w,hcl,U,hB,h=>by
  simp only[xdB,Zw,decide_eq_true_eq]at hB;obtain⟨⟨⟨⟨J,K⟩,hn⟩,ac⟩,B⟩:=hB;have u:k∈Region.ready .any ops q:=by rw[J];simp
  obtain⟨_,o,I,_⟩:=mem_ready.1 u;rw[Kq I]at h;simp only[J9]at h;refine⟨λR=>(by rw[J]at R;cases R),λi hi=>?_⟩;rw[J]at hi;have aa:i=k:=by simpa using hi
  subst aa;refine wpOp_mono (λZ w' h'=>⟨⟨λh=>absurd (show E.contains i=false from h) (by rw[K];decide),λ_ h=>absurd (show af.contains i=false from h) (by rw[hn];decide)⟩,?_⟩) (Ko I h);exact Qcd z hQ r _ Z w' (hcl.set u) (.inr ac) B h'
theorem Jp{id:Nat}{a:Act}{w}{l:List Oper}(k:List (Nat×Nat))(D:World->Prop)(K:P.follows .mixedOrders=true)
  (z:(Region.noSelect l.toArray&&(decide (k.length=l.toArray.size)&&xdB l.toArray (Rb k) (Qh8 k) k (Array.replicate l.toArray.size false)))=true)
  (J:∀c(a:Act)(d:Tmp)v w,Q (.panic c) (a.put (some d) v) w->Q (.panic c) a w) (I:D w.drew) (h:J9 P l.toArray Q D (Jk l.toArray k) a w.drew):
  (Code.region id l.toArray true).wp P Q a w:=by
 simp only[Zw,decide_eq_true_eq]at z;obtain⟨u,q,z⟩:=z;refine wp_region_any K ?_;have B:Xj l.toArray (Array.replicate l.toArray.size false):=λj R _ E=>by rw[getD_replicate_false]at E;cases E
 have:=Qcd (P:=P) (D:=D) u J k _ a _ B (.inl I) z h;rw[q]at this;exact Mu _ _ _ _ this
variable{r:List (Nat×Oper)}{a:Act}{o:Oper}{w:World}
theorem Ky(h:Q .normal a w):J9 P ops Q D [] a w:=h
theorem Xe{v:Value}(d:Region.wanted o (yielded ops a.tmps)=true:=by as_aux_lemma=>kernel_rfl)(c:(execOp a.eval o).run P w=.ok (.value v) w:=by go_simp;try rfl)(h:J9 P ops Q D r (a.put o.dst v) w):J9 P ops Q D ((0,o)::r) a w:=by simp only[J9,d,if_true];exact⟨v,c,h⟩
theorem Qy{v:Value}(d:Region.wanted o (yielded ops a.tmps)=true:=by as_aux_lemma=>kernel_rfl)(c:∀w',D w'->(execOp a.eval o).run P w'=.ok (.value v) w':=by intros;go_simp;try rfl)(h:J9 P ops Q D r (a.put o.dst v) w):J9 P ops Q D ((1,o)::r) a w:=by simp only[J9,d,if_true];exact⟨v,c,h⟩
theorem Yb(h:wpList P ops (Exit.then (λc w'=>D w'/\J9 P ops Q D r c w') Q) [o] a w):J9 P ops Q D ((2,o)::r) a w:=h
theorem Km(h:wpList P ops (Exit.then (λc w'=>J9 P ops Q D r c w') Q) [o] a w):J9 P ops Q D ((3,o)::r) a w:=h
end
theorem ZC{Q:Exit->Act->World->Prop}{id:Nat}{a:Act}{w:World}{l:List Oper}(p:List Nat)(D:World->Prop)(h:J9 prog l.toArray Q D (Z8 l.toArray p) a w.drew)(hB:(Region.noSelect l.toArray&&(decide ((Z7 p).length=l.toArray.size)&&xdB l.toArray (Rb (Z7 p)) (Qh8 (Z7 p)) (Z7 p) (Array.replicate l.toArray.size false)))=true:=by kernel_rfl)(hQ:∀c (a:Act)(d:Tmp) v w,Q (.panic c) (a.put (some d) v) w->Q (.panic c) a w:=by exact λ_ _ _ _ _ h=>h)(hC:D w.drew:=by exact Z0):(Code.region id l.toArray true).wp prog Q a w:=Jp _ D Zq hB hQ hC (by rw[<-ZA];exact h)
theorem XC{Q:Exit->Act->World->Prop}{id:Nat}{a:Act}{w:World}{l:List Oper}{K:Prop}(p:Nat)(S:Nat->Prop)(u:World)(k:K)(h:K->J9 prog l.toArray Q (λv=>Qc S u v) (Z8 l.toArray (dg l.length p 0)) a w.drew:=by intro k;simp only[dg,List.length_cons,List.length_nil,Z8,Zf,Ze,Zd];exact k)(hB:(Region.noSelect l.toArray&&(decide ((Z7 (dg l.length p 0)).length=l.toArray.size)&&xdB l.toArray (Rb (Z7 (dg l.length p 0))) (Qh8 (Z7 (dg l.length p 0))) (Z7 (dg l.length p 0)) (Array.replicate l.toArray.size false)))=true:=by kernel_rfl)(hQ:∀c (a:Act)(d:Tmp) v w,Q (.panic c) (a.put (some d) v) w->Q (.panic c) a w:=by exact λ_ _ _ _ _ h=>h)(hC:Qc S u w.drew:=by exact Z0):(Code.region id l.toArray true).wp prog Q a w:=ZC (dg l.length p 0) (λv=>Qc S u v) (h k) hB hQ hC
theorem YC{Q:Exit->Act->World->Prop}{id:Nat}{a:Act}{w:World}{l:List Oper}{K:Prop}(p:List Nat)(S:Nat->Prop)(u:World)(k:K)(h:K->J9 prog l.toArray Q (λv=>Qc S u v) (Z8 l.toArray p) a w.drew:=by intro k;simp only[Z8,Zf,Ze,Zd];exact k)(hB:(Region.noSelect l.toArray&&(decide ((Z7 p).length=l.toArray.size)&&xdB l.toArray (Rb (Z7 p)) (Qh8 (Z7 p)) (Z7 p) (Array.replicate l.toArray.size false)))=true:=by kernel_rfl)(hQ:∀c (a:Act)(d:Tmp) v w,Q (.panic c) (a.put (some d) v) w->Q (.panic c) a w:=by exact λ_ _ _ _ _ h=>h)(hC:Qc S u w.drew:=by exact Z0):(Code.region id l.toArray true).wp prog Q a w:=ZC p (λv=>Qc S u v) (h k) hB hQ hC
theorem YA(_:Nat){G K:Prop}(k:K)(q:K->G:=by intro k;(repeat (first|refine Jq (h:=?_)|refine Xe (h:=?_)|(refine Qy (h:=?_);try simp only[Act.put,Za,Zc,Zb])|refine Q8 (h:=?_)));(try simp only[Act.put,Za,Zc,Zb]);(first|refine J7 ?_|refine Yb ?_|refine Km ?_);exact k):G:=q k
theorem YI(_:Nat){G K:Prop}(k:K)(q:K->G:=by intro k;(repeat (first|refine Jq (h:=?_)|refine Xe (h:=?_)|(refine Qy (h:=?_);try simp only[Act.put,Za,Zc,Zb])|refine Q8 (h:=?_)));(try simp only[Act.put,Za,Zc,Zb]);(first|refine J7 ?_|refine Yb ?_|refine Km ?_);go_wp2_with fail;(first|refine Jo ?_|refine Ky ?_);exact k):G:=q k
theorem YK{P:Program}{ops:Array Oper}{Q:Exit->Act->World->Prop}{D F:World->Prop}{o:Oper}{r:List (Nat×Oper)}{a:Act}{w:World}{v:Value}{K:Prop}(f:∀w',D w'->F w')(k:K)(c:∀w',F w'->(execOp a.eval o).run P w'=.ok (.value v) w':=by intros;go_simp;try rfl)(d:Region.wanted o (yielded ops a.tmps)=true:=by as_aux_lemma=>kernel_rfl)(h:K->J9 P ops Q D r (a.put o.dst v) w:=by intro k;(try simp only[Act.put,Za,Zc,Zb]);exact k):J9 P ops Q D ((1,o)::r) a w:=Qy d (λw' k=>c w' (f w' k)) (h k)
inductive PT where
 |nil
 |look(k:Nat)(r:PT)
 |lookp(k:Nat)(r:PT)
 |walk(k:Nat)(r:PT)
 |fork(i:Nat)(x:PT)(j:Nat)(y:PT)
inductive PO where
 |nil
 |look(o:Oper)(r:PO)
 |lookp(o:Oper)(r:PO)
 |walk(o:Oper)(r:PO)
 |fork(o:Oper)(x:PO)(p:Oper)(y:PO)
section
variable{P:Program}{ops:Array Oper}{Q:Exit->Act->World->Prop}{D:World->Prop}
def O0(ops:Array Oper):PT->PO
 | .nil=>.nil
 | .look k r=>match ops[k]? with|some o=>.look o (O0 ops r)|none=>.nil
 | .lookp k r=>match ops[k]? with|some o=>.lookp o (O0 ops r)|none=>.nil
 | .walk k r=>match ops[k]? with|some o=>.walk o (O0 ops r)|none=>.nil
 | .fork i x j y=>match ops[i]? with|some o=>(match ops[j]? with|some p=>.fork o (O0 ops x) p (O0 ops y)|none=>.nil)|none=>.nil
def Qdg:PT->List Nat
 | .nil=>[]
 | .look _ r=>Qdg r
 | .lookp _ r=>Qdg r
 | .walk k r=>k::Qdg r
 | .fork i x j y=>i::j::(Qdg x++Qdg y)
def Xo(P:Program)(ops:Array Oper)(Q:Exit->Act->World->Prop)(D:World->Prop):PO->Act->World->Prop
 | .nil,a,w=>Q .normal a w
 | .look o r,a,w=>if Region.wanted o (yielded ops a.tmps)then∃v,(execOp a.eval o).run P w=.ok (.value v) w/\Xo P ops Q D r (a.put o.dst v) w else Xo P ops Q D r (a.put o.dst undef) w
 | .lookp o r,a,w=>if Region.wanted o (yielded ops a.tmps)then∃v,(∀w',D w'->(execOp a.eval o).run P w'=.ok (.value v) w')/\Xo P ops Q D r (a.put o.dst v) w else Xo P ops Q D r (a.put o.dst undef) w
 | .walk o r,a,w=>wpList P ops (Exit.then (λc w'=>D w'/\Xo P ops Q D r c w') Q) [o] a w
 | .fork o x p y,a,w=>wpList P ops (Exit.then (λc w'=>D w'/\Xo P ops Q D x c w') Q) [o] a w/\wpList P ops (Exit.then (λc w'=>D w'/\Xo P ops Q D y c w') Q) [p] a w
def xfB(ops:Array Oper)(c:List Nat):PT->Nat->Array Bool->Bool
 | .nil,0,listed=>(Region.ready .any ops listed).isEmpty
 | .look k r,n+1,listed=>Qdn ops c k listed&&(c.all λj=>listed.getD j true||Xs ops ops.size j k)&&xfB ops c r n (listed.setIfInBounds k true)
 | .lookp k r,n+1,listed=>Qdn ops c k listed&&xfB ops c r n (listed.setIfInBounds k true)
 | .walk k r,n+1,listed=>decide (Region.ready .any ops listed=[k])&&c.contains k&&xfB ops c r n (listed.setIfInBounds k true)
 | .fork i x j y,n+1,listed=>decide (Region.ready .any ops listed=[i,j])&&c.contains i&&c.contains j&&xfB ops c x n (listed.setIfInBounds i true)&&xfB ops c y n (listed.setIfInBounds j true)
 |_,_,_=>false
theorem Fk{B:List Nat}(u:Region.noSelect ops=true)(Z:∀c(a:Act)(d:Tmp)v w,Q (.panic c) (a.put (some d) v) w->Q (.panic c) a w):
  ∀(r:PT)(n:Nat)(q:Array Bool)(a:Act)(w),Xj ops q->D w->xfB ops B r n q=true->Xo P ops Q D (O0 ops r) a w->
   Fi P ops Q D (λj=>B.contains j) (λ_=>false) n q a w
 | .nil,0,q,a,w,hcl,hC,hB,h=>⟨by simpa[xfB]using hB,h⟩
 | .look k r,n+1,q,a,w,hcl,hC,hB,h=>by
  simp only[xfB,Zw]at hB;obtain⟨⟨aa,aj⟩,J⟩:=hB;obtain⟨z,hf,U,o,d,E,hd⟩:=E7 aa;simp only[O0,E]at h;simp only[Xo]at h;have hy:∃v,YieldsIf P ops (λw'=>w'=w) o v a/\Xo P ops Q D (O0 ops r) (a.put o.dst v) w:=by
   by_cases V:Region.wanted o (yielded ops a.tmps)=true;·simp only[V,if_true]at h;obtain⟨v,I,R⟩:=h;exact⟨v,.inl ⟨V,λw' e=>by rw[e];exact I⟩,R⟩
   .simp only[V]at h;exact⟨undef,.inr ⟨by simpa using V,rfl⟩,h⟩
  obtain⟨v,hy,hK⟩:=hy;exact Gm (F:=ops.size) E U (Region.noSelect_spec u) (λc K w' hq=>by rw[hd]at hq;exact Z c K d _ w' hq) _ q a w hcl
   (.inr λj oj hj U hu=>by
    have:=List.all_eq_true.1 aj j (by simpa using U);rw[hu]at this;simpa using this) (Region.free_spec E hf) z hy rfl
   (Fk u Z r n _ _ w (hcl.set z) hC J hK)
 | .lookp k r,n+1,q,a,w,hcl,hC,hB,h=>by
  simp only[xfB,Zw]at hB;obtain⟨aa,J⟩:=hB;obtain⟨z,hf,U,o,d,E,hd⟩:=E7 aa;simp only[O0,E]at h;simp only[Xo]at h;have hy:∃v,YieldsIf P ops D o v a/\Xo P ops Q D (O0 ops r) (a.put o.dst v) w:=by
   by_cases V:Region.wanted o (yielded ops a.tmps)=true;·simp only[V,if_true]at h;obtain⟨v,I,R⟩:=h;exact⟨v,.inl ⟨V,I⟩,R⟩
   .simp only[V]at h;exact⟨undef,.inr ⟨by simpa using V,rfl⟩,h⟩
  obtain⟨v,hy,hK⟩:=hy;exact Gm (F:=ops.size) E U (Region.noSelect_spec u) (λc K w' hq=>by rw[hd]at hq;exact Z c K d _ w' hq) _ q a w hcl
   (.inl ⟨λ_ h=>h,λj oj hj U hu=>by cases U⟩) (Region.free_spec E hf) z hy hC
   (Fk u Z r n _ _ w (hcl.set z) hC J hK)
 | .walk k r,n+1,q,a,w,hcl,hC,hB,h=>by
  simp only[xfB,Zw,decide_eq_true_eq]at hB;obtain⟨⟨I,U⟩,J⟩:=hB;have z:k∈Region.ready .any ops q:=by rw[I];simp
  obtain⟨_,o,E,_⟩:=mem_ready.1 z;simp only[O0,E]at h;simp only[Xo]at h;refine⟨λR=>(by rw[I]at R;cases R),λi hi=>?_⟩;rw[I]at hi;have ag:i=k:=by simpa using hi
  subst ag;refine wpOp_mono (λK w' h'=>⟨⟨λh=>absurd (show B.contains i=false from h) (by rw[U];decide),λ_ _=>h'.1⟩,?_⟩) (Ko E h);exact Fk u Z r n _ K w' (hcl.set z) h'.1 J h'.2
 | .fork i x j y,n+1,q,a,w,hcl,hC,hB,h=>by
  simp only[xfB,Zw,decide_eq_true_eq]at hB;obtain⟨⟨⟨⟨I,ah⟩,ai⟩,ae⟩,af⟩:=hB;have ab:i∈Region.ready .any ops q:=by rw[I];simp
  have ac:j∈Region.ready .any ops q:=by rw[I];simp
  obtain⟨_,o,E,_⟩:=mem_ready.1 ab;obtain⟨_,p,p0,_⟩:=mem_ready.1 ac;simp only[O0,E,p0]at h;simp only[Xo]at h;refine⟨λR=>(by rw[I]at R;cases R),λk hk=>?_⟩;rw[I]at hk;rcases(show k=i\/k=j by simpa using hk)with rfl|rfl;·refine wpOp_mono (λK w' h'=>⟨⟨λh=>absurd (show B.contains k=false from h) (by rw[ah];decide),λ_ _=>h'.1⟩,?_⟩) (Ko E h.1);exact Fk u Z x n _ K w' (hcl.set ab) h'.1 ae h'.2
  .refine wpOp_mono (λK w' h'=>⟨⟨λh=>absurd (show B.contains k=false from h) (by rw[ai];decide),λ_ _=>h'.1⟩,?_⟩) (Ko p0 h.2);exact Fk u Z y n _ K w' (hcl.set ac) h'.1 af h'.2
 | .nil,n+1,q,a,w,hcl,hC,hB,h=>by simp[xfB]at hB
 | .look _ _,0,q,a,w,hcl,hC,hB,h=>by simp[xfB]at hB
 | .lookp _ _,0,q,a,w,hcl,hC,hB,h=>by simp[xfB]at hB
 | .walk _ _,0,q,a,w,hcl,hC,hB,h=>by simp[xfB]at hB
 | .fork _ _ _ _,0,q,a,w,hcl,hC,hB,h=>by simp[xfB]at hB
theorem Ui{id:Nat}{a:Act}{w}{l:List Oper}(k:PT)(D:World->Prop)(J:P.follows .mixedOrders=true)
  (u:(Region.noSelect l.toArray&&xfB l.toArray (Qdg k) k l.toArray.size (Array.replicate l.toArray.size false))=true)
  (I:∀c(a:Act)(d:Tmp)v w,Q (.panic c) (a.put (some d) v) w->Q (.panic c) a w) (E:D w.drew) (h:Xo P l.toArray Q D (O0 l.toArray k) a w.drew):
  (Code.region id l.toArray true).wp P Q a w:=by
 simp only[Zw]at u;obtain⟨q,u⟩:=u;refine wp_region_any J ?_;have z:Xj l.toArray (Array.replicate l.toArray.size false):=λj K _ B=>by rw[getD_replicate_false]at B;cases B
 exact Mu _ _ _ _ (Fk (P:=P) (D:=D) q I k _ _ a _ z E u h)
variable{r x y:PO}{a:Act}{o p:Oper}{w:World}
theorem U9(h:Q .normal a w):Xo P ops Q D .nil a w:=h
theorem Vd{v:Value}(d:Region.wanted o (yielded ops a.tmps)=true:=by kernel_rfl)(c:(execOp a.eval o).run P w=.ok (.value v) w:=by go_simp;try rfl)(h:Xo P ops Q D r (a.put o.dst v) w):Xo P ops Q D (.look o r) a w:=by simp only[Xo,d,if_true];exact⟨v,c,h⟩
theorem Xi{v:Value}(d:Region.wanted o (yielded ops a.tmps)=true:=by kernel_rfl)(c:∀w',D w'->(execOp a.eval o).run P w'=.ok (.value v) w':=by intros;go_simp;try rfl)(h:Xo P ops Q D r (a.put o.dst v) w):Xo P ops Q D (.lookp o r) a w:=by simp only[Xo,d,if_true];exact⟨v,c,h⟩
theorem Xt(h:wpList P ops (Exit.then (λc w'=>D w'/\Xo P ops Q D r c w') Q) [o] a w):Xo P ops Q D (.walk o r) a w:=h
theorem Gn(d:wpList P ops (Exit.then (λc w'=>D w'/\Xo P ops Q D x c w') Q) [o] a w)(k:wpList P ops (Exit.then (λc w'=>D w'/\Xo P ops Q D y c w') Q) [p] a w):Xo P ops Q D (.fork o x p y) a w:=⟨d,k⟩
theorem YL{P:Program}{ops:Array Oper}{Q:Exit->Act->World->Prop}{D F:World->Prop}{o:Oper}{r:PO}{a:Act}{w:World}{v:Value}{K:Prop}(f:∀w',D w'->F w')(k:K)(c:∀w',F w'->(execOp a.eval o).run P w'=.ok (.value v) w':=by intros;go_simp;try rfl)(d:Region.wanted o (yielded ops a.tmps)=true:=by as_aux_lemma=>kernel_rfl)(h:K->Xo P ops Q D r (a.put o.dst v) w:=by intro k;(try simp only[Act.put,Za,Zc,Zb]);exact k):Xo P ops Q D (.lookp o r) a w:=Xi d (λw' k=>c w' (f w' k)) (h k)
end
section
def Qnh(Q:Exit->Act->World->Prop):Exit->Act->World->Prop
 | .panic _,_,_=>False
 |e,a,w=>Q e a w
variable{n:Nat}{P:Program}{ops:Array Oper}{Q:Exit->Act->World->Prop}
theorem Sc{id:Nat}{a:Act}{w:World}{l:List Oper}(c:List (Nat×Nat))(k:P.follows .mixedOrders=true)
  (d:(Region.noSelect l.toArray&&(decide (c.length=l.toArray.size)&&xB l.toArray (Rb c) c (Array.replicate l.toArray.size false)))=true)
  (h:Uo n P l.toArray (Qnh Q) (Jk l.toArray c) a w.drew):(Code.region id l.toArray true).wpIn Fence.wide n P Q a w:=
 Code.wpIn_mono (λe a w h=>by cases e<;>first|exact h.elim|exact h) (Lx c k d (λ_ _ _ _ _ h=>h) h)
theorem Qnv{a:Act}{w}(h:Q .normal a w):Uo n P ops (Qnh Q) [] a w:=h
end
def Cp(p:Jr)(c:Int):Int:=if c<1\/65536<=c then 2 else if p.len<1\/c<p.len then 100 else 0
theorem Rn(p:Jr)(c:Int)(w):
  ZW 106 #[.agg (ZL p),ZI c] w (ZI (Cp p c)) λw'=>Qc Qb w w':=by
 obtain⟨id,q,d,k⟩:=p;by_cases z:c<1;·have E:Hi (Cp ⟨id,q,d,k⟩ c=2):=O (if_pos (.inl z));apply WH func106;go_wp2;go_ret;exact⟨by rw[E.o];rfl,(Zg _ _).alloc _⟩
 .by_cases B:65536<=c;·have E:Hi (Cp ⟨id,q,d,k⟩ c=2):=O (if_pos (.inr B));apply WH func106;go_wp2;go_ret;exact⟨by rw[E.o];rfl,(Zg _ _).alloc _⟩
  .have u:Cp ⟨id,q,d,k⟩ c=if d<1\/c<d then 100 else 0:=if_neg (by omega);by_cases I:d<1;·have E:=O (u.trans (if_pos (.inl I)));clear u;apply WH func106;go_wp2;go_ret;exact⟨by rw[E.o];rfl,(Zg _ _).alloc _⟩
   .by_cases J:c<d;·have E:=O (u.trans (if_pos (.inr J)));clear u;apply WH func106;go_wp2;go_ret;exact⟨by rw[E.o];rfl,(Zg _ _).alloc _⟩
    .have E:=O (u.trans (if_neg (by omega)));clear u;apply WH func106;go_wp2;go_ret;exact⟨by rw[E.o];rfl,(Zg _ _).alloc _⟩
theorem Qa9{w}{b r k q:Nat}(h:Jz w b r k q []):
  ZW 96 #[ZP b] w (.tuple #[.agg #[ZU 0,ZI 0,ZI 0,ZU 0],.bool false]) λw'=>Qc Qb w w':=by
 have Xg:=h.lt;obtain⟨_,B,E,_,_,_,_,_,L,f,c,_⟩:=h;have d:=c.cell 0;have u:=c.cell 4;simp at d u;have N:=O (λo=>Hy b k (w.alloc o) (by rw[World.cell?_alloc_past _ _ _ Xg.1];exact d) (by omega));have z:=Xg.1;clear c Xg;go_enter func96,ntmps96;go_wp2_with fail;refine Zz (N.o _) ?_;rintro w1 rfl;go_wp2;refine bodyPost_ret (v:=.tuple #[.agg #[ZU 0,ZI 0,ZI 0,ZU 0],.bool false]) (by simp[results,Tryz.results96,go_sem]) rfl ⟨rfl,?_⟩;(exact Z0)
theorem Qba{w}{b r E I:Nat}{p:Jr}{l:List Jr}(h:Jz w b r E I (p::l)):
  ZW 96 #[ZP b] w (.tuple #[.agg (ZL p),.bool true]) λw'=>Qc Qb w w':=by
 have Xg:=h.lt;obtain⟨_,p1,p2,_,_,m1,_,_,L,f,q,u,d,hl,hL,B⟩:=h;have c:L[f]? =some p:=by have:=B 0 (by simp);rw[Nat.add_zero,Nat.mod_eq_of_lt d]at this;simpa using this
 have k:L[f]=p:=by rw[List.getElem?_eq_getElem d]at c;exact Zs c
 have z:=q.cell 0;have J:=q.cell 2;have K:=q.cell 3;have R:=q.cell 4;have V:=u.cellAt Jr.aF f d 0 _ (by rw[k];rfl);have Z:=u.cellAt Jr.aF f d 1 _ (by rw[k];rfl);have r2:=u.cellAt Jr.aF f d 2 _ (by rw[k];rfl);have r3:=u.cellAt Jr.aF f d 3 _ (by rw[k];rfl);simp at z J K R V Z r2 r3;have N:=O (λo=>Hy b E (w.alloc o) (by rw[World.cell?_alloc_past _ _ _ Xg.1];exact z) (by omega));have hb:=Xg.1;have U:=Xg.2;have f0:(0:Int)<=(f:Int):=by omega
 have f1:(f:Int)<(L.length:Int):=by omega
 have n0:((l.length:Int)+1==0)=false:=by rw[beq_eq_false_iff_ne];omega
 clear q u Xg B c k;apply WH func96;go_wp2_with fail;apply Zz (N.o _);rintro w1 rfl;go_wp2;apply XB 220000000000;apply YA 0;go_wp2_with fail;apply YI 0;go_wp2;refine bodyPost_ret (v:=.tuple #[.agg (ZL p),.bool true]) (by simp[results,Tryz.results96,go_sem]) rfl ⟨rfl,?_⟩;(exact Z0)
theorem Qfk{L:List Jr}{f:Nat}{p:Jr}{l:List Jr}(h:Ow L f (p::l)):Ow L ((f+1)%L.length) l:=by intro i c;have:=h (i+1) (by simpa using c);rw[Nat.mod_add_mod,show f+1+i=f+(i+1) by omega];simpa using this
theorem Qps{w}{b r R J:Nat}(h:Jz w b r R J []):
  ZW 95 #[ZP b] w (.tuple #[.agg #[ZU 0,ZI 0,ZI 0,ZU 0],.bool false]) λw'=>Qc Qb w w':=by
 have N:=O (λo=>Qa9 (h.aB ((Zg Qb w).alloc o) (λh=>h) (λh=>h)));clear h;apply WH func95;go_wp2_with fail;apply Zz (N.o _);intro w1 d;have K:w.heap.size<w1.heap.size:=by have:=d.size;simp at this;omega
 have I:=(Qh.new w #[ZU 0,ZI 0,ZI 0,ZU 0] 31);have c:=d.blk I (λh=>h);have q:=c.cell 0;have u:=c.cell 1;have B:=c.cell 2;have E:=c.cell 3;have z:=c.frozen;simp at q u B E;have k:=O d;clear d I c;go_wp2;refine bodyPost_ret (v:=.tuple #[.agg #[ZU 0,ZI 0,ZI 0,ZU 0],.bool false]) (by simp[results,Tryz.results95,go_sem,K,q,u,B,E]) rfl ⟨rfl,?_⟩;have k:=k.o;refine((((Zg Qb w).alloc _).aA k))|>λh=>?_;(exact Z0)
theorem Qpt{w}{b r K Z:Nat}{p:Jr}{l:List Jr}(h:Jz w b r K Z (p::l)):
  Cl 95 #[ZP b] w λe w'=>e=.returned (.tuple #[.agg (ZL p),.bool true])/\
   Jz w' b r K Z l/\Qc (λk=>k=b) w w':=by
 have N:=O (λo=>Qba (h.aB ((Zg Qb w).alloc o) (λh=>h) (λh=>h)));have Xg:=h.lt;obtain⟨ne,p1,p2,b1,b2,m1,s1,J,L,f,U,q2,hf,hl,hL,hr⟩:=h;have gp:=J p (by simp);have s0:=Hd l (λq hq=>J q (by simp[hq]));obtain⟨ag,ah⟩:=gp;have hm:l.length<K:=by simp at m1;omega
 have ak:l.length+1<=L.length:=by simpa using hl
 have es:Jn (p::l)=p.len+Jn l:=rfl;rw[es]at s1 U;simp only[Zm]at U;have aa:=O (λ(W)(cs:Array Value)(I:cs=#[ZI K,ZI Z,.slice (some ⟨r,0,none⟩) L.length L.length,ZI (((f:Int)+1)%(L.length:Int)),ZI l.length,ZI (p.len+Jn l-p.len)])
   (B:Qh W b cs 155) (R:RowBlk Jr.cells W r L 31)=>show Jz W b r K Z l by
  have e1:((f:Int)+1)%(L.length:Int)=(((f+1)%L.length:Nat):Int):=by simp
  have e2:p.len+Jn l-p.len=Jn l:=by omega
  rw[e1,e2]at I;subst I;exact⟨ne,p1,p2,b1,b2,by omega,by omega,λq hq=>J q (by simp[hq]),L,(f+1)%L.length,B,R,Nat.mod_lt _ (by omega),by omega,hL,Qfk hr⟩)
 go_enter func95,ntmps95;go_wp2_with fail;refine Zz (N.o _) ?_;intro w1 d;have hc:=((Zg Qb w).alloc (.cells #[ZU 0,ZI 0,ZI 0,ZU 0] 31)).aA d;have hs:w.heap.size<w1.heap.size:=by have:=d.size;simp at this;omega
 have z0:=d.blk (Qh.new w #[ZU 0,ZI 0,ZI 0,ZU 0] 31) (λh=>h);have k0:=z0.cell 0;have k1:=z0.cell 1;have k2:=z0.cell 2;have k3:=z0.cell 3;have z:=z0.frozen;have c:=hc.blk U (λh=>h);have V:=hc.blk q2 (λh=>h);have d2:=c.cell 2;have d3:=c.cell 3;have d4:=c.cell 4;have d5:=c.cell 5;have dz:=c.frozen;simp at k0 k1 k2 k3 d2 d3 d4 d5;have ai:b<w1.heap.size:=by omega
 have af:¬w.heap.size=b:=by omega
 have ab:¬w1.heap.size=b:=by omega
 have ac:¬b=w.heap.size:=by omega
 have ae:¬b=w1.heap.size:=by omega
 have P:=O (λW(h2:W.cell? ⟨b,2,none⟩=w1.cell? ⟨b,2,none⟩)(h3:W.cell? ⟨b,3,none⟩=w1.cell? ⟨b,3,none⟩)=>Ml b f 1 (some ⟨r,0,none⟩) L.length L.length W (h2.trans d2) (h3.trans d3) (by omega) (by omega) (by omega) (by omega) (by omega) (by omega));have HC:=O (Zt hc (Zt d (Zt c V)));have HR:=O hr;have HG:=O J;have HQ:=O (Zt U (Zt q2 hl));clear hc d z0 c V hr J U q2 hl m1 es;go_wp2_with fail;refine Zz (P.o _ (by go_simp) (by go_simp)) ?_;rintro w2⟨k,rfl⟩;go_wp2;refine ZB [0,1,2,3,4,5,6,7,8,209] ?_;simp only[Z8,Zf,Ze,Zd];iterate 9 (refine Jq (h:=?_))
 try simp only[Act.put,Za,Zc,Zb]
 refine J7 ?_;go_wp2_with fail;refine Jo ?_;go_wp2;refine bodyPost_ret (v:=.tuple #[.agg (ZL p),.bool true]) (by simp[results,Tryz.results95,go_sem,hs,k0,k1,k2,k3]) rfl ⟨rfl,?_,?_⟩
 .have hn:¬((⟨w.heap.size,0,none⟩:Addr).block=b):=λh=>by simp at h;omega
  have B:=((((((((((HC.o.2.2.1.alloc (.cells (ZL p) 31)).drewN k).set 3 (ZI (((f:Int)+1)%(L.length:Int)))).set 4 (ZI l.length)).set 5 (ZI (p.len+Jn l-p.len))).other (a:=⟨w.heap.size,0,none⟩) (ZU p.id) hn).other (a:=⟨w.heap.size,1,none⟩) (ZI p.cls) hn).other (a:=⟨w.heap.size,2,none⟩) (ZI p.len) hn).other (a:=⟨w.heap.size,3,none⟩) (ZU p.at_) hn)).drew;have u:¬((⟨w.heap.size,0,none⟩:Addr).block=r):=λh=>by simp at h;omega
  have E:¬((⟨b,0,none⟩:Addr).block=r):=ne;have R:=((((((((((HC.o.2.2.2.alloc (.cells (ZL p) 31)).drewN k).other (a:=⟨b,3,none⟩) (ZI (((f:Int)+1)%(L.length:Int))) E).other (a:=⟨b,4,none⟩) (ZI l.length) E).other (a:=⟨b,5,none⟩) (ZI (p.len+Jn l-p.len)) E).other (a:=⟨w.heap.size,0,none⟩) (ZU p.id) u).other (a:=⟨w.heap.size,1,none⟩) (ZI p.cls) u).other (a:=⟨w.heap.size,2,none⟩) (ZI p.len) u).other (a:=⟨w.heap.size,3,none⟩) (ZU p.at_) u)).drew;exact aa.o _ _ (by simp) B R
 .have aj:Qc (λk=>k=b) w w1:=HC.o.1.mono λ_ h=>h.elim;(exact Z0)
theorem Qt7(c d:Nat)(w)(z:1<=c)(B:c<=4096)(E:1<=d)(I:d<=16777216):
  ZW 104 #[ZI c,ZI d] w (ZP (w.heap.size+1)) λw'=>Jz w' (w.heap.size+1) w.heap.size c d []/\Qc Qb w w':=by
 have i1:(1:Int)<=(c:Int):=by omega
 have i2:(c:Int)<=4096:=by omega
 have i3:(1:Int)<=(d:Int):=by omega
 have i4:(d:Int)<=16777216:=by omega
 have fin:∀(n:Nat)(W),1<=n->n<=4096->Qh W w.heap.size (Jm Jr.cells (List.replicate n Jr.zero)).toArray 31->Qh W (w.heap.size+1) #[ZI c,ZI d,.slice (some ⟨w.heap.size,0,none⟩) n n,ZI 0,ZI 0,ZI 0] 155->
   Jz W (w.heap.size+1) w.heap.size c d []:=λn W R U V J=>
  ⟨by omega,z,B,E,I,by simp,by simp[Jn],by simp,List.replicate n Jr.zero,0,by simpa[Jn]using J,V,by simp;omega,by simp,by simp;omega,λi K=>absurd K (by simp)⟩
 by_cases hp:4<=c
 .have mk:∀w:World,(Instr.makeSlice 58 (ZI 4) (ZI 4)).run prog w=.ok (.slice (some ⟨w.heap.size,0,none⟩) 4 4) (w.alloc (.cells (Jm Jr.cells (List.replicate 4 Jr.zero)).toArray 31)):=
   λw=>Gi pktT 4 (by omega) (by omega) w
  generalize q:(Jm Jr.cells (List.replicate 4 Jr.zero)).toArray=Z at mk;have u:=O q;have k:=O (fin 4);clear q fin;apply WH func104;go_wp2;go_ret;refine⟨rfl,k.o _ (by omega) (by omega) ?_ ?_,?_⟩;·rw[u.o];exact(Qh.new w Z 31).alloc _
  .exact Qh.new' _ _ (by simp)
  ·(exact Z0)
 .have mk:∀w:World,(Instr.makeSlice 58 (ZI c) (ZI c)).run prog w=.ok (.slice (some ⟨w.heap.size,0,none⟩) c c) (w.alloc (.cells (Jm Jr.cells (List.replicate c Jr.zero)).toArray 31)):=
   λw=>Gi pktT c (by omega) (by omega) w
  generalize q:(Jm Jr.cells (List.replicate c Jr.zero)).toArray=Z at mk;have u:=O q;have k:=O (fin c);clear q fin;apply WH func104;go_wp2;go_ret;refine⟨rfl,k.o _ (by omega) (by omega) ?_ ?_,?_⟩;·rw[u.o];exact(Qh.new w Z 31).alloc _
  .exact Qh.new' _ _ (by simp)
  ·(exact Z0)
theorem Qoq{T:Type}(L:List T)(z:T)(f m:Nat)(q:m=L.length-f)(k:f<L.length):
  (((List.replicate (2*L.length) z).take 0++L.drop f++(List.replicate (2*L.length) z).drop (0+(L.drop f).length)).take m++L.take f++
   ((List.replicate (2*L.length) z).take 0++L.drop f++(List.replicate (2*L.length) z).drop (0+(L.drop f).length)).drop (m+(L.take f).length))=L.drop f++L.take f++List.replicate L.length z:=by
 have c:(L.drop f).length=m:=by simp;omega
 have d:(L.take f).length=f:=by simp;omega
 simp only[List.take_zero,List.nil_append,Nat.zero_add,List.drop_replicate,c,d];rw[List.take_left' c,<-List.drop_drop,List.drop_left' c,List.drop_replicate,show 2*L.length-m-f=L.length by omega]
theorem Qpp{w}{b r:Nat}(c0 c1 c4 c5:Value)(L:List Jr)(f:Nat)(hf:f<L.length)(hL:L.length<=4096)(aa:b≠r)
  (u:Qh w b #[c0,c1,.slice (some ⟨r,0,none⟩) L.length L.length,ZI f,c4,c5] 155)(q2:RowBlk Jr.cells w r L 31):
  Cl 172 #[ZP b] w λe w'=>e=.returned (.tuple #[])/\
   Qh w' b #[c0,c1,.slice (some ⟨w.heap.size,0,none⟩) (2*L.length) (2*L.length),ZI 0,c4,c5] 155/\
   RowBlk Jr.cells w' w.heap.size (L.drop f++L.take f++List.replicate L.length Jr.zero) 31/\Qc (λk=>k=b) w w':=by
 have hb:=u.lt;have hr:=q2.lt;have d2:=u.cell 2;have d3:=u.cell 3;simp at d2 d3;have mk:∀w:World,(Instr.makeSlice 58 (ZI (2*(L.length:Int))) (ZI (2*(L.length:Int)))).run prog w=.ok (.slice (some ⟨w.heap.size,0,none⟩) (2*L.length) (2*L.length)) (w.alloc (.cells (Jm Jr.cells (List.replicate (2*L.length) Jr.zero)).toArray 31)):=
  λw=>by simpa using Gi pktT (2*L.length) (by omega) (by omega) w
 generalize hz:(Jm Jr.cells (List.replicate (2*L.length) Jr.zero)).toArray=Z at mk;have HZ:=O hz;have U:=O (Zt u q2);have f0:(0:Int)<=(f:Int):=by omega
 have f1:(f:Int)<=(L.length:Int):=by omega
 have f2:¬L.length=f:=by omega
 clear hz u q2;apply WH func172;go_wp2;apply XB 220000000000;apply YA 0;refine Dy pktT rfl (.tmp 11) (.tmp 20) rfl _ _ _ _ _ _ rfl rfl w.heap.size 0 (List.replicate (2*L.length) Jr.zero) 31 ?_ (L.drop f) ?_ ?_ ?_ ?_ ?_;·show Qh _ _ _ _;rw[HZ.o];exact(Qh.new w Z 31).drew
 .rw[List.length_drop];show _=min _ _;omega
 .intro _;rfl
 .have:=(RowBlk.row Jr.aF ((U.o.2.alloc (.cells Z 31)).drew)).drop f;simpa using this
 .simp;omega
 intro w1 R1 E;have d:Qc (λk=>k=b) w w1:=((((Zg (λk=>k=b) w).alloc (.cells Z 31)).drew).trans E (λk hk=>.inr (by omega)));have z:=E.blk (((U.o.1.alloc (.cells Z 31)).drew)) (by omega);have R2:=E.blk (((U.o.2.alloc (.cells Z 31)).drew)) (by omega);have V:=z.cell 2;have e3:=z.cell 3;simp at V e3;obtain⟨m,hm⟩:=Zx (L.length-f);have l0:(0:Int)<=(m:Int):=by omega
 have l1:(m:Int)<=2*(L.length:Int):=by omega
 have l2:m<2*L.length:=by omega
 have I:=O (Zt d (Zt z (Zt R1 R2)));clear d z R2 R1 E;simp only[List.length_drop];rw[<-hm];have R:=O hm;clear hm;go_wp2_with fail;apply YI 0;go_wp2;apply XB 2000000000000;apply YA 0;refine Dy pktT rfl (.tmp 24) (.tmp 33) rfl _ _ _ _ _ _ rfl rfl w.heap.size m _ 31 I.o.2.2.1.drew (L.take f) ?_ ?_ ?_ ?_ ?_;·rw[List.length_take];show _=min _ _;have:=R.o;omega
 .intro _;rw[if_neg (by omega)]
 .exact(RowBlk.row Jr.aF (Qh.drew I.o.2.2.2)).take f
 .have:=R.o;simp;omega
 intro w2 R3 J;have q:=(I.o.1.drew).trans (S':=λk=>k=w.heap.size) J (λk hk=>.inr (by omega));have c:=J.blk (I.o.2.1.drew) (by omega);have V:=c.cell 2;have e3:=c.cell 3;have ez:=c.frozen;simp at V e3;have K:=O (Zt q (Zt c R3));clear q c R3 J;go_wp2_with fail;refine Jo ?_;go_wp2;go_end0;refine⟨rfl,?_,?_,?_⟩;·have B:=(K.o.2.1.set 2 (.slice (some ⟨w.heap.size,0,none⟩) (2*L.length) (2*L.length))).set 3 (ZI 0);simpa using B
 .rw[<-Qoq L Jr.zero f m R.o hf];exact(Qh.other (Qh.other K.o.2.2 (a:=⟨b,2,none⟩) _ (by show b≠_;omega)) (a:=⟨b,3,none⟩) _ (by show b≠_;omega))
 .have:=K.o.1;(exact Z0)
def D8(d c:Nat)(l:List Jr)(p:Jr):Int:=
 if p.len<1\/65535<p.len then 100 else if l.length=d\/(c:Int)-Jn l<p.len then 110 else 0
theorem Qlu{w}{b r q B:Nat}{l:List Jr}(h:Jz w b r q B l)(p:Jr)(E:p.len<1\/65535<p.len):
  ZW 107 #[ZP b,.agg (ZL p)] w (ZI 100) λw'=>Qc Qb w w':=by
 have k:Cp p 65535=100:=by unfold Cp;rw[if_neg (by omega),if_pos (by omega)]
 have Xg:=h.lt;obtain⟨_,I,J,_,_,_,_,_,L,f,u,_⟩:=h;have c:=u.cell 0;simp at c;have N:=O (λo=>Hy b q (w.alloc o) (by rw[World.cell?_alloc_past _ _ _ Xg.1];exact c) (by omega));have M:=O (λw=>Rn p 65535 w);rw[k]at M;clear u k;apply WH func107;go_wp2_with fail;apply Zz (N.o _);rintro w1 rfl;go_wp2_with fail;apply ZD (M.o _);intro w2 z;go_wp2;go_ret;exact⟨rfl,((Zg _ _).alloc _).aA z.o⟩
theorem Qlt{w}{b r k z:Nat}{l:List Jr}(h:Jz w b r k z l)(p:Jr)(hp:1<=p.len)(aa:p.len<=65535)(c:l.length=k\/(z:Int)-Jn l<p.len):
  ZW 107 #[ZP b,.agg (ZL p)] w (ZI 110) λw'=>Qc Qb w w':=by
 have V:Cp p 65535=0:=by unfold Cp;rw[if_neg (by omega),if_neg (by omega)]
 have Xg:=h.lt;obtain⟨_,p1,p2,b1,b2,_,s1,R,L,f,B,_⟩:=h;have s0:=Hd l R;have K:=B.cell 0;simp at K;have N:=O (λo=>Hy b k (w.alloc o) (by rw[World.cell?_alloc_past _ _ _ Xg.1];exact K) (by omega));have M:=O (λw=>Rn p 65535 w);rw[V]at M;have Z:=Qh.new w (ZL p) 31;have Q:=B.alloc (.cells (ZL p) 31);have I:=O (Zt Z Q);have U:=Xg.1;clear B V Z Q R Xg;apply WH func107;go_wp2_with fail;apply Zz (N.o _);rintro w1 rfl;go_wp2_with fail;apply Zz (M.o _);intro w2 u;have J:=u.blk I.o.1 (λh=>h);have q:=u.blk I.o.2 (λh=>h);have z2:=J.cell 2;have k0:=q.cell 0;have k1:=q.cell 1;have k4:=q.cell 4;have k5:=q.cell 5;simp at z2 k0 k1 k4 k5;have E:=O u;clear u J q;by_cases d:l.length=k
 .have g:((l.length:Int)==(k:Int))=true:=by simp[d]
  have HL:=O d;have HF:=O c;clear d c;go_wp2;go_quiet (fail);go_wp2;go_ret;exact⟨rfl,(((Zg _ _).alloc _).aA E.o).drewN _⟩
 .have g:((l.length:Int)==(k:Int))=false:=by simp;omega
  have g2:decide ((z:Int)-Jn l<p.len)=true:=by
   rcases c with h|h;·exact absurd h d
   .simpa using h
  have HL:=O d;have HF:=O c;clear d c;go_wp2;go_quiet (fail);go_wp2;go_ret;exact⟨rfl,(((Zg _ _).alloc _).aA E.o).drewN _⟩
theorem Qfj{L:List Jr}{f:Nat}{l:List Jr}(h:Ow L f l)(p:Jr)(K:l.length<L.length):Ow (L.set ((f+l.length)%L.length) p) f (l++[p]):=by
 intro i E;have z:0<L.length:=by omega
 rw[List.length_set];by_cases k:i=l.length;·subst k;rw[List.getElem?_set_self (Nat.mod_lt _ z)];simp
 .have c:i<l.length:=by simp at E;omega
  rw[List.getElem?_append_left c,List.getElem?_set_ne,h i c];intro B;have q:=Nat.div_add_mod (f+l.length) L.length;have I:=Nat.div_add_mod (f+i) L.length;rw[B]at q;have J:L.length*((f+l.length)/L.length)=L.length*((f+i)/L.length)+(l.length-i):=by omega
  have u:L.length*((f+l.length)/L.length-(f+i)/L.length)=l.length-i:=by rw[Nat.mul_sub];omega
  rcases Nat.eq_zero_or_pos ((f+l.length)/L.length-(f+i)/L.length)with d|d;·rw[d]at u;omega
  .have:L.length*1<=L.length*((f+l.length)/L.length-(f+i)/L.length):=Nat.mul_le_mul_left _ d;omega
theorem Qd6{w}{r:Nat}{L:List Jr}{t:TypeId}(h:RowBlk Jr.cells w r L t)(i:Nat)(c:i<L.length)(p:Jr):
  RowBlk Jr.cells ((((w.setCell ⟨r,i*4,none⟩ (ZU p.id)).setCell ⟨r,i*4+1,none⟩ (ZI p.cls)).setCell ⟨r,i*4+2,none⟩ (ZI p.len)).setCell ⟨r,i*4+3,none⟩ (ZU p.at_)) r (L.set i p) t:=
 RowBlk.store Jr.aF h i c p
theorem Qim{W}{b r d c:Nat}{l:List Jr}{L:List Jr}{f:Nat}{p:Jr}(ne:b≠r)(p1:1<=d)(p2:d<=4096)(E:1<=c)(I:c<=16777216)(V:∀q∈l,Ll q)
  (U:f<L.length)(Z:l.length<L.length)(K:L.length<=8192)(hr:Ow L f l)(hm:l.length<d)(hp:1<=p.len)(u:p.len<=65535)(hs:p.len<=c-Jn l)
  (cs:Array Value)(k:cs=#[ZI d,ZI c,.slice (some ⟨r,0,none⟩) L.length L.length,ZI f,ZI ((l.length:Int)+1),ZI (Jn l+p.len)])
  (B:Qh W b cs 155) (R:RowBlk Jr.cells W r (L.set ((f+l.length)%L.length) p) 31):Jz W b r d c (l++[p]):=by
 have z:Jn (l++[p])=Jn l+p.len:=by rw[Tk];simp[Jn]
 have J:(((l++[p]).length:Nat):Int)=(l.length:Int)+1:=by simp
 subst k;refine⟨ne,p1,p2,E,I,by simp;omega,by rw[z];omega,?_,_,f,?_,R,by simpa using U,by simp;omega,by simpa using K,Qfj hr p Z⟩
 .intro q hq;rcases Zl.1 hq with h|h;·exact V q h
  .have:q=p:=by simpa using h
   subst this;exact⟨hp,u⟩
 .rw[z,J,List.length_set];exact B
theorem Qlv{w}{b r J U:Nat}{l:List Jr}{L:List Jr}{f:Nat}(p:Jr)(ne:b≠r)(p1:1<=J)(p2:J<=4096)(b1:1<=U)(b2:U<=16777216)(hg:∀q∈l,Ll q)
  (hf:f<L.length)(hl:l.length<L.length)(hL:L.length<=8192)(hr:Ow L f l)(hm:l.length<J)(hp:1<=p.len)(af:p.len<=65535)(hs:p.len<=U-Jn l)
  (q1:Qh w b #[ZI J,ZI U,.slice (some ⟨r,0,none⟩) L.length L.length,ZI f,ZI l.length,ZI (Jn l)] 155)
  (q2:RowBlk Jr.cells w r L 31):
  ZW 107 #[ZP b,.agg (ZL p)] w (ZI 0) λw'=>Jz w' b r J U (l++[p])/\Qc (λk=>k=b\/k=r) w w':=by
 have ab:Cp p 65535=0:=by unfold Cp;rw[if_neg (by omega),if_neg (by omega)]
 have ac:=O (λW cs ae B R=>Qim (W:=W) (p:=p) ne p1 p2 b1 b2 hg hf hl hL hr hm hp af hs cs ae B R);have s0:=Hd l hg;have hb:=q1.lt;have ah:=q2.lt;have c0:=q1.cell 0;simp at c0;have N:=O (λo=>Hy b J (w.alloc o) (by rw[World.cell?_alloc_past _ _ _ hb];exact c0) (by omega));have M:=O (λw=>Rn p 65535 w);rw[ab]at M;have HH:=O (Zt (Qh.new w (ZL p) 31) (Zt (q1.alloc (.cells (ZL p) 31)) (q2.alloc (.cells (ZL p) 31))));clear q1 q2 ab hg hr c0;apply WH func107;go_wp2_with fail;apply Zz (N.o _);rintro w1 rfl;go_wp2_with fail;apply Zz (M.o _);intro w2 V;have K:=V.blk HH.o.1 (λh=>h);have E:=V.blk HH.o.2.1 (λh=>h);have R2:RowBlk Jr.cells w2 r L 31:=V.blk HH.o.2.2 (λh=>h);have ai:w.heap.size<w2.heap.size:=by have:=V.size;simp at this;omega
 have z0:=K.cell 0;have z1:=K.cell 1;have z2:=K.cell 2;have z3:=K.cell 3;have k0:=E.cell 0;have k1:=E.cell 1;have k2:=E.cell 2;have k3:=E.cell 3;have k4:=E.cell 4;have k5:=E.cell 5;have kz:=E.frozen;have rz:=Qh.frozen R2;simp at z0 z1 z2 z3 k0 k1 k2 k3 k4 k5;have PL:=O (λW(h2:W.cell? ⟨b,2,none⟩=some (.slice (some ⟨r,0,none⟩) L.length L.length))(h3:W.cell? ⟨b,3,none⟩=some (ZI f))=>Ml b f (l.length:Int) (some ⟨r,0,none⟩) L.length L.length W h2 h3 (by omega) (by omega) (by omega) (by omega) (by omega) (by omega));obtain⟨d,z⟩:=Zx ((f+l.length)%L.length);have I:((f:Int)+(l.length:Int))%(L.length:Int)=(d:Int):=by rw[z];simp
 rw[I]at PL;have c:d<L.length:=by rw[z];exact Nat.mod_lt _ (by omega)
 have g1:((l.length:Int)==(J:Int))=false:=by simp;omega
 have g2:decide ((U:Int)-Jn l<p.len)=false:=by simp;omega
 have g3:((l.length:Int)==(L.length:Int))=false:=by simp;omega
 have n0:(0:Int)<=(d:Int):=by omega
 have n1:(d:Int)<(L.length:Int):=by omega
 have nb:¬r=b:=λh=>ne h.symm;have Z:=O (Zt V (Zt E R2));have aa:=O K;have RC:=O (λi(h:i<L.length)j u hu=>R2.cellAt Jr.aF i h j u hu);have ag:=RC.o d c 0 _ rfl;have aj:=RC.o d c 1 _ rfl;have ak:=RC.o d c 2 _ rfl;have al:=RC.o d c 3 _ rfl;simp only[Nat.add_zero]at ag;have HP:=O z;clear V K E R2 z I;go_wp2;go_quiet (fail);go_wp2;go_quiet (fail);go_wp2;apply YC [100,101,102,103,4,5,6,7,8,110,209,11,312] Qb w2;iterate 3 (refine Qy (h:=?_);try simp only[Act.put,Za,Zc,Zb])
 iterate 1 (apply YK λ_ hv=>Zt (Lf (hv.blk Z.o.2.1 (λh=>h))) (X9 (hv.blk aa.o (λh=>h))))
 iterate 5 (refine Xe (h:=?_))
 iterate 1 (apply YK λ_ hv=>Zt (Lf (hv.blk Z.o.2.1 (λh=>h))) (X9 (hv.blk aa.o (λh=>h))))
 apply YA 0;go_wp2_with fail;apply Zz (PL.o _ (by go_simp) (by go_simp));rintro w4⟨k,rfl⟩;go_wp2_with fail;refine⟨(Zg Qb w2).drewN _,?_⟩;apply YI 0;go_wp2_with fail;apply XB 2000000000;apply YI 0;go_wp2;go_ret;refine⟨rfl,?_,?_⟩
 .have e:=HP.o;rw[e]at c;subst e;exact ac.o _ _ (by simp) (Qh.drew (Qh.set (Qh.set (Qh.other (Qh.other (Qh.other (Qh.other (Qh.drewN Z.o.2.1 _) _ nb) _ nb) _ nb) _ nb) 4 _) 5 _))
   (Qh.drew (Qh.other (Qh.other (Qd6 (Qh.drewN Z.o.2.2 _) _ c p) _ ne) _ ne))
 .have h1:=Z.o.1;have h2:Qc (λk=>k=b\/k=r) w w2:=(((Zg _ w).alloc (.cells (ZL p) 31)).trans h1 λk h=>h.elim);(exact Z0)
theorem Qfi{L:List Jr}{f:Nat}{l:List Jr}(h:Ow L f l)(u:f<L.length)(B:l.length=L.length)(z:Jr):
  Ow (L.drop f++L.take f++List.replicate L.length z) 0 l:=by
 intro i d;have c:(L.drop f++L.take f++List.replicate L.length z).length=2*L.length:=by simp;omega
 have k:i<L.length:=by omega
 rw[c,Nat.zero_add,Nat.mod_eq_of_lt (by omega),List.getElem?_append_left (by simp;omega),<-h i d];by_cases q:i<L.length-f;·rw[List.getElem?_append_left (by simp;omega),List.getElem?_drop,Nat.mod_eq_of_lt (by omega)]
 .rw[List.getElem?_append_right (by simp;omega),List.getElem?_take,if_pos (by simp;omega)];congr 1;rw[show f+i=(f+i-L.length)+L.length by omega,Nat.add_mod_right,Nat.mod_eq_of_lt (by omega)];simp;omega
theorem Qio{w}{b r pk bt:Nat}{l:List Jr}{L:List Jr}{f:Nat}(p:Jr)(ne:b≠r)(p1:1<=pk)(p2:pk<=4096)(b1:1<=bt)(b2:bt<=16777216)(hg:∀q∈l,Ll q)
  (hf:f<L.length)(hl:l.length=L.length)(hL:L.length<=8192)(hr:Ow L f l)(hm:l.length<pk)(hp:1<=p.len)(ah:p.len<=65535)(hs:p.len<=bt-Jn l)
  (q1:Qh w b #[ZI pk,ZI bt,.slice (some ⟨r,0,none⟩) L.length L.length,ZI f,ZI l.length,ZI (Jn l)] 155)
  (q2:RowBlk Jr.cells w r L 31):
  ZW 107 #[ZP b,.agg (ZL p)] w (ZI 0) λw'=>∃r',w.heap.size<=r'/\Jz w' b r' pk bt (l++[p])/\Qc (λk=>k=b\/k=r) w w':=by
 have ac:Cp p 65535=0:=by unfold Cp;rw[if_neg (by omega),if_neg (by omega)]
 obtain⟨I,K⟩:=Zx (L.drop f++L.take f++List.replicate L.length Jr.zero);have c:I.length=2*L.length:=by rw[K];simp;omega
 have ae:Ow I 0 l:=by rw[K];exact Qfi hr hf hl _
 have af:=O (λW r'(ai:b≠r')cs ag B R=>Qim (W:=W) (r:=r') (L:=I) (f:=0) (p:=p) ai p1 p2 b1 b2 hg (by omega) (by omega) (by omega) ae hm hp ah hs cs ag B R);have s0:=Hd l hg;have hb:=q1.lt;have ak:=q2.lt;have c0:=q1.cell 0;simp at c0;have N:=O (λo=>Hy b pk (w.alloc o) (by rw[World.cell?_alloc_past _ _ _ hb];exact c0) (by omega));have M:=O (λw=>Rn p 65535 w);rw[ac]at M;have HH:=O (Zt (Qh.new w (ZL p) 31) (Zt (q1.alloc (.cells (ZL p) 31)) (q2.alloc (.cells (ZL p) 31))));have G:=O (λ(W)(q1:Qh W b #[ZI pk,ZI bt,.slice (some ⟨r,0,none⟩) L.length L.length,ZI f,ZI l.length,ZI (Jn l)] 155)
  (q2:RowBlk Jr.cells W r L 31)=>Qpp _ _ _ _ L f hf (by omega) ne q1 q2)
 rw[<-K]at G;have g1:((l.length:Int)==(pk:Int))=false:=by simp;omega
 have g2:decide ((bt:Int)-Jn l<p.len)=false:=by simp;omega
 have g3:((l.length:Int)==(L.length:Int))=true:=by simp;omega
 have i1:l.length<=L.length:=by omega
 have i2:L.length<=l.length:=by omega
 have HL:=O (Zt hl (Zt c K));clear q1 q2 ac hg hr c0 hl c K ae;apply WH func107;go_wp2_with fail;apply Zz (N.o _);rintro w1 rfl;go_wp2_with fail;apply Zz (M.o _);intro w2 hc;have Z2:=hc.blk HH.o.1 (λh=>h);have Q2:=hc.blk HH.o.2.1 (λh=>h);have R2:RowBlk Jr.cells w2 r L 31:=hc.blk HH.o.2.2 (λh=>h);have al:w.heap.size<w2.heap.size:=by have:=hc.size;simp at this;omega
 have z2:=Z2.cell 2;have k0:=Q2.cell 0;have k1:=Q2.cell 1;have k2:=Q2.cell 2;have k4:=Q2.cell 4;have k5:=Q2.cell 5;simp at z2 k0 k1 k2 k4 k5;have HC:=O (Zt hc (Zt Q2 (Zt R2 Z2)));clear hc Z2 Q2 R2;go_wp2;go_quiet (fail);go_wp2;go_quiet (fail);go_wp2_with fail;apply Zz (G.o _ (HC.o.2.1.drewN _) (Qh.drewN HC.o.2.2.1 _));rintro w3⟨V,R3,C3⟩;simp only[World.heap_drewN]at V R3;have am:w2.heap.size<w3.heap.size:=Qh.lt R3;clear z2 k0 k1 k2 k4 k5;have ab:Qc (λk=>k=b\/k=r) w w3:=((((Zg _ w).alloc (.cells (ZL p) 31)).trans HC.o.1 (λk h=>h.elim)).drewN _).trans C3 (λk h=>.inl (.inl h));have Z3:Qh w3 w.heap.size (ZL p) 31:=C3.blk (HC.o.2.2.2.drewN _) (by omega);have z0:=Z3.cell 0;have z1:=Z3.cell 1;have z2:=Z3.cell 2;have z3:=Z3.cell 3;have k2:=V.cell 2;have k3:=V.cell 3;have k4:=V.cell 4;have k5:=V.cell 5;have kz:=V.frozen;have rz:=Qh.frozen R3;simp at z0 z1 z2 z3 k2 k3 k4 k5;have c:=HL.o.2.1;rw[<-c]at k2;have PL:=O (λW(h2:W.cell? ⟨b,2,none⟩=some (.slice (some ⟨w2.heap.size,0,none⟩) I.length I.length))(h3:W.cell? ⟨b,3,none⟩=some (ZI 0))=>Ml b 0 (l.length:Int) (some ⟨w2.heap.size,0,none⟩) I.length I.length W h2 h3 (by omega) (by omega) (by omega) (by omega) (by omega) (by omega));obtain⟨z,E⟩:=Zx ((0+l.length)%I.length);have Z:((0:Int)+(l.length:Int))%(I.length:Int)=(z:Int):=by rw[E];simp
 rw[Z]at PL;have d:z<I.length:=by rw[E];exact Nat.mod_lt _ (by omega)
 have n0:(0:Int)<=(z:Int):=by omega
 have n1:(z:Int)<(I.length:Int):=by omega
 have U:b≠w2.heap.size:=by omega
 have nb:¬w2.heap.size=b:=λh=>U h.symm;have RC:=O (λi(h:i<I.length)j u hu=>R3.cellAt Jr.aF i h j u hu);have aj:=RC.o z d 0 _ rfl;have an:=RC.o z d 1 _ rfl;have ao:=RC.o z d 2 _ rfl;have ap:=RC.o z d 3 _ rfl;simp only[Nat.add_zero]at aj;have HP:=O E;have J:=O (Zt ab (Zt V R3));have H2:=O c;have aa:=O Z3;clear V R3 C3 ab Z3 E Z c;go_wp2;apply YC [100,101,102,103,4,5,6,7,8,110,209,11,312] Qb w3;iterate 3 (refine Qy (h:=?_);try simp only[Act.put,Za,Zc,Zb])
 iterate 1 (refine Qy (by kernel_rfl) (λwv hv=>by(obtain⟨y0,y1,y2,y3,y4,y5⟩:=Lf (hv.blk J.o.2.1 (λh=>h));rw[<-H2.o]at y2;have u0:=X9 (hv.blk aa.o (λh=>h)));go_simp;try rfl) ?_;try simp only[Act.put,Za,Zc,Zb])
 iterate 5 (refine Xe (h:=?_))
 iterate 1 (refine Qy (by kernel_rfl) (λwv hv=>by(obtain⟨y0,y1,y2,y3,y4,y5⟩:=Lf (hv.blk J.o.2.1 (λh=>h));rw[<-H2.o]at y2;have u0:=X9 (hv.blk aa.o (λh=>h)));go_simp;try rfl) ?_;try simp only[Act.put,Za,Zc,Zb])
 apply YA 0;go_wp2_with fail;apply Zz (PL.o _ (by go_simp) (by go_simp));rintro w4⟨k,rfl⟩;go_wp2_with fail;refine⟨(Zg Qb w3).drewN _,?_⟩;apply YI 0;go_wp2_with fail;apply XB 2000000000;apply YI 0;go_wp2;go_ret;refine⟨rfl,w2.heap.size,by omega,?_,?_⟩
 .have e:=HP.o;rw[e]at d;subst e;exact af.o _ _ U _ (by simp[H2.o]) (Qh.drew (Qh.set (Qh.set (Qh.other (Qh.other (Qh.other (Qh.other (Qh.drewN J.o.2.1 _) _ nb) _ nb) _ nb) _ nb) 4 _) 5 _))
   (Qh.drew (Qh.other (Qh.other (Qd6 (Qh.drewN J.o.2.2 _) _ d p) _ U) _ U))
 .have h1:=J.o.1;(exact Z0)
theorem Qsj{w}{b r I d:Nat}{l:List Jr}(h:Jz w b r I d l)(p:Jr)(z:D8 I d l p=0):
  ZW 107 #[ZP b,.agg (ZL p)] w (ZI 0) λw'=>∃c,(c=r\/w.heap.size<=c)/\Jz w' b c I d (l++[p])/\Qc (λk=>k=b\/k=r) w w':=by
 unfold D8 at z;split at z;·omega
 .split at z;·omega
  .rename_i h1 h2;obtain⟨ne,p1,p2,J,K,m1,s1,R,L,f,q1,q2,V,hl,U,Z⟩:=h;by_cases hg:l.length=L.length;·refine(Qio p ne p1 p2 J K R V hg U Z (by omega) (by omega) (by omega) (by omega) q1 q2).mono ?_;rintro e w'⟨u,c,E,B,q⟩;exact⟨u,c,.inr E,B,q⟩
   .refine(Qlv p ne p1 p2 J K R V (by omega) U Z (by omega) (by omega) (by omega) (by omega) q1 q2).mono ?_;rintro e w'⟨u,B,q⟩;exact⟨u,r,.inl rfl,B,q⟩
theorem Qsi{w}{b r q d:Nat}{l:List Jr}(h:Jz w b r q d l)(p:Jr)(k:D8 q d l p≠0):
  ZW 107 #[ZP b,.agg (ZL p)] w (ZI (D8 q d l p)) λw'=>Qc Qb w w':=by
 unfold D8 at*;split at k;·rename_i c;rw[if_pos c];exact Qlu h p c
 .rename_i c;rw[if_neg c];split at k;·rename_i u;rw[if_pos u];exact Qlt h p (by omega) (by omega) u
  .exact absurd rfl k
theorem Qpo{w}{b r E B:Nat}{l:List Jr}(h:Jz w b r E B l):
  ZW 73 #[ZP b] w (ZP w.heap.size) λw'=>Jz w' w.heap.size (w.heap.size+1) E B l/\Qc Qb w w':=by
 have Xg:=h.lt;obtain⟨ne,p1,p2,b1,b2,m1,s1,R,L,f,c,q2,hf,hl,hL,U⟩:=h;have c0:=c.cell 0;have c1:=c.cell 1;have c2:=c.cell 2;have c3:=c.cell 3;have c4:=c.cell 4;have c5:=c.cell 5;simp at c0 c1 c2 c3 c4 c5;have mk:∀w:World,(Instr.makeSlice 58 (ZI L.length) (ZI L.length)).run prog w=.ok (.slice (some ⟨w.heap.size,0,none⟩) L.length L.length) (w.alloc (.cells (Jm Jr.cells (List.replicate L.length Jr.zero)).toArray 31)):=
  λw=>Gi pktT L.length (by omega) (by omega) w
 generalize V:(Jm Jr.cells (List.replicate L.length Jr.zero)).toArray=Z at mk;have hb:=Xg.1;have aa:=Xg.2;have d:=O (Zt U (Zt c (Zt q2 (Zt R V))));clear U c q2 R V Xg;apply WH func73;go_wp2;apply XB 2000000;apply YA 0;refine Dy pktT rfl (.tmp 17) (.tmp 21) rfl _ _ _ _ _ _ rfl rfl (w.heap.size+1) 0 (List.replicate L.length Jr.zero) 31 ?_ L ?_ ?_ ?_ ?_ ?_;·show Qh _ _ _ _;rw[d.o.2.2.2.2];exact(Qh.new' Z 31 (by simp)).drew
 .show _=min _ _;omega
 .intro _;rfl
 .exact RowBlk.row Jr.aF (Qh.drew (Qh.alloc (Qh.alloc d.o.2.2.1 _) _))
 .simp
 intro w1 z q;have K:(List.replicate L.length Jr.zero).take 0++L++(List.replicate L.length Jr.zero).drop (0+L.length)=L:=by simp
 rw[K]at z;have I:=q.blk (Qh.drew (Qh.alloc (Qh.new w #[ZI E,ZI B,.slice (some ⟨w.heap.size+1,0,none⟩) L.length L.length,ZI f,ZI l.length,ZI (Jn l)] 155) (.cells Z 31))) (by omega);have J:Qc Qb w w1:=((((Zg Qb w).alloc _).alloc _).drew).trans q (λk hk=>.inr (by omega));have u:=O (Zt I (Zt z J));clear I z J q K;go_wp2_with fail;refine Jo ?_;go_wp2;go_ret;exact⟨rfl,⟨by omega,p1,p2,b1,b2,m1,s1,d.o.2.2.2.1,L,f,u.o.1,u.o.2.1,hf,hl,hL,d.o.1⟩,u.o.2.2⟩
section
open Go.Shelf
section
variable{P:Program}{n:Nat}{w:World}{X:Type}
theorem Qz4{S:Fp}{A B}(h:Qc S A B){l:Nat}(o:Obj)(c:S l):Qc S A (B.putObj l o):=h.grown (grownBy_putObj' B l o) λk e=>.inl (by cases e;exact c)
theorem Qz9{g:Operand}{ps:Array Tmp}{u:Code}{Q:Exit->Act->World->Prop}{a:Act}(h1:1<=n){gf:Nat}{lb:Array Value}(hg:a.eval g=.func (.func gf) #[] lb)
  (eg:∀args w,(callFunc gf args).run P w=.ok (.enter gf args) w) (enc:X->Array Value) (ai:∀x,(enc x).size=ps.size) (U:Fp) (hU:∀k,U k->k<w.heap.size) (V R:World->Prop) (af:V w) (hV:∀A B,V A->Qc (λk=>¬U k) A B->V B)
  (ae:∀(l:Nat)(J:World->Prop)(W),Qc Qb w W->w.heap.size+2<=W.heap.size->(∀A B,J A->Qc (λk=>¬U k/\k≠w.heap.size/\k≠w.heap.size+1) A B->J B)->
   (∀x A,J A->YieldAt Fence.wide (n-1-1) P l (enc x) A λe B=>e=.returned (.bool true)/\J B/\Qc (λk=>U k\/k=w.heap.size+1) A B)->J W->
   CallsIn Fence.wide (n-1) P gf (#[.func (.yield l) #[] #[]]++lb) W λe Z=>(∃v,e=.returned v)/\J Z/\R Z)
  (E:∀(l:Nat)(x:X)(A),V A->u.wpIn (Fence.wide.inRound l) (n-1-1) P (λe _ B=>e=.normal/\V B/\Qc U A B) {tmps:=(ps.zip (enc x)).foldl (λt(p,v)=>t.setIfInBounds p v) a.tmps,defers:=[]} A)
  (I:∀Z z,R Z->V Z->Qc (λk=>k=w.heap.size+1) Z z->z.heap[w.heap.size]? =some (.deferred (some []))->Q .normal {a with defers:={target:=.collected w.heap.size,args:=#[]}::a.defers} z):
  (Code.rangeFunc g ps .skip u).wpIn Fence.wide n P Q a w:=by
 refine wpIn_rangeFunc λfn ah=>?_;obtain⟨d,q⟩:∃d:LoopState->Option Code->Loop,d=λst pe=>{state:=st,pending:=pe,fn,tmps:=a.tmps,params:=ps,assign:=.skip,body:=u,defers:=w.heap.size}:=⟨_,rfl⟩;obtain⟨W,hW⟩:∃W,(w.alloc (.deferred (some []))).alloc (.loop (d .ready none))=W:=⟨_,rfl⟩;have cW:Qc Qb w W:=by rw[<-hW];exact((Zg _ _).alloc _).alloc _
 have aj:W.heap.size=w.heap.size+2:=by rw[<-hW];simp
 have hL:W.heap[w.heap.size+1]? =some (.loop (d .ready none)):=by rw[<-hW];have:=World.alloc_heap_new (w.alloc (.deferred (some []))) (.loop (d .ready none));rwa[World.size_alloc]at this
 have hD:W.heap[w.heap.size]? =some (.deferred (some [])):=by
  have h2:Qc Qb (w.alloc (.deferred (some []))) W:=by rw[<-hW];exact(Zg _ _).alloc _
  exact h2.heap (World.alloc_heap_new w _) (λh=>h)
 refine⟨w.heap.size+1,[{target:=.collected w.heap.size,args:=#[]}],W,{target:=.fn (.func gf) lb,args:=#[.func (.yield (w.heap.size+1)) #[] #[]]},W,gf,#[.func (.yield (w.heap.size+1)) #[] #[]]++lb,W,?_,?_,?_,?_,λ_=>h1,?_⟩;·rw[<-hW,q];exact run_enterLoop_outer _ _ _ _ _
 .simp only[resolve,hg];simp[go_sem]
 .exact λ_ _=>trivial
 .simp[invoke,go_sem,eg]
 .refine(ae (w.heap.size+1) (λA=>V A/\A.heap[w.heap.size+1]? =some (.loop (d .ready none))/\A.heap[w.heap.size]? =some (.deferred (some []))) W cW (by omega) ?_ ?_ ⟨hV _ _ af (cW.mono λk h=>h.elim),hL,hD⟩).mono ?_;·rintro A B⟨v,K,hd⟩c;exact⟨hV A B v (c.sub λk h=>h.1),c.heap K (λh=>h.2.2 rfl),c.heap hd (λh=>h.2.1 rfl)⟩
  .rintro x A⟨v,K,hd⟩;have hy:=run_yield (P:=P) (args:=enc x) K (by rw[q];exact ai x);rw[q]at hy;refine⟨fn,_,.skip,u,hy,roundIn_of_wpIn ah (wpIn_skip ?_)⟩;clear hy;have hb:=run_beginRound (P:=P) K (by rw[q]);have c1:Qc (λk=>k=w.heap.size+1) A (A.putObj (w.heap.size+1) (.loop {d .ready none with state:=.busy})):=Qz4 (Zg _ _) _ rfl;have Xg:w.heap.size+1<A.heap.size:=(Z2.1 K).1;have ab:(A.putObj (w.heap.size+1) (.loop {d .ready none with state:=.busy})).heap[w.heap.size+1]? =some (.loop {d .ready none with state:=.busy}):=World.putObj_heap_same Xg;have aa:=c1.heap hd (λh=>by omega);have v2:=hV _ _ v (c1.sub (F:=λk=>¬U k) λk h hu=>by have:=hU k hu;omega);refine⟨_,hb,?_⟩;generalize A.putObj (w.heap.size+1) (.loop {d .ready none with state:=.busy})=A2 at c1 ab aa v2;refine wpIn_mono (E _ x A2 v2) ?_;rintro e a3 B⟨rfl,v3,c3⟩;have ac:=c3.heap ab (λh=>by have:=hU _ h;omega);have ag:=c3.heap aa (λh=>by have:=hU _ h;omega);have hr:=run_endRound (P:=P) none ac;have c4:Qc (λk=>k=w.heap.size+1) B (B.putObj (w.heap.size+1) (.loop {d .ready none with state:=.ready,pending:=none})):=Qz4 (Zg _ _) _ rfl;refine⟨_,_,hr,rfl,⟨hV _ _ v3 (c4.sub (F:=λk=>¬U k) λk h hu=>by have:=hU k hu;omega),?_,c4.heap ag (λh=>by omega)⟩,((c1.sub λk h=>.inr h).aA (c3.sub λk h=>.inl h)).aA (c4.sub λk h=>.inr h)⟩;have:=World.putObj_heap_same (w:=B) (o:=.loop {d .ready none with state:=.ready,pending:=none}) (Z2.1 ac).1;rw[q]at this|-;exact this
  .rintro e W2⟨⟨v,rfl⟩,⟨vv,K,hd⟩,r⟩;have hr:=run_endLoop (P:=P) K (by rw[q];simp);have c5:∀o,Qc (λk=>k=w.heap.size+1) W2 (W2.putObj (w.heap.size+1) (.loop o)):=λo=>Qz4 (Zg _ _) _ rfl;refine⟨none,_,by rw[hr,q],?_⟩;exact I W2 _ r vv (c5 _) ((c5 _).heap hd (λh=>by omega))
end
end
end Go.Proofs.YtigcnnkagkbflaaGreat
