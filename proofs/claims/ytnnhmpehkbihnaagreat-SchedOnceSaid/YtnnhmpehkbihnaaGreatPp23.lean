/- A part of the proof: no condition. -/
import Derived.Test.YtnnhmpehkbihnaaGreatPp22
import Derived.Laws.MakeOwn
namespace Go.Proofs.YtnnhmpehkbihnaaGreat
set_option linter.unusedVariables false
set_option maxRecDepth 100000
set_option maxHeartbeats 4000000
open Go.RowKit
open Go.Proofs.Tryz
section
variable{N M:Nat}{s:Qg}
theorem Qoe(l:List Z4)(p:Z4):Q0 (l++[p])=Q0 l+p.len:=by rw[Do];simp[Q0]
theorem Qq7{n most:Int}(h:Gb n most=0):1≤n∧n≤most∧most≤65535:=by
 unfold Gb at h;split at h;·cases h
 ·split at h;·cases h
  ·omega
theorem Qbm{p:Z4}(h0:s.pushE p=0):∃c l,s.tree.at p.cls=some c∧c.sp.leaf=true∧(1≤p.len∧p.len≤s.most∧s.most≤65535)∧s.leaf p.cls=some l∧¬(l.q.length=l.pk∨(l.bt:Int)-Q0 l.q<p.len):=by
 unfold Qg.pushE at h0;cases hc:s.tree.at p.cls with
 |none=>rw[hc]at h0;cases h0
 |some c=>
  rw[hc]at h0;dsimp only at h0;split at h0;·cases h0
  ·rename_i h1;split at h0;·rename_i d;exact absurd h0 d
   ·rename_i d;cases hl:s.leaf p.cls with
    |none=>rw[hl]at h0;cases h0
    |some l=>
     rw[hl]at h0;dsimp only at h0;split at h0;·cases h0
     ·rename_i k;exact⟨c,l,rfl,by simpa using h1,Qq7 (by simpa using d),rfl,k⟩
theorem Qq8(l:Qy):s.setLeaf l={s with leaves:=Dc Qy.id l s.leaves}:=rfl
theorem En(l:Qy)(f:Jq→Jq):s.owe l f={s with leaves:=Dc Qy.id {l with debt:=l.debt.map f} s.leaves,row:=match l.debt with
  |none=>s.row
  |some d=>Hb s.row l.id (f d)}:=by
 obtain⟨i,pk,bt,q,debt⟩:=l;unfold Qg.owe;cases debt with
 |none=>rfl
 |some d=>rfl
theorem Qdr{p:Z4}{now:Nat}{l:Qy}(h0:s.pushE p=0)(hl:s.leaf p.cls=some l):
  s.push p now=if l.q≠[]then s.setLeaf {l with q:=l.q++[p]}else{s.owe {l with q:=l.q++[p]} (fun d=>d.wake now p.len)with pick:=s.pick.wake p.cls now}:=by
 unfold Qg.push;rw[if_pos h0,hl];dsimp only;split;·rfl
 ·rw[En]
theorem X6.offpath(h:X6 N s){i j:Int}{x:Qv}(u:s.pick.at j=some x)(hl:x.leaf=true)(k:j≠i):j∉s.pick.path 9 i:=fun q=>by obtain⟨c,hc,d⟩:=Qbj h.pick h.pinv.inn q k;rw[u]at hc;obtain rfl:=Option.some.inj hc;rw[hl]at d;cases d
theorem Qof{a b:Bool}(h:a=true↔b=true):a=b:=by cases a<;>cases b<;>simp_all
theorem X6.push(h:X6 N s){p:Z4}(now:Nat)(h0:s.pushE p=0):X6 (N+16) (s.push p now):=by
 obtain⟨c,l,hc,ag,ae,hl,ah⟩:=Qbm h0;obtain⟨k,U,_⟩:=h.at hl;obtain⟨c',J,_,c2,c3,c4,c5⟩:=k.sp;rw[U]at J c5;rw[hc]at J;obtain rfl:=Option.some.inj J;have ak:=k.many;have al:=k.held;have h1:(l.q++[p]).length≤l.pk:=by simp;omega
 have h2:Q0 (l.q++[p])≤l.bt:=by rw[Qoe];omega
 have h3:∀x∈l.q++[p],Uc x∧x.cls=p.cls:=fun x E=>by
  rcases List.mem_append.1 E with E|E;·have:=k.good x E;exact⟨this.1,this.2.trans U⟩
  ·obtain rfl:x=p:=by simpa using E
   exact⟨⟨ae.1,by omega⟩,rfl⟩
 rw[Qdr h0 hl];by_cases Z:l.q=[]
 ·rw[if_neg (by simpa using Z),En];have ac:=h.pick.wake p.cls now;obtain⟨pv,pm,ab⟩:=h.pinv.wake h.pick p.cls now;have am:=h.tree.pos hc;obtain⟨x,E,_,x2,x3,_⟩:=h.mt.fwd h.tree hc;refine X6.upd (l:=l) (l':={l with q:=l.q++[p],debt:=l.debt.map fun d=>d.wake now p.len}) h (by omega) hl U rfl rfl (by simp) h1 h2 h3 (fun d z=>?_) ac.1 pv (h.mt.same ac.2 pm) (fun j y B aj hj=>?_) (fun y B=>?_) (fun a j b=>?_)
  ·dsimp only at z;cases Gk:l.debt with
   |none=>rw[Gk]at z;cases z
   |some d0=>
    rw[Gk]at z;have ai:d0.wake now p.len=d:=Option.some.inj z;subst ai;obtain⟨g1,g2,K⟩:=k.debt d0 Gk;rw[Z]at K;have K:d0.awake=false:=by simpa using K
    unfold Jq.wake;rw[if_neg (by simp[K])];refine⟨g1,?_,by simp⟩;dsimp only;rw[Oe];omega
  ·refine Qof ((ab j).trans ⟨fun R=>R.elim id fun hh=>absurd hh.1 ?_,.inl⟩);exact h.offpath B aj hj
  ·rw[hc]at B;obtain rfl:=Option.some.inj B;have e0:s.pick.awake p.cls=false:=by rw[c5,Z];simp
   have:decide (l.q++[p]≠[])=true:=by simp
   dsimp only;rw[this,Bool.and_true];refine Qof ((ab p.cls).trans ⟨fun R=>?_,fun hs=>.inr ⟨Qae E (by omega),⟨x,E,x3.trans hs⟩,x,E,by omega,x2.trans ag,x3.trans hs⟩⟩);rcases R with R|⟨_,⟨y,B,af⟩,_⟩;·rw[e0]at R;cases R
   ·rw[E]at B;obtain rfl:=Option.some.inj B;exact x3.symm.trans af
  ·dsimp only;cases Gk:l.debt with
   |none=>
    dsimp only;rw[h.row];by_cases e:j=p.cls;·rw[if_pos e,e];refine⟨fun⟨l0,d,I,z,_⟩=>?_,fun⟨d,z,_⟩=>(by cases z)⟩;have u:s.leaf p.cls=some l0:=I;rw[hl]at u;obtain rfl:=Option.some.inj u;rw[Gk]at z;cases z
    ·rw[if_neg e]
   |some d0=>
    dsimp only;rw[Qel];rw[U];by_cases e:j=p.cls;·rw[if_pos e,if_pos e];simp
    ·rw[if_neg e,if_neg e]
 ·rw[if_pos (by simpa using Z),Qq8];have V:decide (l.q++[p]≠[])=true:=by simp
  have aa:decide (l.q≠[])=true:=by simpa using Z
  refine X6.upd (l:=l) (l':={l with q:=l.q++[p]}) (row':=s.row) (p':=s.pick) h (by omega) hl U rfl rfl rfl h1 h2 h3 (fun d z=>?_) (h.pick.more (by omega)) h.pinv h.mt (fun _ _ _ _ _=>rfl) (fun y B=>?_) (fun a j b=>?_);·obtain⟨g1,g2,K⟩:=k.debt d z;exact⟨g1,by omega,by dsimp only;rw[K,V,aa]⟩
  ·rw[hc]at B;obtain rfl:=Option.some.inj B;dsimp only;rw[c5,V,aa]
  ·rw[h.row];by_cases e:j=p.cls;·rw[if_pos e,e];refine⟨fun⟨l0,d,I,z⟩=>?_,fun⟨d,z⟩=>⟨l,d,hl,z⟩⟩;have u:s.leaf p.cls=some l0:=I;rw[hl]at u;obtain rfl:=Option.some.inj u;exact⟨d,z⟩
   ·rw[if_neg e]
theorem Qhj{p:Qe}{dep:Int→Nat}(ok:Qp dep N p)(u:Uw p)(now:Nat):∀(n:Nat)(i j:Int),p.next now n i=some j→(∃c,p.at j=some c∧c.leaf=true)∧(j=i∨p.awake j=true)
 |0,i,j,h=>by rw[Qe.next]at h;cases h
 |n+1,i,j,h=>by
  rw[Qe.next]at h;cases hc:p.at i with
  |none=>rw[hc]at h;cases h
  |some c=>
   rw[hc]at h;dsimp only at h;by_cases hl:c.leaf=true;·rw[if_pos hl]at h;obtain rfl:=Option.some.inj h;exact⟨⟨c,hc,hl⟩,.inl rfl⟩
   ·rw[if_neg hl]at h;cases q:Xf now c.tree with
    |none=>rw[q]at h;cases h
    |some e=>
     rw[q]at h;dsimp only at h;obtain⟨a,k,b⟩:=e;have z:(a,k,b)∈c.tree:=List.mem_of_find?_eq_some q;have B:=((u.ent k i c hc a b).1 z).2.1;obtain⟨h1,d⟩:=Qhj ok u now n k j h;refine⟨h1,.inr ?_⟩;rcases d with rfl|d;·exact B
     ·exact d
theorem Qut{l:List J6}{x:Nat×Int}(h:low l=some x):∃a,(a,x.2,x.1)∈l:=by obtain⟨⟨a,i,b⟩,c,e⟩:=Qkk h;exact⟨a,by rw[e];exact c⟩
theorem X6.who(h:X6 N s){now:Nat}{id:Int}{rule:Nat}(k:s.who now=some (id,rule)):
  ∃l,s.leaf id=some l∧l.q≠[]∧(rule=1∨rule=2):=by
 unfold Qg.who at k;cases ha:Xb now s.row with
 |some x=>
  rw[ha]at k;obtain⟨e1,z⟩:=Prod.mk.inj (Option.some.inj k);unfold Xb at ha;obtain⟨a,K⟩:=Qut ha;obtain⟨l,d,hl,U,I,_⟩:=(h.row a x.2 x.1).1 (List.mem_filter.1 K).1;have u:s.leaf id=some l:=by rw[←e1];exact hl
  refine⟨l,u,?_,.inl z.symm⟩;have:=((h.at u).1.debt d U).2.2;rw[I]at this;exact of_decide_eq_true this.symm
 |none=>
  rw[ha]at k;dsimp only at k;cases hn:s.pick.next now 10 0 with
  |none=>rw[hn]at k;cases k
  |some j=>
   rw[hn]at k;obtain⟨e1,z⟩:=Prod.mk.inj (Option.some.inj k);obtain⟨⟨c,hc,q⟩,B⟩:=Qhj h.pick h.pinv now 10 0 j hn;have J:s.pick.awake j=true:=by
    rcases B with rfl|B;·obtain⟨r,hr,E,_⟩:=h.mt.root;rw[hr]at hc;obtain rfl:=Option.some.inj hc;rw[E]at q;cases q
    ·exact B
   obtain⟨_,l,_,_,hl,R⟩:=h.busy hc q J;exact⟨l,by rw[←e1];exact hl,R,.inr z.symm⟩
theorem Qds{id:Int}{rule:Nat}{l:Qy}(hl:s.leaf id=some l):
  s.take id rule={s.owe {l with q:=l.q.tail} (fun d=>d.serve rule (l.q.headD Z4.zero).len (l.q.tail.headD Z4.zero).len)with pick:=s.pick.sent id ((l.q.headD Z4.zero).len*256).toNat (decide (l.q.tail≠[]))}:=by
 unfold Qg.take;rw[hl];dsimp only;rw[En]
theorem X6.take(h:X6 N s){id:Int}(rule:Nat){l:Qy}(hl:s.leaf id=some l)(hq:l.q≠[]):X6 (N+16) (s.take id rule):=by
 obtain⟨k,ki,_⟩:=h.at hl;obtain⟨c,hc,af,c2,c3,c4,c5⟩:=k.sp;rw[ki]at hc c5;rw[Qds hl,En];obtain⟨x,t,E⟩:∃x t,l.q=x::t:=by
  cases ai:l.q with
  |nil=>exact absurd ai hq
  |cons x t=>exact⟨x,t,rfl⟩
 have u:=k.good;rw[E]at u;have J:=k.many;have K:=k.held;rw[E]at J K;simp only[List.length_cons,Q0]at J K;have aj:=(u x (by simp)).1.1;have aa:=h.pick.sent id ((l.q.headD Z4.zero).len*256).toNat (decide (l.q.tail≠[]));obtain⟨pv,pm,ac,B,Z⟩:=h.pinv.sent h.pick id ((l.q.headD Z4.zero).len*256).toNat (decide (l.q.tail≠[]));have ab:decide (l.q≠[])=true:=by simpa using hq
 have U:∀I,l.debt=some I→(I.serve rule (l.q.headD Z4.zero).len (l.q.tail.headD Z4.zero).len).got≤Jz∧(I.serve rule (l.q.headD Z4.zero).len (l.q.tail.headD Z4.zero).len).run.l.length≤N+16∧(I.serve rule (l.q.headD Z4.zero).len (l.q.tail.headD Z4.zero).len).awake=decide (l.q.tail≠[]):=fun I Gk=>by
  obtain⟨g1,g2,g3⟩:=k.debt I Gk;rw[ab]at g3;unfold Jq.serve;rw[if_neg (by simp[g3])];refine⟨?_,by show I.run.l.length≤_;omega,?_⟩
  ·dsimp only;split;·exact Nat.min_le_right _ _
   ·exact g1
  ·show decide (1≤(l.q.tail.headD Z4.zero).len)=_;rw[E];cases t with
   |nil=>rfl
   |cons y t=> have:=(u y (by simp)).1.1;simp[this]
 refine X6.upd (l:=l) (l':={l with q:=l.q.tail,debt:=l.debt.map fun d=>d.serve rule (l.q.headD Z4.zero).len (l.q.tail.headD Z4.zero).len}) h (by omega) hl ki rfl rfl (by simp) (by simp[E];omega) (by simp[E];omega)
  (fun y hy=>by
   have:=k.good y (by rw[E]at hy⊢;exact List.mem_cons_of_mem _ hy);exact⟨this.1,this.2.trans ki⟩) (fun d R=>?_) aa.1 pv (h.mt.same aa.2 pm) (fun j y hy ah hj=>B j (.inl (h.offpath hy ah hj))) (fun y hy=>?_) (fun a j b=>?_)
 ·dsimp only at R;cases Gk:l.debt with
  |none=>rw[Gk]at R;cases R
  |some I=> rw[Gk]at R;have ag:I.serve rule (l.q.headD Z4.zero).len (l.q.tail.headD Z4.zero).len=d:=Option.some.inj R;subst ag;exact U I Gk
 ·rw[hc]at hy;obtain rfl:=Option.some.inj hy;obtain⟨z,hz,_,z2,_⟩:=h.mt.fwd h.tree hc;dsimp only;cases ht:decide (l.q.tail≠[])with
  |true=> rw[ht]at B;rw[B id (.inr (.inl rfl)),c5,ab]
  |false=> rw[ht]at Z;rw[Z rfl ⟨z,hz,z2.trans af⟩,Bool.and_false]
 ·dsimp only;cases Gk:l.debt with
  |none=>
   dsimp only;rw[h.row];by_cases e:j=id;·rw[if_pos e,e];refine⟨fun⟨l0,d,ae,R,_⟩=>?_,fun⟨d,R,_⟩=>(by cases R)⟩;have V:s.leaf id=some l0:=ae;rw[hl]at V;obtain rfl:=Option.some.inj V;rw[Gk]at R;cases R
   ·rw[if_neg e]
  |some I=>
   dsimp only;rw[Qel];rw[ki];by_cases e:j=id;·rw[if_pos e,if_pos e];simp
   ·rw[if_neg e,if_neg e]
theorem X6.next(h:X6 N s)(now:Nat):X6 (N+16) (s.next now).2:=by
 unfold Qg.next;cases c:s.who now with
 |none=>exact h.more (by omega)
 |some x=> obtain⟨id,rule⟩:=x;obtain⟨l,hl,d,_⟩:=h.who c;exact h.take rule hl d
end
section
variable{h:Qm}
theorem O6(ok:Jd h){i:Int}{c:Kk}(hc:h.at i=some c):(c.sp.par=0∧J5 h i=1)∨∃q,h.at c.sp.par=some q∧q.sp.leaf=false∧J5 h i=J5 h c.sp.par+1:=by rw[Kt hc];refine(ok.par c (Qm.at_mem hc).1).imp id fun⟨q,d,hl,e⟩=>⟨q,d,hl,?_⟩;rw[Kt d];exact e
theorem Qog(ok:Jd h):∀{n:Nat}{i j:Int},j∈h.path n i→J5 h j≤J5 h i∧∃c,h.at j=some c
 |0,i,j,d=>by rw[Qm.path]at d;cases d
 |n+1,i,j,d=>by
  rw[Qm.path]at d;cases hc:h.at i with
  |none=>rw[hc]at d;cases d
  |some c=>
   rw[hc]at d;dsimp only at d;rcases List.mem_cons.1 d with rfl|d;·exact⟨Nat.le_refl _,c,hc⟩
   ·obtain⟨h1,k⟩:=Qog ok d;refine⟨?_,k⟩;rcases O6 ok hc with⟨e,_⟩|⟨q,_,_,e⟩;·have:J5 h c.sp.par=0:=Hl (ok.zero (by omega));omega
    ·omega
theorem Qem(ok:Jd h):∀(n:Nat)(i:Int),(h.path n i).Pairwise fun a b=>J5 h b<J5 h a
 |0,i=>by rw[Qm.path];exact List.Pairwise.nil
 |n+1,i=>by
  rw[Qm.path];cases hc:h.at i with
  |none=>exact List.Pairwise.nil
  |some c=>
   dsimp only;refine List.pairwise_cons.2 ⟨fun j d=>?_,Qem ok n _⟩;have h1:=(Qog ok d).1;rcases O6 ok hc with⟨e,e1⟩|⟨q,_,_,e⟩;·have:J5 h c.sp.par=0:=Hl (ok.zero (by omega));omega
   ·omega
theorem Qq9(ok:Jd h){n:Nat}{i a b:Int}(ha:a∈h.path n i)(q:b∈h.path n i)(e:J5 h a=J5 h b):a=b:=by
 have hf:=Qem ok n i;generalize h.path n i=l at ha q hf;induction l with
 |nil=>cases ha
 |cons x l z=>
  obtain⟨h1,u⟩:=List.pairwise_cons.1 hf;rcases List.mem_cons.1 ha with e1|d
  ·rcases List.mem_cons.1 q with k|c;·exact e1.trans k.symm
   ·have:=h1 b c;rw[←e1]at this;omega
  ·rcases List.mem_cons.1 q with k|c;·have:=h1 a d;rw[←k]at this;omega
   ·exact z d c u
theorem Eo:∀{n:Nat}{i k:Int},k∈h.path n i→k≠i→∃a c,a∈h.path n i∧h.at a=some c∧c.sp.par=k
 |0,i,k,q,_=>by rw[Qm.path]at q;cases q
 |n+1,i,k,q,hne=>by
  rw[Qm.path]at q⊢;cases hc:h.at i with
  |none=>rw[hc]at q;cases q
  |some c=>
   rw[hc]at q;dsimp only at q⊢;rcases List.mem_cons.1 q with rfl|q;·exact absurd rfl hne
   ·by_cases e:k=c.sp.par;·exact⟨i,c,List.mem_cons_self,hc,e.symm⟩
    ·obtain⟨a,d,h1,z,u⟩:=Eo q e;exact⟨a,d,List.mem_cons_of_mem _ h1,z,u⟩
theorem Qjw(ok:Jd h):∀{n:Nat}{i:Int}{c:Kk},h.at i=some c→J5 h i≤n→∃a d,a∈h.path n i∧h.at a=some d∧d.sp.par=0
 |0,i,c,hc,hd=>by have:=(ok.dep c (Qm.at_mem hc).1).1;rw[Kt hc]at hd;omega
 |n+1,i,c,hc,hd=>by
  rw[Qm.path,hc];dsimp only;rcases O6 ok hc with⟨e,_⟩|⟨q,z,_,e⟩;·exact⟨i,c,List.mem_cons_self,hc,e⟩
  ·obtain⟨a,d,h1,k,u⟩:=Qjw ok (n:=n) z (by omega);exact⟨a,d,List.mem_cons_of_mem _ h1,k,u⟩
theorem Qlf(ok:Jd h){i:Int}{c:Kk}(hc:h.at i=some c):J5 h i≤8:=by rw[Kt hc];exact(ok.dep c (Qm.at_mem hc).1).2
theorem Ep{i y:Int}:y∈h.under i↔∃c∈h,c.sp.id=y∧c.sp.par=i:=by refine⟨Qac,fun⟨c,hc,e1,d⟩=>?_⟩;exact List.mem_map.2 ⟨c,List.mem_filter.2 ⟨hc,by simpa using d⟩,e1⟩
theorem Qlg(ok:Jd h){id:Int}(hl:∀c,h.at id=some c→c.sp.leaf=false){x:Int}:x∈h.leaves id↔∃a∈h.under id,x∈h.leaves a:=by
 rw[Yb];constructor
 ·rintro⟨c,hc,rfl,q,u⟩;have k:=Dq ok.sorted hc;have key:∃a d,a∈h.path 9 c.sp.id∧h.at a=some d∧d.sp.par=id:=by
   rcases u with rfl|u;·exact Qjw ok k (by have:=Qlf ok k;omega)
   ·refine Eo u ?_;rintro rfl;have:=hl c k;rw[q]at this;cases this
  obtain⟨a,d,ha,z,B⟩:=key;obtain⟨E,I⟩:=Qm.at_mem z;exact⟨a,Ep.2 ⟨d,E,I,B⟩,Yb.2 ⟨c,hc,rfl,q,.inr ha⟩⟩
 ·rintro⟨a,ha,J⟩;obtain⟨d,z,rfl,B⟩:=Ep.1 ha;obtain⟨c,hc,rfl,q,u⟩:=Yb.1 J;have k:=Dq ok.sorted hc;refine⟨c,hc,rfl,q,?_⟩;by_cases h0:id=0;·exact .inl h0
  ·right;rcases u with u|u;·have:=(Qbk (ok.may d z)).1;omega
   ·have:=Qoa ok (Nat.lt_succ_of_le (Qlf ok k)) u (Dq ok.sorted z) (by rw[B];exact h0);rwa[B]at this
theorem Qlh(ok:Jd h){id a b x:Int}(ha:a∈h.under id)(hb:b∈h.under id)(E:x∈h.leaves a)(J:x∈h.leaves b):a=b:=by
 obtain⟨d,R,rfl,hp⟩:=Ep.1 ha;obtain⟨Z,u,rfl,I⟩:=Ep.1 hb;obtain⟨c,hc,rfl,aa,h1⟩:=Yb.1 E;obtain⟨c',ab,e,_,B⟩:=Yb.1 J;have i1:=(Qbk (ok.may d R)).1;have i2:=(Qbk (ok.may Z u)).1;have h1:=h1.resolve_left (by omega);have B:=B.resolve_left (by omega);refine Qq9 ok h1 B ?_;have k1:=O6 ok (Dq ok.sorted R);have k2:=O6 ok (Dq ok.sorted u);rw[hp]at k1;rw[I]at k2;rcases k1 with⟨e1,U⟩|⟨q,K,_,U⟩
 ·rcases k2 with⟨_,z⟩|⟨V,k,_,z⟩;·omega
  ·rw[e1,ok.zero (by decide)]at k;cases k
 ·rcases k2 with⟨e3,z⟩|⟨V,k,_,z⟩;·rw[e3,ok.zero (by decide)]at K;cases K
  ·omega
theorem Lh:∀{a b:List Int},a.Pairwise (· < ·)→b.Pairwise (· < ·)→(∀x,x∈a↔x∈b)→a=b
 |[],[],_,_,_=>rfl
 |[],y::b,_,_,h=>by have:=(h y).2 List.mem_cons_self;cases this
 |x::a,[],_,_,h=>by have:=(h x).1 List.mem_cons_self;cases this
 |x::a,y::b,ha,hb,h=>by
  obtain⟨a1,k⟩:=List.pairwise_cons.1 ha;obtain⟨b1,b2⟩:=List.pairwise_cons.1 hb;have e:x=y:=by
   rcases List.mem_cons.1 ((h x).1 List.mem_cons_self)with e|q;·exact e
   ·rcases List.mem_cons.1 ((h y).2 List.mem_cons_self)with e|d;·exact e.symm
    ·have:=b1 x q;have:=a1 y d;omega
  subst e;congr 1;refine Lh k b2 fun z=>⟨fun c=>?_,fun c=>?_⟩
  ·rcases List.mem_cons.1 ((h z).1 (List.mem_cons_of_mem _ c))with rfl|h';·have:=a1 z c;omega
   ·exact h'
  ·rcases List.mem_cons.1 ((h z).2 (List.mem_cons_of_mem _ c))with rfl|h';·have:=b1 z c;omega
   ·exact h'
theorem Qoh(ok:Jd h){id:Int}(hl:∀c,h.at id=some c→c.sp.leaf=false):((h.under id).flatMap h.leaves).mergeSort (fun x y=>decide (x≤y))=h.leaves id:=by
 have z:((h.under id).flatMap h.leaves).Pairwise (· ≠ ·):=by
  refine List.pairwise_flatMap.2 ⟨fun a _=>(Kv ok a).imp fun{x y}I e=>by omega,?_⟩;have hs:=Le ok.sorted id;have:∀l:List Int,l.Pairwise (· < ·)→(∀a∈l,a∈h.under id)→l.Pairwise fun a b=>∀x∈h.leaves a,∀y∈h.leaves b,x≠y:=by
   intro l;induction l with
   |nil=>intro _ _;exact List.Pairwise.nil
   |cons a l K=> intro U k;obtain⟨p1,Z⟩:=List.pairwise_cons.1 U;refine List.pairwise_cons.2 ⟨fun b E x J y V e=>?_,K Z fun a ha=>k a (List.mem_cons_of_mem _ ha)⟩;subst e;have:=Qlh ok (k a List.mem_cons_self) (k b (List.mem_cons_of_mem _ E)) J V;have:=p1 b E;omega
  exact this _ hs fun a ha=>ha
 have d:=List.mergeSort_perm ((h.under id).flatMap h.leaves) (fun x y=>decide (x≤y));have B:=List.pairwise_mergeSort (le:=fun x y:Int=>decide (x≤y)) (fun a b c h1 u=>by simp only[decide_eq_true_eq]at*;omega) (fun a b=>by simp only[Bool.or_eq_true,decide_eq_true_eq];omega) ((h.under id).flatMap h.leaves);have q:=(d.pairwise_iff (R:=(· ≠ ·)) (fun h e=>h e.symm)).2 z;refine Lh ?_ (Kv ok id) fun x=>?_
 ·refine(B.and q).imp fun{a b}⟨h1,u⟩=>?_;have:a≤b:=by simpa using h1
  have u:a≠b:=u;omega
 ·rw[d.mem_iff,List.mem_flatMap,Qlg ok hl]
theorem Qen(ok:Jd h){id:Int}{c:Kk}(hc:h.at id=some c)(hl:c.sp.leaf=true):h.leaves id=[id]:=by
 have I:=ok.pos hc;refine Lh (Kv ok id) (by simp) fun x=>?_;rw[Yb];constructor
 ·rintro⟨d,U,rfl,K,B⟩;have B:=B.resolve_left (by omega);by_cases e:id=d.sp.id;·simp[e]
  ·obtain⟨a,q,ha,J,u⟩:=Eo B e;rcases O6 ok J with⟨e1,_⟩|⟨z,E,k,_⟩;·omega
   ·rw[u,hc]at E;obtain rfl:=Option.some.inj E;rw[hl]at k;cases k
 ·intro R;obtain rfl:x=id:=by simpa using R
  refine⟨c,I.2.2.2.2.2,I.2.2.2.2.1,hl,.inr ?_⟩;rw[Qm.path,hc];exact List.mem_cons_self
end
section
variable{N:Nat}{s:Qg}
theorem Qli{c:Xm}(h:s.addE c≠0):s.add c=s:=by unfold Qg.add;rw[if_neg h]
theorem Qah{c:Xm}(h:s.changeE c≠0):s.change c=s:=by unfold Qg.change;rw[if_neg h]
theorem Qe4{i:Int}(h:s.dropE i≠0):s.drop i=s:=by unfold Qg.drop;rw[if_neg h]
theorem Qso{p:Z4}{now:Nat}(h:s.pushE p≠0):s.push p now=s:=by unfold Qg.push;rw[if_neg h]
theorem O8{i:Int}(h:s.leaf i=none):s.qOf i=[]:=by unfold Qg.qOf;rw[h];rfl
theorem X6.leaf_none(h:X6 N s){i:Int}(hn:s.tree.at i=none):s.leaf i=none:=by
 cases hl:s.leaf i with
 |none=>rfl
 |some l=> obtain⟨k,d,_⟩:=h.at hl;obtain⟨c,hc,_⟩:=k.sp;rw[d,hn]at hc;cases hc
theorem X6.leaf_at(h:X6 N s){i:Int}{l:Qy}(hl:s.leaf i=some l):∃c,s.tree.at i=some c∧c.sp.leaf=true:=by obtain⟨k,q,_⟩:=h.at hl;obtain⟨c,hc,d,_⟩:=k.sp;rw[q]at hc;exact⟨c,hc,d⟩
theorem Qyp(h:X6 N s)(c:Xm)(i:Int):(s.add c).qOf i=s.qOf i:=by
 by_cases h0:s.addE c=0
 ·have d:s.tree.addE c=0:=h0;have hn:=h.leaf_none (Vt d).2.2.1;unfold Qg.add;rw[if_pos h0];unfold Qg.qOf Qg.leaf;dsimp only;split
  ·have:=Qe3 (key:=Qy.id) (l:=s.leaves) ⟨c.id,c.pk.toNat,c.bt.toNat,[],Jn c.real⟩ i;unfold Vp at this;rw[this];cases k:s.leaves.find? (fun x=>decide (x.id=i))with
   |some x=>rfl
   |none=> dsimp only;split<;>rfl
  ·rfl
 ·rw[Qli h0]
theorem Qhk(c:Xm)(i:Int):(s.change c).qOf i=s.qOf i:=by
 by_cases h0:s.changeE c=0
 ·unfold Qg.change;rw[if_pos h0];unfold Qg.qOf Qg.leaf;dsimp only;have:=Qsm (key:=Qy.id) (l:=s.leaves) (f:=fun l=>if l.id=c.id then{l with debt:=Jn c.real}else l) (fun l=>by split<;>rfl) i;unfold Vp at this;rw[this];cases d:s.leaves.find? (fun x=>decide (x.id=i))with
  |none=>rfl
  |some x=> simp only[Option.map_some];split<;>rfl
 ·rw[Qah h0]
theorem Qw9(h:X6 N s)(d i:Int):(s.drop d).qOf i=s.qOf i:=by
 by_cases h0:s.dropE d=0
 ·obtain⟨k,_⟩:=Qcp h0;unfold Qg.drop;rw[if_pos h0];unfold Qg.qOf Qg.leaf;dsimp only;have:=Qoc (key:=Qy.id) (l:=s.leaves) d i;unfold Vp Yw at this;rw[this];split
  ·rename_i e;cases c:s.leaves.find? (fun x=>decide (x.id=i))with
   |none=>rfl
   |some x=>
    have hl:s.leaf d=some x:=by rw[←e];exact c
    simp[h.idle hl k]
  ·rfl
 ·rw[Qe4 h0]
theorem Qhl{l l':Qy}{row:List J6}{p:Qe}{i:Int}(hl:s.leaf i=some l)(c:l'.id=i)(j:Int):Qg.qOf {s with leaves:=Dc Qy.id l' s.leaves,row:=row,pick:=p} j=if j=i then l'.q else s.qOf j:=by unfold Qg.qOf Qg.leaf;dsimp only;have:=Qle (key:=Qy.id) (x:=l') (y:=l) (l:=s.leaves) (by rw[c];exact hl) j;unfold Vp at this;rw[this,c];split<;>rfl
theorem Qxa(h:X6 N s){p:Z4}(now:Nat)(h0:s.pushE p=0)(i:Int):(s.push p now).qOf i=if i=p.cls then s.qOf p.cls++[p]else s.qOf i:=by
 obtain⟨c,l,hc,B,z,hl,u⟩:=Qbm h0;have k:=(h.at hl).2.1;rw[Qdr h0 hl,U8 hl];split;·exact Qhl (l:=l) (l':={l with q:=l.q++[p]}) (row:=s.row) (p:=s.pick) hl k i
 ·rw[En];exact Qhl (l:=l) (l':={l with q:=l.q++[p],debt:=l.debt.map fun d=>d.wake now p.len}) hl k i
theorem Qxb(h:X6 N s){id:Int}(rule:Nat){l:Qy}(hl:s.leaf id=some l)(i:Int):(s.take id rule).qOf i=if i=id then l.q.tail else s.qOf i:=by have c:=(h.at hl).2.1;rw[Qds hl,En];exact Qhl (l:=l) (l':={l with q:=l.q.tail,debt:=l.debt.map fun d=>d.serve rule (l.q.headD Z4.zero).len (l.q.tail.headD Z4.zero).len}) hl c i
theorem Er{h:Qm}{c:Xm}(h0:h.changeE c=0):∀(n:Nat)(i:Int),(h.change c).path n i=h.path n i
 |0,_=>rfl
 |n+1,i=>by
  obtain⟨k,d,_⟩:=Oj h0;rw[Qm.path,Qm.path,Qag h0];by_cases e:i=c.id;·rw[if_pos e,d,e,d];dsimp only[Option.map_some];rw[Er h0 n];rfl
  ·rw[if_neg e];cases h.at i with
   |none=>rfl
   |some x=> dsimp only;rw[Er h0 n]
theorem Qii{h:Qm}(ok:Jd h){c:Xm}(h0:h.changeE c=0)(i:Int):(h.change c).leaves i=h.leaves i:=by
 have B:=ok.change h0;refine Lh (Kv B i) (Kv ok i) fun x=>?_;rw[Yb,Yb];have key:(∃d∈h.change c,d.sp.id=x∧d.sp.leaf=true)↔∃d∈h,d.sp.id=x∧d.sp.leaf=true:=by
  unfold Qm.change;rw[if_pos h0];constructor
  ·rintro⟨d,u,e1,k⟩;obtain⟨y,K,rfl⟩:=List.mem_map.1 u;refine⟨y,K,?_,?_⟩;·rw[←e1];split<;>rfl
   ·rw[←k];split<;>rfl
  ·rintro⟨d,u,e1,k⟩;refine⟨_,List.mem_map.2 ⟨d,u,rfl⟩,?_,?_⟩;·rw[←e1];split<;>rfl
   ·rw[←k];split<;>rfl
 rw[Er h0];constructor;·rintro⟨d,u,e1,k,I⟩;obtain⟨E,q,z,J⟩:=key.1 ⟨d,u,e1,k⟩;exact⟨E,q,z,J,I⟩
 ·rintro⟨d,u,e1,k,I⟩;obtain⟨E,q,z,J⟩:=key.2 ⟨d,u,e1,k⟩;exact⟨E,q,z,J,I⟩
theorem Qoi(h:X6 N s){c:Xm}(h0:s.changeE c=0)(i:Int):(s.change c).many i=s.many i:=by
 have h1:=(Gj h0).2;have e:(s.change c).tree=s.tree.change c:=by unfold Qg.change;rw[if_pos h0]
 unfold Qg.many;rw[e,Qii h.tree h1];congr 1;exact List.map_congr_left fun x _=>by rw[Qhk]
theorem Qoj(i:Int):0≤s.many i:=by
 unfold Qg.many;generalize s.tree.leaves i=l;induction l with
 |nil=>simp
 |cons x l c=>rw[List.map_cons,List.sum_cons];omega
theorem Quu{i:Int}(h:¬0<s.many i):s.many i=0:=by have:=Qoj (s:=s) i;omega
theorem Quv(h:X6 N s){i:Int}{c:Kk}(hc:s.tree.at i=some c)(d:c.sp.leaf=true):s.many i=((s.qOf i).length:Int)∧s.bytes i=Q0 (s.qOf i):=by unfold Qg.many Qg.bytes;rw[Qen h.tree hc d];simp
def Xh(f:Nat→Int):Nat→Int
 |0=>0
 |n+1=>Xh f n+f n
theorem Qbn{f:Nat→Int}:∀{n:Nat},(∀k,k<n→f k=0)→Xh f n=0
 |0,_=>rfl
 |n+1,h=>by rw[Xh,Qbn fun k c=>h k (by omega),h n (by omega)];rfl
theorem Es{f g:Nat→Int}:∀{n:Nat},(∀k,k<n→f k=g k)→Xh f n=Xh g n
 |0,_=>rfl
 |n+1,h=>by rw[Xh,Xh,Es fun k c=>h k (by omega),h n (by omega)]
theorem Qjx{f g:Nat→Int}:∀n:Nat,Xh (fun k=>f k+g k) n=Xh f n+Xh g n
 |0=>rfl
 |n+1=>by rw[Xh,Xh,Xh,Qjx n];omega
theorem Qjy{v:Int}{m:Nat}:∀{n:Nat},m<n→Xh (fun k=>if k=m then v else 0) n=v
 |0,h=>by omega
 |n+1,h=>by
  rw[Xh];by_cases e:n=m;·rw[Qbn fun k c=>if_neg (by omega),if_pos e];omega
  ·rw[Qjy (by omega),if_neg e];omega
theorem Qlj{f:Int→Int}{n:Nat}:∀{l:List Int},l.Pairwise (· < ·)→(∀x∈l,0≤x∧x<n)→(l.map f).sum=Xh (fun k=>if(k:Int)∈l then f k else 0) n
 |[],_,_=>by rw[Qbn fun k _=>by simp];rfl
 |x::l,hp,hb=>by
  obtain⟨p1,B⟩:=List.pairwise_cons.1 hp;have E:=hb x List.mem_cons_self;rw[List.map_cons,List.sum_cons,Qlj B fun y z=>hb y (List.mem_cons_of_mem _ z)];have e:(fun k:Nat=>if(k:Int)∈x::l then f k else 0)=fun k:Nat=>(if k=x.toNat then f x else 0)+(if(k:Int)∈l then f k else 0):=funext fun k=>by
   by_cases u:k=x.toNat
   ·have c:(k:Int)=x:=by omega
    have q:x∉l:=fun h=>by have:=p1 x h;omega
    rw[c,if_pos List.mem_cons_self,if_pos u,if_neg q];omega
   ·have c:(k:Int)≠x:=by omega
    rw[if_neg u];by_cases d:(k:Int)∈l;·rw[if_pos d,if_pos (List.mem_cons_of_mem _ d)];omega
    ·rw[if_neg d,if_neg (fun h=>(List.mem_cons.1 h).elim c d)];omega
  rw[e,Qjx,Qjy (by omega)]
theorem Qhm(h:X6 N s){x:Int}:x∈s.tree.leaves 0↔∃l,s.leaf x=some l:=by
 rw[Yb];constructor;·rintro⟨c,hc,rfl,hl,_⟩;exact h.lv _ c (Dq h.tree.sorted hc) hl
 ·rintro⟨l,hl⟩;obtain⟨c,hc,d⟩:=h.leaf_at hl;obtain⟨k,hi⟩:=Qm.at_mem hc;exact⟨c,k,hi,d,.inl rfl⟩
theorem Qxc(h:X6 N s){n:Nat}(z:∀c∈s.tree,c.sp.id<n):s.many 0=Xh (fun k=>((s.qOf k).length:Int)) n∧s.bytes 0=Xh (fun k=>Q0 (s.qOf k)) n:=by
 have hs:=Kv h.tree 0;have u:∀x∈s.tree.leaves 0,0≤x∧x<n:=fun x B=>by obtain⟨c,hc,rfl,_⟩:=Yb.1 B;have:=(Qbk (h.tree.may c hc)).1;have:=z c hc;omega
 have q:∀k:Nat,(k:Int)∉s.tree.leaves 0→s.qOf k=[]:=fun k d=>by
  cases hl:s.leaf (k:Int)with
  |none=>exact O8 hl
  |some l=>exact absurd ((Qhm h).2 ⟨l,hl⟩) d
 unfold Qg.many Qg.bytes;rw[Qlj (f:=fun x=>((s.qOf x).length:Int)) hs u,Qlj (f:=fun x=>Q0 (s.qOf x)) hs u];refine⟨Es fun k _=>?_,Es fun k _=>?_⟩
 ·by_cases d:(k:Int)∈s.tree.leaves 0;·rw[if_pos d]
  ·rw[if_neg d,q k d];rfl
 ·by_cases d:(k:Int)∈s.tree.leaves 0;·rw[if_pos d]
  ·rw[if_neg d,q k d];rfl
theorem Qyq{n:Int}(k:∀c∈s.tree,c.sp.id<n){c:Xm}(hc:c.id<n):∀x∈(s.add c).tree,x.sp.id<n:=by
 by_cases h0:s.addE c=0
 ·have d:s.tree.addE c=0:=h0;have e:(s.add c).tree=s.tree.add c:=by unfold Qg.add;rw[if_pos h0]
  rw[e,Qdo d];intro x q;have:=(Gi ⟨c,s.tree.depth c.par⟩ s.tree).mem_iff.1 q;rcases List.mem_append.1 this with h|h;·exact k x h
  ·obtain rfl:x=⟨c,s.tree.depth c.par⟩:=by simpa using h
   exact hc
 ·rw[Qli h0];exact k
theorem Qra{n:Int}(d:∀c∈s.tree,c.sp.id<n)(c:Xm):∀x∈(s.change c).tree,x.sp.id<n:=by
 by_cases h0:s.changeE c=0
 ·have e:(s.change c).tree=s.tree.change c:=by unfold Qg.change;rw[if_pos h0]
  rw[e];unfold Qm.change;rw[if_pos (Gj h0).2];intro x q;obtain⟨y,k,rfl⟩:=List.mem_map.1 q;have:=d y k;split<;>exact this
 ·rw[Qah h0];exact d
theorem Qxd{n:Int}(k:∀c∈s.tree,c.sp.id<n)(d:Int):∀x∈(s.drop d).tree,x.sp.id<n:=by
 by_cases h0:s.dropE d=0
 ·have e:(s.drop d).tree=s.tree.drop d:=by unfold Qg.drop;rw[if_pos h0]
  rw[e];unfold Qm.drop;rw[if_pos (Qcp h0).2];intro x q;exact k x (List.mem_filter.1 q).1
 ·rw[Qe4 h0];exact k
theorem Quw(p:Z4)(now:Nat):(s.push p now).tree=s.tree:=by
 unfold Qg.push;split
 ·cases hl:s.leaf p.cls with
  |none=>rfl
  |some l=>
   dsimp only;split;·rfl
   ·rw[En]
 ·rfl
theorem Qux(id:Int)(rule:Nat):(s.take id rule).tree=s.tree:=by
 unfold Qg.take;cases hl:s.leaf id with
 |none=>rfl
 |some l=> dsimp only;rw[En]
theorem Quy(now:Nat):(s.next now).2.tree=s.tree:=by
 unfold Qg.next;cases s.who now with
 |none=>rfl
 |some x=>exact Qux _ _
end
def Qdt(p:Z4)(most:Int):Int:=if most<1∨65536≤most then 2 else if p.len<1∨most<p.len then 100 else 0
theorem Et(p:Z4)(most:Int)(w:World):
  Cl 72 #[.agg #[.int .u64 p.id,.int .i64 p.cls,.int .i64 p.len,.int .u64 p.at_],.int .i64 most] w fun e w'=>e=.returned (.int .i64 (Qdt p most))∧Qc Qb w w':=by
 obtain⟨id,cls,len,at_⟩:=p;by_cases h1:most<1;·have E:=O (show Qdt ⟨id,cls,len,at_⟩ most=2 from if_pos (.inl h1));go_enter func72,ntmps72;go_wp2;go_ret;exact⟨by rw[E.out];rfl,(Qc.refl _ _).alloc _⟩
 ·by_cases q:65536≤most;·have E:=O (show Qdt ⟨id,cls,len,at_⟩ most=2 from if_pos (.inr q));go_enter func72,ntmps72;go_wp2;go_ret;exact⟨by rw[E.out];rfl,(Qc.refl _ _).alloc _⟩
  ·have c:Qdt ⟨id,cls,len,at_⟩ most=if len<1∨most<len then 100 else 0:=if_neg (by omega);by_cases k:len<1;·have E:=O (c.trans (if_pos (.inl k)));clear c;go_enter func72,ntmps72;go_wp2;go_ret;exact⟨by rw[E.out];rfl,(Qc.refl _ _).alloc _⟩
   ·by_cases d:most<len;·have E:=O (c.trans (if_pos (.inr d)));clear c;go_enter func72,ntmps72;go_wp2;go_ret;exact⟨by rw[E.out];rfl,(Qc.refl _ _).alloc _⟩
    ·have E:=O (c.trans (if_neg (by omega)));clear c;go_enter func72,ntmps72;go_wp2;go_ret;exact⟨by rw[E.out];rfl,(Qc.refl _ _).alloc _⟩
theorem Qhn{w:World}{b r pk bt:Nat}(h:Jg w b r pk bt []):
  Cl 96 #[.pointer (some ⟨b,0,none⟩)] w fun e w'=>e=.returned (.tuple #[.agg #[.int .u64 0,.int .i64 0,.int .i64 0,.int .u64 0],.bool false])∧Qc Qb w w':=by
 have Jl:=h.lt;obtain⟨_,p1,q,_,_,_,_,_,L,f,q1,_⟩:=h;have c:=q1.cell 0;have d:=q1.cell 4;simp at c d;have N:=O (fun o=>Vg b pk (w.alloc o) (by rw[World.cell?_alloc_past _ _ _ Jl.1];exact c) (by omega));have k:=Jl.1;clear q1 Jl;go_enter func96,ntmps96;go_wp2_with fail;refine(N.out _).mono ?_;rintro e w1⟨rfl,rfl⟩;go_wp2;refine bodyPost_ret (v:=.tuple #[.agg #[.int .u64 0,.int .i64 0,.int .i64 0,.int .u64 0],.bool false]) (by simp[results,Tryz.results96,go_sem]) rfl ⟨rfl,?_⟩;(repeat' (first|(with_reducible first|exact Zg _ _|assumption|refine Zh ?_ _|refine Zi ?_ _|refine Zj ?_ |refine Zk ?_ _ ?_ |(apply Or.inl;rfl))|(apply Or.inl;simp;done)|(apply Or.inr;simp;first|done|omega)))
theorem Qho{w:World}{b r pk bt:Nat}{p:Z4}{l:List Z4}(h:Jg w b r pk bt (p::l)):
  Cl 96 #[.pointer (some ⟨b,0,none⟩)] w fun e w'=>e=.returned (.tuple #[.agg #[.int .u64 p.id,.int .i64 p.cls,.int .i64 p.len,.int .u64 p.at_],.bool true])∧Qc Qb w w':=by
 have Jl:=h.lt;obtain⟨_,p1,p2,_,_,Z,_,_,L,f,q1,q2,hf,hl,V,hr⟩:=h;have c:L[f]? =some p:=by have:=hr 0 (by simp);rw[Nat.add_zero,Nat.mod_eq_of_lt hf]at this;simpa using this
 have d:L[f]=p:=by rw[List.getElem?_eq_getElem hf]at c;exact Option.some.inj c
 have u:=q1.cell 0;have B:=q1.cell 2;have R:=q1.cell 3;have K:=q1.cell 4;have z:=q2.cellAt Z4.cells_length f hf 0 _ (by rw[d];rfl);have I:=q2.cellAt Z4.cells_length f hf 1 _ (by rw[d];rfl);have E:=q2.cellAt Z4.cells_length f hf 2 _ (by rw[d];rfl);have J:=q2.cellAt Z4.cells_length f hf 3 _ (by rw[d];rfl);simp at u B R K z I E J;have N:=O (fun o=>Vg b pk (w.alloc o) (by rw[World.cell?_alloc_past _ _ _ Jl.1];exact u) (by omega));have hb:=Jl.1;have U:=Jl.2;have f0:(0:Int)≤(f:Int):=by omega
 have f1:(f:Int)<(L.length:Int):=by omega
 have n0:((l.length:Int)+1==0)=false:=by rw[beq_eq_false_iff_ne];omega
 clear q1 q2 Jl hr c d;go_enter func96,ntmps96;go_wp2_with fail;refine(N.out _).mono ?_;rintro e w1⟨rfl,rfl⟩;go_wp2;refine Xq 0 10 (by kernel_rfl) (by kernel_rfl) ?_ ?_;·exact fun _ _ _ _ _ h=>h
 simp only[List.take_succ_cons,List.take_zero,List.drop_succ_cons,List.drop_zero];repeat(quiet_step ((fail)))
 refine wpQuiet_nil ?_;intro _ q;obtain⟨nq,k⟩:=q;subst k;go_wp2;refine bodyPost_ret (v:=.tuple #[.agg #[.int .u64 p.id,.int .i64 p.cls,.int .i64 p.len,.int .u64 p.at_],.bool true]) (by simp[results,Tryz.results96,go_sem]) rfl ⟨rfl,?_⟩;(repeat' (first|(with_reducible first|exact Zg _ _|assumption|refine Zh ?_ _|refine Zi ?_ _|refine Zj ?_ |refine Zk ?_ _ ?_ |(apply Or.inl;rfl))|(apply Or.inl;simp;done)|(apply Or.inr;simp;first|done|omega)))
theorem Qlk{L:List Z4}{f:Nat}{p:Z4}{l:List Z4}(h:Ud L f (p::l)):Ud L ((f+1)%L.length) l:=by intro i hi;have:=h (i+1) (by simpa using hi);rw[Nat.mod_add_mod,show f+1+i=f+(i+1) by omega];simpa using this
theorem Quz{w:World}{b r pk bt:Nat}(h:Jg w b r pk bt []):
  Cl 95 #[.pointer (some ⟨b,0,none⟩)] w fun e w'=>e=.returned (.tuple #[.agg #[.int .u64 0,.int .i64 0,.int .i64 0,.int .u64 0],.bool false])∧Qc Qb w w':=by
 have N:=O (fun o=>Qhn (h.keep ((Qc.refl Qb w).alloc o) (fun h=>h) (fun h=>h)));clear h;go_enter func95,ntmps95;go_wp2_with fail;refine(N.out _).mono ?_;rintro e w1⟨rfl,hc⟩;have hs:w.heap.size<w1.heap.size:=by have:=hc.size;simp at this;omega
 have k:=(Qh.new w #[.int .u64 0,.int .i64 0,.int .i64 0,.int .u64 0] 34);have q1:=hc.blk k (fun h=>h);have k0:=q1.cell 0;have k1:=q1.cell 1;have k2:=q1.cell 2;have d:=q1.cell 3;have z:=q1.frozen;simp at k0 k1 k2 d;have c:=O hc;clear hc k q1;go_wp2;refine bodyPost_ret (v:=.tuple #[.agg #[.int .u64 0,.int .i64 0,.int .i64 0,.int .u64 0],.bool false]) (by simp[results,Tryz.results95,go_sem,hs,k0,k1,k2,d]) rfl ⟨rfl,?_⟩;have c:=c.out;refine((((Qc.refl Qb w).alloc _).trans' c))|>fun h=>?_;(repeat' (first|(with_reducible first|exact Zg _ _|assumption|refine Zh ?_ _|refine Zi ?_ _|refine Zj ?_ |refine Zk ?_ _ ?_ |(apply Or.inl;rfl))|(apply Or.inl;simp;done)|(apply Or.inr;simp;first|done|omega)))
theorem Qu0{w:World}{b r pk bt:Nat}{p:Z4}{l:List Z4}(h:Jg w b r pk bt (p::l)):
  Cl 95 #[.pointer (some ⟨b,0,none⟩)] w fun e w'=>e=.returned (.tuple #[.agg #[.int .u64 p.id,.int .i64 p.cls,.int .i64 p.len,.int .u64 p.at_],.bool true])∧
   Jg w' b r pk bt l∧Qc (fun k=>k=b) w w':=by
 have N:=O (fun o=>Qho (h.keep ((Qc.refl Qb w).alloc o) (fun h=>h) (fun h=>h)));have Jl:=h.lt;obtain⟨ne,p1,p2,b1,b2,m1,s1,J,L,f,q1,q2,hf,hl,hL,hr⟩:=h;have gp:=J p (by simp);have s0:=Ku l (fun q hq=>J q (by simp[hq]));obtain⟨ag,ah⟩:=gp;have hm:l.length<pk:=by simp at m1;omega
 have ak:l.length+1≤L.length:=by simpa using hl
 have es:Q0 (p::l)=p.len+Q0 l:=rfl;rw[es]at s1 q1;simp only[List.length_cons]at q1;have ab:=O (fun(W:World)(cs:Array Value)(I:cs=#[.int .i64 (pk:Int),.int .i64 (bt:Int),.slice (some ⟨r,0,none⟩) L.length L.length,.int .i64 (((f:Int)+1)%(L.length:Int)),.int .i64 (l.length:Int),.int .i64 (p.len+Q0 l-p.len)])
   (B:Qh W b cs 123) (R:RowBlk Z4.cells W r L 34)=>show Jg W b r pk bt l by
  have e1:((f:Int)+1)%(L.length:Int)=(((f+1)%L.length:Nat):Int):=by simp
  have e2:p.len+Q0 l-p.len=Q0 l:=by omega
  rw[e1,e2]at I;subst I;exact⟨ne,p1,p2,b1,b2,by omega,by omega,fun q hq=>J q (by simp[hq]),L,(f+1)%L.length,B,R,Nat.mod_lt _ (by omega),by omega,hL,Qlk hr⟩)
 go_enter func95,ntmps95;go_wp2_with fail;refine(N.out _).mono ?_;rintro e w1⟨rfl,d⟩;have hc:=((Qc.refl Qb w).alloc (.cells #[.int .u64 0,.int .i64 0,.int .i64 0,.int .u64 0] 34)).trans' d;have hs:w.heap.size<w1.heap.size:=by have:=d.size;simp at this;omega
 have z0:=d.blk (Qh.new w #[.int .u64 0,.int .i64 0,.int .i64 0,.int .u64 0] 34) (fun h=>h);have k0:=z0.cell 0;have k1:=z0.cell 1;have k2:=z0.cell 2;have k3:=z0.cell 3;have z:=z0.frozen;have c:=hc.blk q1 (fun h=>h);have K:=hc.blk q2 (fun h=>h);have d2:=c.cell 2;have d3:=c.cell 3;have d4:=c.cell 4;have d5:=c.cell 5;have dz:=c.frozen;simp at k0 k1 k2 k3 d2 d3 d4 d5;have ai:b<w1.heap.size:=by omega
 have af:¬w.heap.size=b:=by omega
 have ac:¬w1.heap.size=b:=by omega
 have aa:¬b=w.heap.size:=by omega
 have V:¬b=w1.heap.size:=by omega
 have P:=O (fun W(h2:W.cell? ⟨b,2,none⟩=w1.cell? ⟨b,2,none⟩)(h3:W.cell? ⟨b,3,none⟩=w1.cell? ⟨b,3,none⟩)=>Qba b f 1 (some ⟨r,0,none⟩) L.length L.length W (h2.trans d2) (h3.trans d3) (by omega) (by omega) (by omega) (by omega) (by omega) (by omega));have Z:=O (And.intro hc (And.intro d (And.intro c K)));have HR:=O hr;have HG:=O J;have HQ:=O (And.intro q1 (And.intro q2 hl));clear hc d z0 c K hr J q1 q2 hl m1 es;go_wp2_with fail;refine(P.out _ (by go_simp) (by go_simp)).mono ?_;rintro e w2⟨rfl,k,rfl⟩;go_wp2;refine Xq 0 9 (by kernel_rfl) (by kernel_rfl) ?_ ?_;·exact fun _ _ _ _ _ h=>h
 simp only[List.take_succ_cons,List.take_zero,List.drop_succ_cons,List.drop_zero];repeat(quiet_step ((fail)))
 refine wpQuiet_nil ?_;intro _ ae;obtain⟨nq,U⟩:=ae;subst U;go_wp2;refine bodyPost_ret (v:=.tuple #[.agg #[.int .u64 p.id,.int .i64 p.cls,.int .i64 p.len,.int .u64 p.at_],.bool true]) (by simp[results,Tryz.results95,go_sem,hs,k0,k1,k2,k3]) rfl ⟨rfl,?_,?_⟩
 ·have hn:¬((⟨w.heap.size,0,none⟩:Addr).block=b):=fun h=>by simp at h;omega
  have B:=((((((((((Z.out.2.2.1.alloc (.cells #[.int .u64 p.id,.int .i64 p.cls,.int .i64 p.len,.int .u64 p.at_] 34)).drewN k).set 3 (.int .i64 (((f:Int)+1)%(L.length:Int)))).set 4 (.int .i64 (l.length:Int))).drewN nq).set 5 (.int .i64 (p.len+Q0 l-p.len))).other (a:=⟨w.heap.size,0,none⟩) (.int .u64 p.id) hn).other (a:=⟨w.heap.size,1,none⟩) (.int .i64 p.cls) hn).other (a:=⟨w.heap.size,2,none⟩) (.int .i64 p.len) hn).other (a:=⟨w.heap.size,3,none⟩) (.int .u64 p.at_) hn);have u:¬((⟨w.heap.size,0,none⟩:Addr).block=r):=fun h=>by simp at h;omega
  have E:¬((⟨b,0,none⟩:Addr).block=r):=ne;have R:=((((((((((Z.out.2.2.2.alloc (.cells #[.int .u64 p.id,.int .i64 p.cls,.int .i64 p.len,.int .u64 p.at_] 34)).drewN k).other (a:=⟨b,3,none⟩) (.int .i64 (((f:Int)+1)%(L.length:Int))) E).other (a:=⟨b,4,none⟩) (.int .i64 (l.length:Int)) E).drewN nq).other (a:=⟨b,5,none⟩) (.int .i64 (p.len+Q0 l-p.len)) E).other (a:=⟨w.heap.size,0,none⟩) (.int .u64 p.id) u).other (a:=⟨w.heap.size,1,none⟩) (.int .i64 p.cls) u).other (a:=⟨w.heap.size,2,none⟩) (.int .i64 p.len) u).other (a:=⟨w.heap.size,3,none⟩) (.int .u64 p.at_) u);exact ab.out _ _ (by simp) B R
 ·have aj:Qc (fun k=>k=b) w w1:=Z.out.1.mono fun _ h=>h.elim;(repeat' (first|(with_reducible first|exact Zg _ _|assumption|refine Zh ?_ _|refine Zi ?_ _|refine Zj ?_ |refine Zk ?_ _ ?_ |(apply Or.inl;rfl))|(apply Or.inl;simp;done)|(apply Or.inr;simp;first|done|omega)))
theorem Qyr(pk bt:Nat)(w:World)(h1:1≤pk)(z:pk≤4096)(E:1≤bt)(q:bt≤16777216):
  Cl 70 #[.int .i64 (pk:Int),.int .i64 (bt:Int)] w fun e w'=>e=.returned (.pointer (some ⟨w.heap.size+1,0,none⟩))∧Jg w' (w.heap.size+1) w.heap.size pk bt []∧Qc Qb w w':=by
 have R:(1:Int)≤(pk:Int):=by omega
 have K:(pk:Int)≤4096:=by omega
 have U:(1:Int)≤(bt:Int):=by omega
 have J:(bt:Int)≤16777216:=by omega
 have fin:∀(n:Nat)(W:World),1≤n→n≤4096→Qh W w.heap.size (Zr Z4.cells (List.replicate n Z4.zero)).toArray 34→Qh W (w.heap.size+1) #[.int .i64 (pk:Int),.int .i64 (bt:Int),.slice (some ⟨w.heap.size,0,none⟩) n n,.int .i64 0,.int .i64 0,.int .i64 0] 123→
   Jg W (w.heap.size+1) w.heap.size pk bt []:=fun n W I u hr B=>
  ⟨by omega,h1,z,E,q,by simp,by simp[Q0],by simp,List.replicate n Z4.zero,0,by simpa[Q0]using B,hr,by simp;omega,by simp,by simp;omega,fun i hi=>absurd hi (by simp)⟩
 by_cases V:4≤pk
 ·have mk:∀w:World,(Instr.makeSlice 27 (.int .i64 4) (.int .i64 4)).run prog w=.ok (.slice (some ⟨w.heap.size,0,none⟩) 4 4) (w.alloc (.cells (Zr Z4.cells (List.replicate 4 Z4.zero)).toArray 34)):=
   fun w=>Gw pktT 4 (by omega) (by omega) w
  generalize d:(Zr Z4.cells (List.replicate 4 Z4.zero)).toArray=Z at mk;have k:=O d;have c:=O (fin 4);clear d fin;go_enter func70,ntmps70;go_wp2;go_ret;refine⟨rfl,c.out _ (by omega) (by omega) ?_ ?_,?_⟩;·rw[k.out];exact(Qh.new w Z 34).alloc _
  ·exact Qh.new' _ _ (by simp)
  ·(repeat' (first|(with_reducible first|exact Zg _ _|assumption|refine Zh ?_ _|refine Zi ?_ _|refine Zj ?_ |refine Zk ?_ _ ?_ |(apply Or.inl;rfl))|(apply Or.inl;simp;done)|(apply Or.inr;simp;first|done|omega)))
 ·have mk:∀w:World,(Instr.makeSlice 27 (.int .i64 (pk:Int)) (.int .i64 (pk:Int))).run prog w=.ok (.slice (some ⟨w.heap.size,0,none⟩) pk pk) (w.alloc (.cells (Zr Z4.cells (List.replicate pk Z4.zero)).toArray 34)):=
   fun w=>Gw pktT pk (by omega) (by omega) w
  generalize d:(Zr Z4.cells (List.replicate pk Z4.zero)).toArray=Z at mk;have k:=O d;have c:=O (fin pk);clear d fin;go_enter func70,ntmps70;go_wp2;go_ret;refine⟨rfl,c.out _ (by omega) (by omega) ?_ ?_,?_⟩;·rw[k.out];exact(Qh.new w Z 34).alloc _
  ·exact Qh.new' _ _ (by simp)
  ·(repeat' (first|(with_reducible first|exact Zg _ _|assumption|refine Zh ?_ _|refine Zi ?_ _|refine Zj ?_ |refine Zk ?_ _ ?_ |(apply Or.inl;rfl))|(apply Or.inl;simp;done)|(apply Or.inr;simp;first|done|omega)))
theorem Qu1{T:Type}(L:List T)(z:T)(f m:Nat)(k:m=L.length-f)(hf:f<L.length):
  (((List.replicate (2*L.length) z).take 0++L.drop f++(List.replicate (2*L.length) z).drop (0+(L.drop f).length)).take m++L.take f++
   ((List.replicate (2*L.length) z).take 0++L.drop f++(List.replicate (2*L.length) z).drop (0+(L.drop f).length)).drop (m+(L.take f).length))=L.drop f++L.take f++List.replicate L.length z:=by
 have c:(L.drop f).length=m:=by simp;omega
 have d:(L.take f).length=f:=by simp;omega
 simp only[List.take_zero,List.nil_append,Nat.zero_add,List.drop_replicate,c,d];rw[List.take_left' c,←List.drop_drop,List.drop_left' c,List.drop_replicate,show 2*L.length-m-f=L.length by omega]
theorem Qu2{w:World}{b r:Nat}(c0 c1 c4 c5:Value)(L:List Z4)(f:Nat)(hf:f<L.length)(hL:L.length≤4096)(aa:b≠r)
  (q1:Qh w b #[c0,c1,.slice (some ⟨r,0,none⟩) L.length L.length,.int .i64 (f:Int),c4,c5] 123)(q2:RowBlk Z4.cells w r L 34):
  Cl 130 #[.pointer (some ⟨b,0,none⟩)] w fun e w'=>e=.returned (.tuple #[])∧
   Qh w' b #[c0,c1,.slice (some ⟨w.heap.size,0,none⟩) (2*L.length) (2*L.length),.int .i64 0,c4,c5] 123∧
   RowBlk Z4.cells w' w.heap.size (L.drop f++L.take f++List.replicate L.length Z4.zero) 34∧Qc (fun k=>k=b) w w':=by
 have hb:=q1.lt;have hr:=q2.lt;have d2:=q1.cell 2;have d3:=q1.cell 3;simp at d2 d3;have mk:∀w:World,(Instr.makeSlice 27 (.int .i64 (2*(L.length:Int))) (.int .i64 (2*(L.length:Int)))).run prog w=.ok (.slice (some ⟨w.heap.size,0,none⟩) (2*L.length) (2*L.length)) (w.alloc (.cells (Zr Z4.cells (List.replicate (2*L.length) Z4.zero)).toArray 34)):=
  fun w=>by simpa using Gw pktT (2*L.length) (by omega) (by omega) w
 generalize hz:(Zr Z4.cells (List.replicate (2*L.length) Z4.zero)).toArray=Z at mk;have HZ:=O hz;have R:=O (And.intro q1 q2);have f0:(0:Int)≤(f:Int):=by omega
 have f1:(f:Int)≤(L.length:Int):=by omega
 have f2:¬L.length=f:=by omega
 clear hz q1 q2;go_enter func130,ntmps130;go_wp2;refine Xq 1 10 (by kernel_rfl) (by kernel_rfl) ?_ ?_;·exact fun _ _ _ _ _ h=>h
 simp only[List.take_succ_cons,List.take_zero,List.drop_succ_cons,List.drop_zero];repeat(quiet_step ((fail)))
 refine wpQuiet_nil ?_;intro _ d;obtain⟨nq,c⟩:=d;subst c;refine Lj pktT rfl (.tmp 11) (.tmp 20) rfl _ _ _ _ _ _ rfl rfl w.heap.size 0 (List.replicate (2*L.length) Z4.zero) 34 ?_ (L.drop f) ?_ ?_ ?_ ?_ ?_;·show Qh _ _ _ _;rw[HZ.out];exact(Qh.new w Z 34).drewN _
 ·rw[List.length_drop];show _=min _ _;omega
 ·intro _;rfl
 ·have:=(RowBlk.row Z4.cells_length ((R.out.2.alloc (.cells Z 34)).drewN nq)).drop f;simpa using this
 ·simp;omega
 intro w1 R1 I;have q:Qc (fun k=>k=b) w w1:=((((Qc.refl (fun k=>k=b) w).alloc (.cells Z 34)).drewN nq).trans I (fun k hk=>.inr (by omega)));have E:=I.blk (((R.out.1.alloc (.cells Z 34)).drewN nq)) (by omega);have R2:=I.blk (((R.out.2.alloc (.cells Z 34)).drewN nq)) (by omega);have K:=E.cell 2;have e3:=E.cell 3;simp at K e3;obtain⟨m,U⟩:=Zx (L.length-f);have l0:(0:Int)≤(m:Int):=by omega
 have l1:(m:Int)≤2*(L.length:Int):=by omega
 have l2:m<2*L.length:=by omega
 have J:=O (And.intro q (And.intro E (And.intro R1 R2)));clear q E R2 R1 I;simp only[List.length_drop];rw[←U];have HM:=O U;clear U;go_wp2;refine Xq 2 12 (by kernel_rfl) (by kernel_rfl) ?_ ?_;·exact fun _ _ _ _ _ h=>h
 simp only[List.take_succ_cons,List.take_zero,List.drop_succ_cons,List.drop_zero];repeat(quiet_step ((fail)))
 refine wpQuiet_nil ?_;intro _ d;obtain⟨nq,c⟩:=d;subst c;refine Lj pktT rfl (.tmp 24) (.tmp 33) rfl _ _ _ _ _ _ rfl rfl w.heap.size m _ 34 (J.out.2.2.1.drewN _) (L.take f) ?_ ?_ ?_ ?_ ?_;·rw[List.length_take];show _=min _ _;have:=HM.out;omega
 ·intro _;rw[if_neg (by omega)]
 ·exact(RowBlk.row Z4.cells_length (Qh.drewN J.out.2.2.2 _)).take f
 ·have:=HM.out;simp;omega
 intro w2 R3 V;have z:=(J.out.1.drewN nq).trans (S':=fun k=>k=w.heap.size) V (fun k hk=>.inr (by omega));have u:=V.blk (J.out.2.1.drewN _) (by omega);have K:=u.cell 2;have e3:=u.cell 3;have ez:=u.frozen;simp at K e3;have HF:=O (And.intro z (And.intro u R3));clear z u R3 V;go_wp2;go_end0;refine⟨rfl,?_,?_,?_⟩;·have B:=(HF.out.2.1.set 2 (.slice (some ⟨w.heap.size,0,none⟩) (2*L.length) (2*L.length))).set 3 (.int .i64 0);simpa using B
 ·rw[←List.append_assoc,←Qu1 L Z4.zero f m HM.out hf];exact(Qh.other (Qh.other HF.out.2.2 (a:=⟨b,2,none⟩) _ (by show b≠_;omega)) (a:=⟨b,3,none⟩) _ (by show b≠_;omega))
 ·have:=HF.out.1;(repeat' (first|(with_reducible first|exact Zg _ _|assumption|refine Zh ?_ _|refine Zi ?_ _|refine Zj ?_ |refine Zk ?_ _ ?_ |(apply Or.inl;rfl))|(apply Or.inl;simp;done)|(apply Or.inr;simp;first|done|omega)))
def Oa(pk bt:Nat)(l:List Z4)(p:Z4):Int:=
 if p.len<1∨65535<p.len then 100 else if l.length=pk∨(bt:Int)-Q0 l<p.len then 110 else 0
theorem Qrb{w:World}{b r pk bt:Nat}{l:List Z4}(h:Jg w b r pk bt l)(p:Z4)(u:p.len<1∨65535<p.len):
  Cl 73 #[.pointer (some ⟨b,0,none⟩),.agg #[.int .u64 p.id,.int .i64 p.cls,.int .i64 p.len,.int .u64 p.at_]] w fun e w'=>e=.returned (.int .i64 100)∧Qc Qb w w':=by
 have c:Qdt p 65535=100:=by unfold Qdt;rw[if_neg (by omega),if_pos (by omega)]
 have Jl:=h.lt;obtain⟨_,p1,q,_,_,_,_,_,L,f,q1,_⟩:=h;have d:=q1.cell 0;simp at d;have N:=O (fun o=>Vg b pk (w.alloc o) (by rw[World.cell?_alloc_past _ _ _ Jl.1];exact d) (by omega));have M:=O (fun w=>Et p 65535 w);rw[c]at M;clear q1 c;go_enter func73,ntmps73;go_wp2_with fail;refine(N.out _).mono ?_;rintro e w1⟨rfl,rfl⟩;go_wp2_with fail;refine(M.out _).mono ?_;rintro e w2⟨rfl,hc⟩;have k:=O hc;clear hc;go_wp2;go_ret;exact⟨rfl,((Qc.refl _ _).alloc _).trans' k.out⟩
theorem Qrc{w:World}{b r pk bt:Nat}{l:List Z4}(h:Jg w b r pk bt l)(p:Z4)(hp:1≤p.len)(aa:p.len≤65535)(c:l.length=pk∨(bt:Int)-Q0 l<p.len):
  Cl 73 #[.pointer (some ⟨b,0,none⟩),.agg #[.int .u64 p.id,.int .i64 p.cls,.int .i64 p.len,.int .u64 p.at_]] w fun e w'=>e=.returned (.int .i64 110)∧Qc Qb w w':=by
 have z:Qdt p 65535=0:=by unfold Qdt;rw[if_neg (by omega),if_neg (by omega)]
 have Jl:=h.lt;obtain⟨_,p1,p2,b1,b2,_,s1,k,L,f,q1,_⟩:=h;have s0:=Ku l k;have B:=q1.cell 0;simp at B;have N:=O (fun o=>Vg b pk (w.alloc o) (by rw[World.cell?_alloc_past _ _ _ Jl.1];exact B) (by omega));have M:=O (fun w=>Et p 65535 w);rw[z]at M;have Z:=Qh.new w #[.int .u64 p.id,.int .i64 p.cls,.int .i64 p.len,.int .u64 p.at_] 34;have Q:=q1.alloc (.cells #[.int .u64 p.id,.int .i64 p.cls,.int .i64 p.len,.int .u64 p.at_] 34);have E:=O (And.intro Z Q);have I:=Jl.1;clear q1 z Z Q k Jl;go_enter func73,ntmps73;go_wp2_with fail;refine(N.out _).mono ?_;rintro e w1⟨rfl,rfl⟩;go_wp2_with fail;refine(M.out _).mono ?_;rintro e w2⟨rfl,hc⟩;have u:=hc.blk E.out.1 (fun h=>h);have d:=hc.blk E.out.2 (fun h=>h);have K:=u.cell 2;have k0:=d.cell 0;have k1:=d.cell 1;have V:=d.cell 4;have R:=d.cell 5;simp at K k0 k1 V R;have q:=O hc;clear hc u d;by_cases hl:l.length=pk
 ·have g:((l.length:Int)==(pk:Int))=true:=by simp[hl]
  have J:=O hl;have U:=O c;clear hl c;go_wp2;go_quiet (fail);go_wp2;go_ret;exact⟨rfl,(((Qc.refl _ _).alloc _).trans' q.out).drewN _⟩
 ·have g:((l.length:Int)==(pk:Int))=false:=by simp;omega
  have g2:decide ((bt:Int)-Q0 l<p.len)=true:=by
   rcases c with h|h;·exact absurd h hl
   ·simpa using h
  have J:=O hl;have U:=O c;clear hl c;go_wp2;go_quiet (fail);go_wp2;go_ret;exact⟨rfl,(((Qc.refl _ _).alloc _).trans' q.out).drewN _⟩
end Go.Proofs.YtnnhmpehkbihnaaGreat
