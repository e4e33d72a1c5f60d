/- A part of the proof: no condition. -/
import Derived.Test.YtnnhmpehkbihnaaGreatPs21
import Derived.Laws.MakeOwn
namespace Go.Proofs.YtnnhmpehkbihnaaGreat
set_option linter.unusedVariables false
set_option maxRecDepth 100000
set_option maxHeartbeats 4000000
open Go.RowKit
open Go.Proofs.Tryz
section
variable{N M:Nat}{s:Qf}
theorem Qjb(l:List Jr)(p:Jr):Jn (l++[p])=Jn l+p.len:=by rw[Tk];simp[Jn]
theorem Qlk{n most:Int}(h:Eo n most=0):1≤n∧n≤most∧most≤65535:=by
 unfold Eo at h;split at h;·cases h
 ·split at h;·cases h
  ·omega
theorem Mk{p:Jr}(h0:s.aQ p=0):∃c l,s.tree.at p.cls=some c∧c.sp.leaf=true∧(1≤p.len∧p.len≤s.most∧s.most≤65535)∧s.leaf p.cls=some l∧¬(l.q.length=l.pk∨(l.bt:Int)-Jn l.q<p.len):=by
 unfold Qf.aQ at h0;cases hc:s.tree.at p.cls with
 |none=>rw[hc]at h0;cases h0
 |some c=>
  rw[hc]at h0;dsimp only at h0;split at h0;·cases h0
  ·rename_i h1;split at h0;·rename_i d;exact absurd h0 d
   ·rename_i d;cases hl:s.leaf p.cls with
    |none=>rw[hl]at h0;cases h0
    |some l=>
     rw[hl]at h0;dsimp only at h0;split at h0;·cases h0
     ·rename_i k;exact⟨c,l,rfl,by simpa using h1,Qlk (by simpa using d),rfl,k⟩
theorem Qmg(l:Qw):s.setLeaf l={s with aI:=Lg Qw.id l s.aI}:=rfl
theorem Rm(l:Qw)(f:Ju→Ju):s.owe l f={s with aI:=Lg Qw.id {l with debt:=l.debt.map f} s.aI,row:=match l.debt with
  |none=>s.row
  |some d=>Hj s.row l.id (f d)}:=by
 obtain⟨i,pk,bt,q,debt⟩:=l;unfold Qf.owe;cases debt with
 |none=>rfl
 |some d=>rfl
theorem Ct{p:Jr}{now:Nat}{l:Qw}(h0:s.aQ p=0)(hl:s.leaf p.cls=some l):
  s.push p now=if l.q≠[]then s.setLeaf {l with q:=l.q++[p]}else{s.owe {l with q:=l.q++[p]} (fun d=>d.wake now p.len)with pick:=s.pick.wake p.cls now}:=by
 unfold Qf.push;rw[if_pos h0,hl];dsimp only;split;·rfl
 ·rw[Rm]
theorem Vl.offpath(h:Vl N s){i j:Int}{x:Qx}(u:s.pick.at j=some x)(hl:x.leaf=true)(k:j≠i):j∉s.pick.path 9 i:=fun q=>by obtain⟨c,hc,d⟩:=Mi h.pick h.pinv.inn q k;rw[u]at hc;obtain rfl:=Zs hc;rw[hl]at d;cases d
theorem Qgq{a b:Bool}(h:a=true↔b=true):a=b:=by cases a<;>cases b<;>simp_all
theorem Vl.push(h:Vl N s){p:Jr}(now:Nat)(h0:s.aQ p=0):Vl (N+16) (s.push p now):=by
 obtain⟨c,l,hc,ae,U,hl,ai⟩:=Mk h0;obtain⟨k,ki,_⟩:=h.at hl;obtain⟨c',I,_,c2,c3,c4,c5⟩:=k.sp;rw[ki]at I c5;rw[hc]at I;obtain rfl:=Zs I;have ah:=k.many;have ag:=k.held;have h1:(l.q++[p]).length≤l.pk:=by simp;omega
 have h2:Jn (l.q++[p])≤l.bt:=by rw[Qjb];omega
 have h3:∀x∈l.q++[p],Ll x∧x.cls=p.cls:=fun x B=>by
  rcases Zl.1 B with B|B;·have:=k.good x B;exact⟨this.1,this.2.trans ki⟩
  ·obtain rfl:x=p:=by simpa using B
   exact⟨⟨U.1,by omega⟩,rfl⟩
 rw[Ct h0 hl];by_cases Z:l.q=[]
 ·rw[if_neg (by simpa using Z),Rm];have V:=h.pick.wake p.cls now;obtain⟨pv,pm,ac⟩:=h.pinv.wake h.pick p.cls now;have al:=h.tree.pos hc;obtain⟨x,B,_,x2,x3,_⟩:=h.mt.fwd h.tree hc;refine Vl.upd (l:=l) (l':={l with q:=l.q++[p],debt:=l.debt.map fun d=>d.wake now p.len}) h (by omega) hl ki rfl rfl (by simp) h1 h2 h3 (fun d z=>?_) V.1 pv (h.mt.same V.2 pm) (fun j y E aj hj=>?_) (fun y E=>?_) (fun a j b=>?_)
  ·dsimp only at z;cases Eu:l.debt with
   |none=>rw[Eu]at z;cases z
   |some d0=>
    rw[Eu]at z;have af:d0.wake now p.len=d:=Zs z;subst af;obtain⟨g1,g2,K⟩:=k.debt d0 Eu;rw[Z]at K;have K:d0.aL=false:=by simpa using K
    unfold Ju.wake;rw[if_neg (by simp[K])];refine⟨g1,?_,by simp⟩;dsimp only;rw[Gj];omega
  ·refine Qgq ((ac j).trans ⟨fun R=>R.elim id fun hh=>absurd hh.1 ?_,.inl⟩);exact h.offpath E aj hj
  ·rw[hc]at E;obtain rfl:=Zs E;have e0:s.pick.aL p.cls=false:=by rw[c5,Z];simp
   have:decide (l.q++[p]≠[])=true:=by simp
   dsimp only;rw[this,Bool.and_true];refine Qgq ((ac p.cls).trans ⟨fun R=>?_,fun hs=>.inr ⟨Sv B (by omega),⟨x,B,x3.trans hs⟩,x,B,by omega,x2.trans ae,x3.trans hs⟩⟩);rcases R with R|⟨_,⟨y,E,ak⟩,_⟩;·rw[e0]at R;cases R
   ·rw[B]at E;obtain rfl:=Zs E;exact x3.symm.trans ak
  ·dsimp only;cases Eu:l.debt with
   |none=>
    dsimp only;rw[h.row];by_cases e:j=p.cls;·rw[if_pos e,e];refine⟨fun⟨l0,d,J,z,_⟩=>?_,fun⟨d,z,_⟩=>(by cases z)⟩;have u:s.leaf p.cls=some l0:=J;rw[hl]at u;obtain rfl:=Zs u;rw[Eu]at z;cases z
    ·rw[if_neg e]
   |some d0=>
    dsimp only;rw[If];rw[ki];by_cases e:j=p.cls;·rw[if_pos e,if_pos e];simp
    ·rw[if_neg e,if_neg e]
 ·rw[if_pos (by simpa using Z),Qmg];have aa:decide (l.q++[p]≠[])=true:=by simp
  have ab:decide (l.q≠[])=true:=by simpa using Z
  refine Vl.upd (l:=l) (l':={l with q:=l.q++[p]}) (row':=s.row) (p':=s.pick) h (by omega) hl ki rfl rfl rfl h1 h2 h3 (fun d z=>?_) (h.pick.more (by omega)) h.pinv h.mt (fun _ _ _ _ _=>rfl) (fun y E=>?_) (fun a j b=>?_);·obtain⟨g1,g2,K⟩:=k.debt d z;exact⟨g1,by omega,by dsimp only;rw[K,aa,ab]⟩
  ·rw[hc]at E;obtain rfl:=Zs E;dsimp only;rw[c5,aa,ab]
  ·rw[h.row];by_cases e:j=p.cls;·rw[if_pos e,e];refine⟨fun⟨l0,d,J,z⟩=>?_,fun⟨d,z⟩=>⟨l,d,hl,z⟩⟩;have u:s.leaf p.cls=some l0:=J;rw[hl]at u;obtain rfl:=Zs u;exact⟨d,z⟩
   ·rw[if_neg e]
theorem Qax{p:Qe}{dep:Int→Nat}(ok:Qs dep N p)(u:Uz p)(now:Nat):∀(n:Nat)(i j:Int),p.next now n i=some j→(∃c,p.at j=some c∧c.leaf=true)∧(j=i∨p.aL j=true)
 |0,i,j,h=>by rw[Qe.next]at h;cases h
 |n+1,i,j,h=>by
  rw[Qe.next]at h;cases hc:p.at i with
  |none=>rw[hc]at h;cases h
  |some c=>
   rw[hc]at h;dsimp only at h;by_cases hl:c.leaf=true;·rw[if_pos hl]at h;obtain rfl:=Zs h;exact⟨⟨c,hc,hl⟩,.inl rfl⟩
   ·rw[if_neg hl]at h;cases q:Xf now c.tree with
    |none=>rw[q]at h;cases h
    |some e=>
     rw[q]at h;dsimp only at h;obtain⟨a,k,b⟩:=e;have B:(a,k,b)∈c.tree:=List.mem_of_find?_eq_some q;have z:=((u.ent k i c hc a b).1 B).2.1;obtain⟨h1,d⟩:=Qax ok u now n k j h;refine⟨h1,.inr ?_⟩;rcases d with rfl|d;·exact z
     ·exact d
theorem Sq{l:List Xu}{x:Nat×Int}(h:low l=some x):∃a,(a,x.2,x.1)∈l:=by obtain⟨⟨a,i,b⟩,c,e⟩:=Qe9 h;exact⟨a,by rw[e];exact c⟩
theorem Vl.who(h:Vl N s){now:Nat}{id:Int}{rule:Nat}(k:s.who now=some (id,rule)):
  ∃l,s.leaf id=some l∧l.q≠[]∧(rule=1∨rule=2):=by
 unfold Qf.who at k;cases ha:Jt now s.row with
 |some x=>
  rw[ha]at k;obtain⟨e1,z⟩:=Prod.mk.inj (Zs k);unfold Jt at ha;obtain⟨a,R⟩:=Sq ha;obtain⟨l,d,hl,K,I,_⟩:=(h.row a x.2 x.1).1 (List.mem_filter.1 R).1;have u:s.leaf id=some l:=by rw[←e1];exact hl
  refine⟨l,u,?_,.inl z.symm⟩;have:=((h.at u).1.debt d K).2.2;rw[I]at this;exact of_decide_eq_true this.symm
 |none=>
  rw[ha]at k;dsimp only at k;cases hn:s.pick.next now 10 0 with
  |none=>rw[hn]at k;cases k
  |some j=>
   rw[hn]at k;obtain⟨e1,z⟩:=Prod.mk.inj (Zs k);obtain⟨⟨c,hc,q⟩,B⟩:=Qax h.pick h.pinv now 10 0 j hn;have E:s.pick.aL j=true:=by
    rcases B with rfl|B;·obtain⟨r,hr,J,_⟩:=h.mt.root;rw[hr]at hc;obtain rfl:=Zs hc;rw[J]at q;cases q
    ·exact B
   obtain⟨_,l,_,_,hl,U⟩:=h.busy hc q E;exact⟨l,by rw[←e1];exact hl,U,.inr z.symm⟩
theorem Fd{id:Int}{rule:Nat}{l:Qw}(hl:s.leaf id=some l):
  s.take id rule={s.owe {l with q:=l.q.tail} (fun d=>d.serve rule (l.q.headD Jr.zero).len (l.q.tail.headD Jr.zero).len)with pick:=s.pick.sent id ((l.q.headD Jr.zero).len*256).toNat (decide (l.q.tail≠[]))}:=by
 unfold Qf.take;rw[hl];dsimp only;rw[Rm]
theorem Vl.take(h:Vl N s){id:Int}(rule:Nat){l:Qw}(hl:s.leaf id=some l)(hq:l.q≠[]):Vl (N+16) (s.take id rule):=by
 obtain⟨k,ki,_⟩:=h.at hl;obtain⟨c,hc,ac,c2,c3,c4,c5⟩:=k.sp;rw[ki]at hc c5;rw[Fd hl,Rm];obtain⟨x,t,E⟩:∃x t,l.q=x::t:=by
  cases ag:l.q with
  |nil=>exact absurd ag hq
  |cons x t=>exact⟨x,t,rfl⟩
 have u:=k.good;rw[E]at u;have K:=k.many;have J:=k.held;rw[E]at K J;simp only[Zm,Jn]at K J;have aj:=(u x (by simp)).1.1;have aa:=h.pick.sent id ((l.q.headD Jr.zero).len*256).toNat (decide (l.q.tail≠[]));obtain⟨pv,pm,ai,B,Z⟩:=h.pinv.sent h.pick id ((l.q.headD Jr.zero).len*256).toNat (decide (l.q.tail≠[]));have ab:decide (l.q≠[])=true:=by simpa using hq
 have U:∀I,l.debt=some I→(I.serve rule (l.q.headD Jr.zero).len (l.q.tail.headD Jr.zero).len).got≤Xw∧(I.serve rule (l.q.headD Jr.zero).len (l.q.tail.headD Jr.zero).len).run.l.length≤N+16∧(I.serve rule (l.q.headD Jr.zero).len (l.q.tail.headD Jr.zero).len).aL=decide (l.q.tail≠[]):=fun I Eu=>by
  obtain⟨g1,g2,g3⟩:=k.debt I Eu;rw[ab]at g3;unfold Ju.serve;rw[if_neg (by simp[g3])];refine⟨?_,by show I.run.l.length≤_;omega,?_⟩
  ·dsimp only;split;·exact Nat.min_le_right _ _
   ·exact g1
  ·show decide (1≤(l.q.tail.headD Jr.zero).len)=_;rw[E];cases t with
   |nil=>rfl
   |cons y t=> have:=(u y (by simp)).1.1;simp[this]
 refine Vl.upd (l:=l) (l':={l with q:=l.q.tail,debt:=l.debt.map fun d=>d.serve rule (l.q.headD Jr.zero).len (l.q.tail.headD Jr.zero).len}) h (by omega) hl ki rfl rfl (by simp) (by simp[E];omega) (by simp[E];omega)
  (fun y hy=>by
   have:=k.good y (by rw[E]at hy⊢;exact Zr _ hy);exact⟨this.1,this.2.trans ki⟩) (fun d R=>?_) aa.1 pv (h.mt.same aa.2 pm) (fun j y hy ah hj=>B j (.inl (h.offpath hy ah hj))) (fun y hy=>?_) (fun a j b=>?_)
 ·dsimp only at R;cases Eu:l.debt with
  |none=>rw[Eu]at R;cases R
  |some I=> rw[Eu]at R;have ae:I.serve rule (l.q.headD Jr.zero).len (l.q.tail.headD Jr.zero).len=d:=Zs R;subst ae;exact U I Eu
 ·rw[hc]at hy;obtain rfl:=Zs hy;obtain⟨z,hz,_,z2,_⟩:=h.mt.fwd h.tree hc;dsimp only;cases ht:decide (l.q.tail≠[])with
  |true=> rw[ht]at B;rw[B id (.inr (.inl rfl)),c5,ab]
  |false=> rw[ht]at Z;rw[Z rfl ⟨z,hz,z2.trans ac⟩,Bool.and_false]
 ·dsimp only;cases Eu:l.debt with
  |none=>
   dsimp only;rw[h.row];by_cases e:j=id;·rw[if_pos e,e];refine⟨fun⟨l0,d,af,R,_⟩=>?_,fun⟨d,R,_⟩=>(by cases R)⟩;have V:s.leaf id=some l0:=af;rw[hl]at V;obtain rfl:=Zs V;rw[Eu]at R;cases R
   ·rw[if_neg e]
  |some I=>
   dsimp only;rw[If];rw[ki];by_cases e:j=id;·rw[if_pos e,if_pos e];simp
   ·rw[if_neg e,if_neg e]
end
def RT(p:Qe):Prop:=∀c∈p,Xd c.tree
section
variable{p:Qe}
theorem Ie{id:Int}{l:List Xu}(h:Xd l):Xd (Xa id l):=h.sublist List.filter_sublist
theorem RT.at(h:RT p){i:Int}{c:Qx}(hc:p.at i=some c):Xd c.tree:=h c (Qe.aE hc).1
theorem RT.set(h:RT p){x:Qx}(d:Xd x.tree):RT (p.set x):=fun c hc=>by
 rcases mem_set hc with rfl|⟨hc,_⟩;·exact d
 ·exact h c hc
theorem RT.fam(h:RT p)(i:Int)(f:Jc→Jc):RT (p.fam i f):=by
 unfold Qe.fam;split;·exact h
 ·split;·exact h
  ·rename_i q c;exact h.set (show Xd q.tree from h.at c)
theorem RT.note(h:RT p)(i:Int):RT (p.note i):=by
 unfold Qe.note;split;·exact h
 ·split;·exact h
  ·rename_i q c;refine h.set ?_;dsimp only;split;·exact Th (show Xd q.tree from h.at c)
   ·exact Ie (show Xd q.tree from h.at c)
theorem RT.up1(h:RT p)(now:Nat)(i:Int):RT (p.up1 now i):=by
 unfold Qe.up1;split;·exact h
 ·rename_i c hc;split;·exact h
  ·exact(h.fam i _).set (show Xd c.tree from h.at hc)
theorem RT.gain1(h:RT p)(g:Nat)(i:Int):RT (p.gain1 g i):=by
 unfold Qe.gain1;split;·exact h
 ·rename_i c hc;exact(h.set (x:={c with total:=c.total+min g (Xw-c.total)}) (show Xd c.tree from h.at hc)).fam i _
theorem RT.rest1(h:RT p)(sl:Bool)(i:Int):RT (p.rest1 sl i):=by
 unfold Qe.rest1;split;·exact h
 ·split;·exact(h.fam i _).note i
  ·exact h.note i
theorem RT.fold{c:Qe→Int→Qe}(hs:∀p i,RT p→RT (c p i)):∀(l:List Int)(p:Qe),RT p→RT (l.foldl c p)
 |[],_,h=>h
 |i::l,p,h=>RT.fold hs l _ (hs p i h)
theorem RT.wake(h:RT p)(i:Int)(now:Nat):RT (p.wake i now):=by
 unfold Qe.wake;split;·exact h
 ·split;·exact h
  ·exact RT.fold (fun p i h=>h.note i) _ _ (RT.fold (fun p i h=>h.up1 now i) _ _ h)
theorem RT.sent(h:RT p)(i:Int)(g:Nat)(more:Bool):RT (p.sent i g more):=by
 unfold Qe.sent;split;·exact h
 ·split;·exact h
  ·exact RT.fold (fun p i h=>h.rest1 _ i) _ _ (RT.fold (fun p i h=>h.gain1 g i) _ _ h)
theorem RT.put(h:RT p)(s:Yk):RT (p.put s):=by
 unfold Qe.put;split;·exact h
 ·rename_i q d;split;·exact h
  ·refine RT.set (fun c hc=>?_) (show Xd q.tree from h.at d);rcases Zl.1 hc with hc|hc;·exact h c hc
   ·obtain rfl:=List.mem_singleton.1 hc;exact List.Pairwise.nil
theorem RT.drop(h:RT p)(i:Int):RT (p.drop i):=by
 unfold Qe.drop;split;·exact h
 ·split;·exact h
  ·split;·exact h
   ·rename_i q d;exact fun c hc=>(h.set (x:={q with mem:=q.mem.drop i,aM:=q.aM-1}) (show Xd q.tree from h.at d)) c (List.mem_filter.1 hc).1
theorem RT.aK(h:RT p)(s:Yk):RT (p.aK s):=by
 unfold Qe.aK;split;·exact h
 ·split;·exact h
  ·intro c hc;obtain⟨x,d,rfl⟩:=Z3.1 hc;have:=(h.fam s.id fun f=>if s.aJ then(f.drop s.id).add s.id s.share else f.drop s.id) x d;split;·exact this
   ·exact this
theorem RT.new:RT Qe.new:=fun c hc=>by obtain rfl:=List.mem_singleton.1 hc;exact List.Pairwise.nil
end
structure SR(s:Qf):Prop where
 row:Xd s.row
 pick:RT s.pick
 due:∀l∈s.aI,∀d,l.debt=some d→d.elig≤Qq∧d.due≤Qq
theorem Qm5(r:Xh)(y:Nat):r.elig y≤Qq:=by
 unfold Xh.elig;split;·exact Pb _ _ _
 ·exact Pb _ _ _
theorem Az{c:Jy}{d:Ju}(h:Xl c=some d):d.elig≤Qq∧d.due≤Qq:=by
 unfold Xl at h;split at h;·cases h
 ·obtain rfl:=Zs h;exact⟨Nat.zero_le _,Nat.zero_le _⟩
theorem Qs3{d:Ju}(h:d.elig≤Qq∧d.due≤Qq)(now:Nat)(len:Int):(d.wake now len).elig≤Qq∧(d.wake now len).due≤Qq:=by
 unfold Ju.wake;split;·exact h
 ·exact⟨Qm5 _ _,reach_le _ _⟩
theorem Qp8{d:Ju}(h:d.elig≤Qq∧d.due≤Qq)(rule:Nat)(len c:Int):(d.serve rule len c).elig≤Qq∧(d.serve rule len c).due≤Qq:=by
 unfold Ju.serve;split;·exact h
 ·refine⟨?_,reach_le _ _⟩;dsimp only;split;·exact Qm5 _ _
  ·exact h.1
section
variable{s:Qf}
theorem SR.new(most:Int):SR (.new most):=⟨List.Pairwise.nil,RT.new,nofun⟩
theorem SR.add(h:SR s)(c:Yk):SR (s.add c):=by
 unfold Qf.add;split
 ·refine⟨h.row,h.pick.put c,fun l hl d k=>?_⟩;dsimp only at hl;split at hl
  ·rcases Zl.1 hl with hl|hl;·exact h.due l hl d k
   ·obtain rfl:=List.mem_singleton.1 hl;exact Az k
  ·exact h.due l hl d k
 ·exact h
theorem SR.change(h:SR s)(c:Yk):SR (s.change c):=by
 unfold Qf.change;split
 ·refine⟨h.row,h.pick.aK c,fun l hl d k=>?_⟩;obtain⟨x,q,rfl⟩:=Z3.1 hl;split at k;·exact Az k
  ·exact h.due x q d k
 ·exact h
theorem SR.drop(h:SR s)(i:Int):SR (s.drop i):=by
 unfold Qf.drop;split;·exact⟨h.row,h.pick.drop i,fun l hl=>h.due l (List.mem_filter.1 hl).1⟩
 ·exact h
theorem Qiu{row:List Xu}(h:Xd row)(i:Int)(d:Ju):Xd (Hj row i d):=by
 unfold Hj;split;·exact Th h
 ·exact Ie h
theorem SR.setLeaf(h:SR s){l:Qw}(k:∀d,l.debt=some d→d.elig≤Qq∧d.due≤Qq):SR (s.setLeaf l):=by
 refine⟨h.row,h.pick,fun y u d c=>?_⟩;obtain⟨x,q,rfl⟩:=Z3.1 u;split at c;·exact k d c
 ·exact h.due x q d c
theorem SR.owe(h:SR s)(l:Qw)(f:Ju→Ju)(hf:∀d,l.debt=some d→(f d).elig≤Qq∧(f d).due≤Qq):SR (s.owe l f):=by
 unfold Qf.owe;split;·rename_i hn;exact h.setLeaf fun d c=>by rw[hn]at c;cases c
 ·rename_i d c;have:=h.setLeaf (l:={l with debt:=some (f d)}) fun k e=>by obtain rfl:=Zs e;exact hf d c
  exact⟨Qiu h.row _ _,h.pick,this.due⟩
theorem I8{i:Int}{l:Qw}(hl:s.leaf i=some l):l∈s.aI:=List.mem_of_find?_eq_some hl
theorem SR.push(h:SR s)(p:Jr)(now:Nat):SR (s.push p now):=by
 unfold Qf.push;split
 ·split;·exact h
  ·rename_i l hl;have c:=h.due l (I8 hl);dsimp only;split;·exact h.setLeaf c
   ·have:=h.owe {l with q:=l.q++[p]} (fun d=>d.wake now p.len) fun d e=>Qs3 (c d e) _ _;exact⟨this.row,this.pick.wake p.cls now,this.due⟩
 ·exact h
theorem SR.take(h:SR s)(i:Int)(rule:Nat):SR (s.take i rule):=by
 unfold Qf.take;split;·exact h
 ·rename_i l hl;have c:=h.due l (I8 hl);have:=h.owe {l with q:=l.q.tail} (fun d=>d.serve rule (l.q.headD Jr.zero).len (l.q.tail.headD Jr.zero).len) fun d e=>Qp8 (c d e) _ _ _;exact⟨this.row,this.pick.sent i _ _,this.due⟩
end
structure Xp(N:Nat)(s:Qf):Prop extends Vl N s where
 sr:SR s
section
variable{N M:Nat}{s:Qf}
theorem Xp.more(h:Xp N s)(c:N≤M):Xp M s:=⟨h.toVl.more c,h.sr⟩
theorem Xp.new{most:Int}(h1:1≤most)(c:most<65536):Xp N (Qf.new most):=⟨Vl.new h1 c,SR.new most⟩
theorem Xp.add(h:Xp N s){c:Yk}(h0:s.aO c=0):Xp N (s.add c):=⟨h.toVl.add h0,h.sr.add c⟩
theorem Xp.change(h:Xp N s){c:Yk}(h0:s.aG c=0):Xp N (s.change c):=⟨h.toVl.change h0,h.sr.change c⟩
theorem Xp.drop(h:Xp N s){i:Int}(h0:s.aP i=0):Xp N (s.drop i):=⟨h.toVl.drop h0,h.sr.drop i⟩
theorem Xp.push(h:Xp N s){p:Jr}(now:Nat)(h0:s.aQ p=0):Xp (N+16) (s.push p now):=⟨h.toVl.push now h0,h.sr.push p now⟩
theorem Xp.take(h:Xp N s){id:Int}(rule:Nat){l:Qw}(hl:s.leaf id=some l)(c:l.q≠[]):Xp (N+16) (s.take id rule):=⟨h.toVl.take rule hl c,h.sr.take id rule⟩
theorem Xp.next(h:Xp N s)(now:Nat):Xp (N+16) (s.next now).2:=by
 unfold Qf.next;cases d:s.who now with
 |none=>exact h.more (by omega)
 |some x=> obtain⟨id,rule⟩:=x;obtain⟨l,hl,c,_⟩:=h.who d;exact h.take rule hl c
end
section
variable{h:Qm}
theorem Oq(ok:J8 h){i:Int}{c:Vm}(hc:h.at i=some c):(c.sp.par=0∧Xk h i=1)∨∃q,h.at c.sp.par=some q∧q.sp.leaf=false∧Xk h i=Xk h c.sp.par+1:=by rw[V7 hc];refine(ok.par c (Qm.aE hc).1).imp id fun⟨q,d,hl,e⟩=>⟨q,d,hl,?_⟩;rw[V7 d];exact e
theorem Qhi(ok:J8 h):∀{n:Nat}{i j:Int},j∈h.path n i→Xk h j≤Xk h i∧∃c,h.at j=some c
 |0,i,j,d=>by rw[Qm.path]at d;cases d
 |n+1,i,j,d=>by
  rw[Qm.path]at d;cases hc:h.at i with
  |none=>rw[hc]at d;cases d
  |some c=>
   rw[hc]at d;dsimp only at d;rcases Zu.1 d with rfl|d;·exact⟨Zv _,c,hc⟩
   ·obtain⟨h1,k⟩:=Qhi ok d;refine⟨?_,k⟩;rcases Oq ok hc with⟨e,_⟩|⟨q,_,_,e⟩;·have:Xk h c.sp.par=0:=Kr (ok.zero (by omega));omega
    ·omega
theorem Fx(ok:J8 h):∀(n:Nat)(i:Int),(h.path n i).Pairwise fun a b=>Xk h b<Xk h a
 |0,i=>by rw[Qm.path];exact List.Pairwise.nil
 |n+1,i=>by
  rw[Qm.path];cases hc:h.at i with
  |none=>exact List.Pairwise.nil
  |some c=>
   dsimp only;refine List.pairwise_cons.2 ⟨fun j d=>?_,Fx ok n _⟩;have h1:=(Qhi ok d).1;rcases Oq ok hc with⟨e,e1⟩|⟨q,_,_,e⟩;·have:Xk h c.sp.par=0:=Kr (ok.zero (by omega));omega
   ·omega
theorem Qkk(ok:J8 h){n:Nat}{i a b:Int}(ha:a∈h.path n i)(q:b∈h.path n i)(e:Xk h a=Xk h b):a=b:=by
 have hf:=Fx ok n i;generalize h.path n i=l at ha q hf;induction l with
 |nil=>cases ha
 |cons x l z=>
  obtain⟨h1,u⟩:=List.pairwise_cons.1 hf;rcases Zu.1 ha with e1|d
  ·rcases Zu.1 q with k|c;·exact e1.trans k.symm
   ·have:=h1 b c;rw[←e1]at this;omega
  ·rcases Zu.1 q with k|c;·have:=h1 a d;rw[←k]at this;omega
   ·exact z d c u
theorem P7:∀{n:Nat}{i k:Int},k∈h.path n i→k≠i→∃a c,a∈h.path n i∧h.at a=some c∧c.sp.par=k
 |0,i,k,q,_=>by rw[Qm.path]at q;cases q
 |n+1,i,k,q,hne=>by
  rw[Qm.path]at q⊢;cases hc:h.at i with
  |none=>rw[hc]at q;cases q
  |some c=>
   rw[hc]at q;dsimp only at q⊢;rcases Zu.1 q with rfl|q;·exact absurd rfl hne
   ·by_cases e:k=c.sp.par;·exact⟨i,c,List.mem_cons_self,hc,e.symm⟩
    ·obtain⟨a,d,h1,u,z⟩:=P7 q e;exact⟨a,d,Zr _ h1,u,z⟩
theorem Qdc(ok:J8 h):∀{n:Nat}{i:Int}{c:Vm},h.at i=some c→Xk h i≤n→∃a d,a∈h.path n i∧h.at a=some d∧d.sp.par=0
 |0,i,c,hc,hd=>by have:=(ok.dep c (Qm.aE hc).1).1;rw[V7 hc]at hd;omega
 |n+1,i,c,hc,hd=>by
  rw[Qm.path,hc];dsimp only;rcases Oq ok hc with⟨e,_⟩|⟨q,z,_,e⟩;·exact⟨i,c,List.mem_cons_self,hc,e⟩
  ·obtain⟨a,d,h1,k,u⟩:=Qdc ok (n:=n) z (by omega);exact⟨a,d,Zr _ h1,k,u⟩
theorem Nl(ok:J8 h){i:Int}{c:Vm}(hc:h.at i=some c):Xk h i≤8:=by rw[V7 hc];exact(ok.dep c (Qm.aE hc).1).2
theorem Dv{i y:Int}:y∈h.aM i↔∃c∈h,c.sp.id=y∧c.sp.par=i:=by refine⟨Sx,fun⟨c,hc,e1,d⟩=>?_⟩;exact Z3.2 ⟨c,List.mem_filter.2 ⟨hc,by simpa using d⟩,e1⟩
theorem Np(ok:J8 h){id:Int}(hl:∀c,h.at id=some c→c.sp.leaf=false){x:Int}:x∈h.aI id↔∃a∈h.aM id,x∈h.aI a:=by
 rw[Y8];constructor
 ·rintro⟨c,hc,rfl,q,u⟩;have k:=Da ok.sorted hc;have key:∃a d,a∈h.path 9 c.sp.id∧h.at a=some d∧d.sp.par=id:=by
   rcases u with rfl|u;·exact Qdc ok k (by have:=Nl ok k;omega)
   ·refine P7 u ?_;rintro rfl;have:=hl c k;rw[q]at this;cases this
  obtain⟨a,d,ha,z,B⟩:=key;obtain⟨I,E⟩:=Qm.aE z;exact⟨a,Dv.2 ⟨d,I,E,B⟩,Y8.2 ⟨c,hc,rfl,q,.inr ha⟩⟩
 ·rintro⟨a,ha,J⟩;obtain⟨d,z,rfl,B⟩:=Dv.1 ha;obtain⟨c,hc,rfl,q,u⟩:=Y8.1 J;have k:=Da ok.sorted hc;refine⟨c,hc,rfl,q,?_⟩;by_cases h0:id=0;·exact .inl h0
  ·right;rcases u with u|u;·have:=(Cq (ok.may d z)).1;omega
   ·have:=Qhj ok (Nat.lt_succ_of_le (Nl ok k)) u (Da ok.sorted z) (by rw[B];exact h0);rwa[B]at this
theorem No(ok:J8 h){id a b x:Int}(ha:a∈h.aM id)(hb:b∈h.aM id)(I:x∈h.aI a)(J:x∈h.aI b):a=b:=by
 obtain⟨d,K,rfl,hp⟩:=Dv.1 ha;obtain⟨U,u,rfl,E⟩:=Dv.1 hb;obtain⟨c,hc,rfl,ab,h1⟩:=Y8.1 I;obtain⟨c',aa,e,_,B⟩:=Y8.1 J;have i1:=(Cq (ok.may d K)).1;have i2:=(Cq (ok.may U u)).1;have h1:=h1.resolve_left (by omega);have B:=B.resolve_left (by omega);refine Qkk ok h1 B ?_;have k1:=Oq ok (Da ok.sorted K);have k2:=Oq ok (Da ok.sorted u);rw[hp]at k1;rw[E]at k2;rcases k1 with⟨e1,V⟩|⟨q,R,_,V⟩
 ·rcases k2 with⟨_,z⟩|⟨q',k,_,z⟩;·omega
  ·rw[e1,ok.zero (by decide)]at k;cases k
 ·rcases k2 with⟨Z,z⟩|⟨q',k,_,z⟩;·rw[Z,ok.zero (by decide)]at R;cases R
  ·omega
theorem Pe:∀{a b:List Int},a.Pairwise (· < ·)→b.Pairwise (· < ·)→(∀x,x∈a↔x∈b)→a=b
 |[],[],_,_,_=>rfl
 |[],y::b,_,_,h=>by have:=(h y).2 List.mem_cons_self;cases this
 |x::a,[],_,_,h=>by have:=(h x).1 List.mem_cons_self;cases this
 |x::a,y::b,ha,hb,h=>by
  obtain⟨a1,d⟩:=List.pairwise_cons.1 ha;obtain⟨b1,b2⟩:=List.pairwise_cons.1 hb;have e:x=y:=by
   rcases Zu.1 ((h x).1 List.mem_cons_self)with e|k;·exact e
   ·rcases Zu.1 ((h y).2 List.mem_cons_self)with e|q;·exact e.symm
    ·have:=b1 x k;have:=a1 y q;omega
  subst e;congr 1;refine Pe d b2 fun z=>⟨fun c=>?_,fun c=>?_⟩
  ·rcases Zu.1 ((h z).1 (Zr _ c))with rfl|h';·have:=a1 z c;omega
   ·exact h'
  ·rcases Zu.1 ((h z).2 (Zr _ c))with rfl|h';·have:=b1 z c;omega
   ·exact h'
theorem Qhp(ok:J8 h){id:Int}(hl:∀c,h.at id=some c→c.sp.leaf=false):((h.aM id).flatMap h.aI).mergeSort (fun x y=>decide (x≤y))=h.aI id:=by
 have z:((h.aM id).flatMap h.aI).Pairwise (· ≠ ·):=by
  refine List.pairwise_flatMap.2 ⟨fun a _=>(Ut ok a).imp fun{x y}K e=>by omega,?_⟩;have hs:=Gk ok.sorted id;have:∀l:List Int,l.Pairwise (· < ·)→(∀a∈l,a∈h.aM id)→l.Pairwise fun a b=>∀x∈h.aI a,∀y∈h.aI b,x≠y:=by
   intro l;induction l with
   |nil=>intro _ _;exact List.Pairwise.nil
   |cons a l V=> intro I u;obtain⟨p1,Z⟩:=List.pairwise_cons.1 I;refine List.pairwise_cons.2 ⟨fun b E x J y U e=>?_,V Z fun a ha=>u a (Zr _ ha)⟩;subst e;have:=No ok (u a List.mem_cons_self) (u b (Zr _ E)) J U;have:=p1 b E;omega
  exact this _ hs fun a ha=>ha
 have d:=List.mergeSort_perm ((h.aM id).flatMap h.aI) (fun x y=>decide (x≤y));have q:=List.pairwise_mergeSort (le:=fun x y:Int=>decide (x≤y)) (fun a b c h1 k=>by simp only[decide_eq_true_eq]at*;omega) (fun a b=>by simp only[Bool.or_eq_true,decide_eq_true_eq];omega) ((h.aM id).flatMap h.aI);have B:=(d.pairwise_iff (R:=(· ≠ ·)) (fun h e=>h e.symm)).2 z;refine Pe ?_ (Ut ok id) fun x=>?_
 ·refine(q.and B).imp fun{a b}⟨h1,k⟩=>?_;have:a≤b:=by simpa using h1
  have k:a≠b:=k;omega
 ·rw[d.mem_iff,List.mem_flatMap,Np ok hl]
theorem Rf(ok:J8 h){id:Int}{c:Vm}(hc:h.at id=some c)(hl:c.sp.leaf=true):h.aI id=[id]:=by
 have E:=ok.pos hc;refine Pe (Ut ok id) (by simp) fun x=>?_;rw[Y8];constructor
 ·rintro⟨d,U,rfl,J,B⟩;have B:=B.resolve_left (by omega);by_cases e:id=d.sp.id;·simp[e]
  ·obtain⟨a,q,ha,K,k⟩:=P7 B e;rcases Oq ok K with⟨e1,_⟩|⟨z,I,u,_⟩;·omega
   ·rw[k,hc]at I;obtain rfl:=Zs I;rw[hl]at u;cases u
 ·intro R;obtain rfl:x=id:=by simpa using R
  refine⟨c,E.2.2.2.2.2,E.2.2.2.2.1,hl,.inr ?_⟩;rw[Qm.path,hc];exact List.mem_cons_self
end
section
variable{N:Nat}{s:Qf}
theorem Qem{c:Yk}(h:s.aO c≠0):s.add c=s:=by unfold Qf.add;rw[if_neg h]
theorem Sj{c:Yk}(h:s.aG c≠0):s.change c=s:=by unfold Qf.change;rw[if_neg h]
theorem I0{i:Int}(h:s.aP i≠0):s.drop i=s:=by unfold Qf.drop;rw[if_neg h]
theorem Qnm{p:Jr}{now:Nat}(h:s.aQ p≠0):s.push p now=s:=by unfold Qf.push;rw[if_neg h]
theorem Qbc{i:Int}(h:s.leaf i=none):s.qOf i=[]:=by unfold Qf.qOf;rw[h];rfl
theorem Xp.leaf_none(h:Xp N s){i:Int}(hn:s.tree.at i=none):s.leaf i=none:=by
 cases hl:s.leaf i with
 |none=>rfl
 |some l=> obtain⟨k,d,_⟩:=h.at hl;obtain⟨c,hc,_⟩:=k.sp;rw[d,hn]at hc;cases hc
theorem Xp.leaf_at(h:Xp N s){i:Int}{l:Qw}(hl:s.leaf i=some l):∃c,s.tree.at i=some c∧c.sp.leaf=true:=by obtain⟨k,q,_⟩:=h.at hl;obtain⟨c,hc,d,_⟩:=k.sp;rw[q]at hc;exact⟨c,hc,d⟩
theorem Qt8(h:Xp N s)(c:Yk)(i:Int):(s.add c).qOf i=s.qOf i:=by
 by_cases h0:s.aO c=0
 ·have d:s.tree.aO c=0:=h0;have hn:=h.leaf_none (Ub d).2.2.1;unfold Qf.add;rw[if_pos h0];unfold Qf.qOf Qf.leaf;dsimp only;split
  ·have:=Ix (key:=Qw.id) (l:=s.aI) ⟨c.id,c.pk.toNat,c.bt.toNat,[],Xl c.real⟩ i;unfold Hn at this;rw[this];cases k:s.aI.find? (fun x=>decide (x.id=i))with
   |some x=>rfl
   |none=> dsimp only;split<;>rfl
  ·rfl
 ·rw[Qem h0]
theorem Qbb(c:Yk)(i:Int):(s.change c).qOf i=s.qOf i:=by
 by_cases h0:s.aG c=0
 ·unfold Qf.change;rw[if_pos h0];unfold Qf.qOf Qf.leaf;dsimp only;have:=Qm1 (key:=Qw.id) (l:=s.aI) (f:=fun l=>if l.id=c.id then{l with debt:=Xl c.real}else l) (fun l=>by split<;>rfl) i;unfold Hn at this;rw[this];cases d:s.aI.find? (fun x=>decide (x.id=i))with
  |none=>rfl
  |some x=> simp only[Zn];split<;>rfl
 ·rw[Sj h0]
theorem Qsf(h:Xp N s)(d i:Int):(s.drop d).qOf i=s.qOf i:=by
 by_cases h0:s.aP d=0
 ·obtain⟨c,_⟩:=Ng h0;unfold Qf.drop;rw[if_pos h0];unfold Qf.qOf Qf.leaf;dsimp only;have:=Qgi (key:=Qw.id) (l:=s.aI) d i;unfold Hn Kp at this;rw[this];split
  ·rename_i e;cases k:s.aI.find? (fun x=>decide (x.id=i))with
   |none=>rfl
   |some x=>
    have hl:s.leaf d=some x:=by rw[←e];exact k
    simp[h.idle hl c]
  ·rfl
 ·rw[I0 h0]
theorem Qbd{l l':Qw}{row:List Xu}{p:Qe}{i:Int}(hl:s.leaf i=some l)(c:l'.id=i)(j:Int):Qf.qOf {s with aI:=Lg Qw.id l' s.aI,row:=row,pick:=p} j=if j=i then l'.q else s.qOf j:=by unfold Qf.qOf Qf.leaf;dsimp only;have:=Qeo (key:=Qw.id) (x:=l') (y:=l) (l:=s.aI) (by rw[c];exact hl) j;unfold Hn at this;rw[this,c];split<;>rfl
theorem Qsg(h:Xp N s){p:Jr}(now:Nat)(h0:s.aQ p=0)(i:Int):(s.push p now).qOf i=if i=p.cls then s.qOf p.cls++[p]else s.qOf i:=by
 obtain⟨c,l,hc,B,z,hl,u⟩:=Mk h0;have k:=(h.at hl).2.1;rw[Ct h0 hl,Ov hl];split;·exact Qbd (l:=l) (l':={l with q:=l.q++[p]}) (row:=s.row) (p:=s.pick) hl k i
 ·rw[Rm];exact Qbd (l:=l) (l':={l with q:=l.q++[p],debt:=l.debt.map fun d=>d.wake now p.len}) hl k i
theorem Qsh(h:Xp N s){id:Int}(rule:Nat){l:Qw}(hl:s.leaf id=some l)(i:Int):(s.take id rule).qOf i=if i=id then l.q.tail else s.qOf i:=by have c:=(h.at hl).2.1;rw[Fd hl,Rm];exact Qbd (l:=l) (l':={l with q:=l.q.tail,debt:=l.debt.map fun d=>d.serve rule (l.q.headD Jr.zero).len (l.q.tail.headD Jr.zero).len}) hl c i
theorem Ro{h:Qm}{c:Yk}(h0:h.aG c=0):∀(n:Nat)(i:Int),(h.change c).path n i=h.path n i
 |0,_=>rfl
 |n+1,i=>by
  obtain⟨k,d,_⟩:=Gb h0;rw[Qm.path,Qm.path,Si h0];by_cases e:i=c.id;·rw[if_pos e,d,e,d];dsimp only[Zn];rw[Ro h0 n];rfl
  ·rw[if_neg e];cases h.at i with
   |none=>rfl
   |some x=> dsimp only;rw[Ro h0 n]
theorem Qci{h:Qm}(ok:J8 h){c:Yk}(h0:h.aG c=0)(i:Int):(h.change c).aI i=h.aI i:=by
 have J:=ok.change h0;refine Pe (Ut J i) (Ut ok i) fun x=>?_;rw[Y8,Y8];have key:(∃d∈h.change c,d.sp.id=x∧d.sp.leaf=true)↔∃d∈h,d.sp.id=x∧d.sp.leaf=true:=by
  unfold Qm.change;rw[if_pos h0];constructor
  ·rintro⟨d,q,e1,k⟩;obtain⟨y,K,rfl⟩:=Z3.1 q;refine⟨y,K,?_,?_⟩;·rw[←e1];split<;>rfl
   ·rw[←k];split<;>rfl
  ·rintro⟨d,q,e1,k⟩;refine⟨_,Z3.2 ⟨d,q,rfl⟩,?_,?_⟩;·rw[←e1];split<;>rfl
   ·rw[←k];split<;>rfl
 rw[Ro h0];constructor;·rintro⟨d,q,e1,k,I⟩;obtain⟨z,u,B,E⟩:=key.1 ⟨d,q,e1,k⟩;exact⟨z,u,B,E,I⟩
 ·rintro⟨d,q,e1,k,I⟩;obtain⟨z,u,B,E⟩:=key.2 ⟨d,q,e1,k⟩;exact⟨z,u,B,E,I⟩
theorem Qhv(h:Xp N s){c:Yk}(h0:s.aG c=0)(i:Int):(s.change c).many i=s.many i:=by
 have h1:=(L8 h0).2;have e:(s.change c).tree=s.tree.change c:=by unfold Qf.change;rw[if_pos h0]
 unfold Qf.many;rw[e,Qci h.tree h1];congr 1;exact List.map_congr_left fun x _=>by rw[Qbb]
theorem Qhw(i:Int):0≤s.many i:=by
 unfold Qf.many;generalize s.tree.aI i=l;induction l with
 |nil=>simp
 |cons x l c=>rw[List.map_cons,List.sum_cons];omega
theorem Qo7{i:Int}(h:¬0<s.many i):s.many i=0:=by have:=Qhw (s:=s) i;omega
theorem Qdq(h:Xp N s){i:Int}{c:Vm}(hc:s.tree.at i=some c)(d:c.sp.leaf=true):s.many i=((s.qOf i).length:Int)∧s.bytes i=Jn (s.qOf i):=by unfold Qf.many Qf.bytes;rw[Rf h.tree hc d];simp
theorem G8(h:Xp N s){x:Int}:x∈s.tree.aI 0↔∃l,s.leaf x=some l:=by
 rw[Y8];constructor;·rintro⟨c,hc,rfl,hl,_⟩;exact h.lv _ c (Da h.tree.sorted hc) hl
 ·rintro⟨l,hl⟩;obtain⟨c,hc,d⟩:=h.leaf_at hl;obtain⟨k,hi⟩:=Qm.aE hc;exact⟨c,k,hi,d,.inl rfl⟩
theorem Qtp{n:Int}(k:∀c∈s.tree,c.sp.id<n){c:Yk}(hc:c.id<n):∀x∈(s.add c).tree,x.sp.id<n:=by
 by_cases h0:s.aO c=0
 ·have d:s.tree.aO c=0:=h0;have e:(s.add c).tree=s.tree.add c:=by unfold Qf.add;rw[if_pos h0]
  rw[e,Bv d];intro x q;have:=(Ef ⟨c,s.tree.depth c.par⟩ s.tree).mem_iff.1 q;rcases Zl.1 this with h|h;·exact k x h
  ·obtain rfl:x=⟨c,s.tree.depth c.par⟩:=by simpa using h
   exact hc
 ·rw[Qem h0];exact k
theorem Qkm{n:Int}(d:∀c∈s.tree,c.sp.id<n)(c:Yk):∀x∈(s.change c).tree,x.sp.id<n:=by
 by_cases h0:s.aG c=0
 ·have e:(s.change c).tree=s.tree.change c:=by unfold Qf.change;rw[if_pos h0]
  rw[e];unfold Qm.change;rw[if_pos (L8 h0).2];intro x k;obtain⟨y,q,rfl⟩:=Z3.1 k;have:=d y q;split<;>exact this
 ·rw[Sj h0];exact d
theorem Qrp{n:Int}(k:∀c∈s.tree,c.sp.id<n)(d:Int):∀x∈(s.drop d).tree,x.sp.id<n:=by
 by_cases h0:s.aP d=0
 ·have e:(s.drop d).tree=s.tree.drop d:=by unfold Qf.drop;rw[if_pos h0]
  rw[e];unfold Qm.drop;rw[if_pos (Ng h0).2];intro x q;exact k x (List.mem_filter.1 q).1
 ·rw[I0 h0];exact k
theorem Qpn(p:Jr)(now:Nat):(s.push p now).tree=s.tree:=by
 unfold Qf.push;split
 ·cases hl:s.leaf p.cls with
  |none=>rfl
  |some l=>
   dsimp only;split;·rfl
   ·rw[Rm]
 ·rfl
theorem Qqk(id:Int)(rule:Nat):(s.take id rule).tree=s.tree:=by
 unfold Qf.take;cases hl:s.leaf id with
 |none=>rfl
 |some l=> dsimp only;rw[Rm]
theorem Qdz(now:Nat):(s.next now).2.tree=s.tree:=by
 unfold Qf.next;cases s.who now with
 |none=>rfl
 |some x=>exact Qqk _ _
end
def Cp(p:Jr)(most:Int):Int:=if most<1∨65536≤most then 2 else if p.len<1∨most<p.len then 100 else 0
theorem Rn(p:Jr)(most:Int)(w):
  Cl 72 #[.agg #[.int .u64 p.id,.int .i64 p.cls,.int .i64 p.len,.int .u64 p.at_],.int .i64 most] w fun e w'=>e=.returned (.int .i64 (Cp p most))∧Qc Qb w w':=by
 obtain⟨id,cls,len,at_⟩:=p;by_cases h1:most<1;·have E:=O (show Cp ⟨id,cls,len,at_⟩ most=2 from if_pos (.inl h1));go_enter func72,ntmps72;go_wp2;go_ret;exact⟨by rw[E.o];rfl,(Zg _ _).alloc _⟩
 ·by_cases d:65536≤most;·have E:=O (show Cp ⟨id,cls,len,at_⟩ most=2 from if_pos (.inr d));go_enter func72,ntmps72;go_wp2;go_ret;exact⟨by rw[E.o];rfl,(Zg _ _).alloc _⟩
  ·have c:Cp ⟨id,cls,len,at_⟩ most=if len<1∨most<len then 100 else 0:=if_neg (by omega);by_cases k:len<1;·have E:=O (c.trans (if_pos (.inl k)));clear c;go_enter func72,ntmps72;go_wp2;go_ret;exact⟨by rw[E.o];rfl,(Zg _ _).alloc _⟩
   ·by_cases q:most<len;·have E:=O (c.trans (if_pos (.inr q)));clear c;go_enter func72,ntmps72;go_wp2;go_ret;exact⟨by rw[E.o];rfl,(Zg _ _).alloc _⟩
    ·have E:=O (c.trans (if_neg (by omega)));clear c;go_enter func72,ntmps72;go_wp2;go_ret;exact⟨by rw[E.o];rfl,(Zg _ _).alloc _⟩
theorem Qa9{w}{b r pk bt:Nat}(h:Jz w b r pk bt []):
  Cl 96 #[.pointer (some ⟨b,0,none⟩)] w fun e w'=>e=.returned (.tuple #[.agg #[.int .u64 0,.int .i64 0,.int .i64 0,.int .u64 0],.bool false])∧Qc Qb w w':=by
 have Xg:=h.lt;obtain⟨_,p1,q,_,_,_,_,_,L,f,q1,_⟩:=h;have c:=q1.cell 0;have d:=q1.cell 4;simp at c d;have N:=O (fun o=>Hy b pk (w.alloc o) (by rw[World.cell?_alloc_past _ _ _ Xg.1];exact c) (by omega));have k:=Xg.1;clear q1 Xg;go_enter func96,ntmps96;go_wp2_with fail;refine Zz (N.o _) ?_;rintro w1 rfl;go_wp2;refine bodyPost_ret (v:=.tuple #[.agg #[.int .u64 0,.int .i64 0,.int .i64 0,.int .u64 0],.bool false]) (by simp[results,Tryz.results96,go_sem]) rfl ⟨rfl,?_⟩;exact Zh (Zg _ _) _
theorem Qba{w}{b r pk bt:Nat}{p:Jr}{l:List Jr}(h:Jz w b r pk bt (p::l)):
  Cl 96 #[.pointer (some ⟨b,0,none⟩)] w fun e w'=>e=.returned (.tuple #[.agg #[.int .u64 p.id,.int .i64 p.cls,.int .i64 p.len,.int .u64 p.at_],.bool true])∧Qc Qb w w':=by
 have Xg:=h.lt;obtain⟨_,p1,p2,_,_,m1,_,_,L,f,q1,q2,hf,hl,hL,hr⟩:=h;have c:L[f]? =some p:=by have:=hr 0 (by simp);rw[Nat.add_zero,Nat.mod_eq_of_lt hf]at this;simpa using this
 have d:L[f]=p:=by rw[List.getElem?_eq_getElem hf]at c;exact Zs c
 have u:=q1.cell 0;have z:=q1.cell 2;have B:=q1.cell 3;have E:=q1.cell 4;have J:=q2.cellAt Jr.aF f hf 0 _ (by rw[d];rfl);have K:=q2.cellAt Jr.aF f hf 1 _ (by rw[d];rfl);have R:=q2.cellAt Jr.aF f hf 2 _ (by rw[d];rfl);have U:=q2.cellAt Jr.aF f hf 3 _ (by rw[d];rfl);simp at u z B E J K R U;have N:=O (fun o=>Hy b pk (w.alloc o) (by rw[World.cell?_alloc_past _ _ _ Xg.1];exact u) (by omega));have hb:=Xg.1;have I:=Xg.2;have V:(0:Int)≤(f:Int):=by omega
 have Z:(f:Int)<(L.length:Int):=by omega
 have n0:((l.length:Int)+1==0)=false:=by rw[beq_eq_false_iff_ne];omega
 clear q1 q2 Xg hr c d;go_enter func96,ntmps96;go_wp2_with fail;refine Zz (N.o _) ?_;rintro w1 rfl;go_wp2;refine Yi 0 10 Zq (by kernel_rfl) (fun _ _ _ _ _ h=>h) ?_;simp only[List.take_succ_cons,List.take_zero,List.drop_succ_cons,List.drop_zero];repeat(quiet_step ((fail)))
 refine wpQuiet_nil ?_;intro _ q;obtain⟨nq,k⟩:=q;subst k;go_wp2;refine bodyPost_ret (v:=.tuple #[.agg #[.int .u64 p.id,.int .i64 p.cls,.int .i64 p.len,.int .u64 p.at_],.bool true]) (by simp[results,Tryz.results96,go_sem]) rfl ⟨rfl,?_⟩;exact Zk (Zk (Zk (Zk (Zi (Zh (Zg _ _) _) _) _ (.inr (by simp))) _ (.inr (by simp))) _ (.inr (by simp))) _ (.inr (by simp))
theorem Qfk{L:List Jr}{f:Nat}{p:Jr}{l:List Jr}(h:Ow L f (p::l)):Ow L ((f+1)%L.length) l:=by intro i hi;have:=h (i+1) (by simpa using hi);rw[Nat.mod_add_mod,show f+1+i=f+(i+1) by omega];simpa using this
theorem Qps{w}{b r pk bt:Nat}(h:Jz w b r pk bt []):
  Cl 95 #[.pointer (some ⟨b,0,none⟩)] w fun e w'=>e=.returned (.tuple #[.agg #[.int .u64 0,.int .i64 0,.int .i64 0,.int .u64 0],.bool false])∧Qc Qb w w':=by
 have N:=O (fun o=>Qa9 (h.aB ((Zg Qb w).alloc o) (fun h=>h) (fun h=>h)));clear h;go_enter func95,ntmps95;go_wp2_with fail;refine Zz (N.o _) ?_;intro w1 hc;have hs:w.heap.size<w1.heap.size:=by have:=hc.size;simp at this;omega
 have k:=(Qh.new w #[.int .u64 0,.int .i64 0,.int .i64 0,.int .u64 0] 34);have q1:=hc.blk k (fun h=>h);have k0:=q1.cell 0;have k1:=q1.cell 1;have k2:=q1.cell 2;have d:=q1.cell 3;have z:=q1.frozen;simp at k0 k1 k2 d;have c:=O hc;clear hc k q1;go_wp2;refine bodyPost_ret (v:=.tuple #[.agg #[.int .u64 0,.int .i64 0,.int .i64 0,.int .u64 0],.bool false]) (by simp[results,Tryz.results95,go_sem,hs,k0,k1,k2,d]) rfl ⟨rfl,?_⟩;have c:=c.o;refine((((Zg Qb w).alloc _).aA c))|>fun h=>?_;exact Zh (Zk (Zk (Zk (Zk h _ (.inr (by simp))) _ (.inr (by simp))) _ (.inr (by simp))) _ (.inr (by simp))) _
theorem Qpt{w}{b r pk bt:Nat}{p:Jr}{l:List Jr}(h:Jz w b r pk bt (p::l)):
  Cl 95 #[.pointer (some ⟨b,0,none⟩)] w fun e w'=>e=.returned (.tuple #[.agg #[.int .u64 p.id,.int .i64 p.cls,.int .i64 p.len,.int .u64 p.at_],.bool true])∧
   Jz w' b r pk bt l∧Qc (fun k=>k=b) w w':=by
 have N:=O (fun o=>Qba (h.aB ((Zg Qb w).alloc o) (fun h=>h) (fun h=>h)));have Xg:=h.lt;obtain⟨ne,p1,p2,b1,b2,m1,s1,J,L,f,q1,q2,hf,hl,hL,hr⟩:=h;have gp:=J p (by simp);have s0:=Hd l (fun q hq=>J q (by simp[hq]));obtain⟨ag,ah⟩:=gp;have hm:l.length<pk:=by simp at m1;omega
 have ak:l.length+1≤L.length:=by simpa using hl
 have es:Jn (p::l)=p.len+Jn l:=rfl;rw[es]at s1 q1;simp only[Zm]at q1;have V:=O (fun(W)(cs:Array Value)(I:cs=#[.int .i64 pk,.int .i64 bt,.slice (some ⟨r,0,none⟩) L.length L.length,.int .i64 (((f:Int)+1)%(L.length:Int)),.int .i64 l.length,.int .i64 (p.len+Jn l-p.len)])
   (B:Qh W b cs 123) (R:RowBlk Jr.cells W r L 34)=>show Jz W b r pk bt l by
  have e1:((f:Int)+1)%(L.length:Int)=(((f+1)%L.length:Nat):Int):=by simp
  have e2:p.len+Jn l-p.len=Jn l:=by omega
  rw[e1,e2]at I;subst I;exact⟨ne,p1,p2,b1,b2,by omega,by omega,fun q hq=>J q (by simp[hq]),L,(f+1)%L.length,B,R,Nat.mod_lt _ (by omega),by omega,hL,Qfk hr⟩)
 go_enter func95,ntmps95;go_wp2_with fail;refine Zz (N.o _) ?_;intro w1 d;have hc:=((Zg Qb w).alloc (.cells #[.int .u64 0,.int .i64 0,.int .i64 0,.int .u64 0] 34)).aA d;have hs:w.heap.size<w1.heap.size:=by have:=d.size;simp at this;omega
 have z0:=d.blk (Qh.new w #[.int .u64 0,.int .i64 0,.int .i64 0,.int .u64 0] 34) (fun h=>h);have k0:=z0.cell 0;have k1:=z0.cell 1;have k2:=z0.cell 2;have k3:=z0.cell 3;have z:=z0.frozen;have c:=hc.blk q1 (fun h=>h);have U:=hc.blk q2 (fun h=>h);have d2:=c.cell 2;have d3:=c.cell 3;have d4:=c.cell 4;have d5:=c.cell 5;have dz:=c.frozen;simp at k0 k1 k2 k3 d2 d3 d4 d5;have ai:b<w1.heap.size:=by omega
 have af:¬w.heap.size=b:=by omega
 have aa:¬w1.heap.size=b:=by omega
 have ab:¬b=w.heap.size:=by omega
 have ac:¬b=w1.heap.size:=by omega
 have P:=O (fun W(h2:W.cell? ⟨b,2,none⟩=w1.cell? ⟨b,2,none⟩)(h3:W.cell? ⟨b,3,none⟩=w1.cell? ⟨b,3,none⟩)=>Ml b f 1 (some ⟨r,0,none⟩) L.length L.length W (h2.trans d2) (h3.trans d3) (by omega) (by omega) (by omega) (by omega) (by omega) (by omega));have Z:=O (Zt hc (Zt d (Zt c U)));have HR:=O hr;have HG:=O J;have HQ:=O (Zt q1 (Zt q2 hl));clear hc d z0 c U hr J q1 q2 hl m1 es;go_wp2_with fail;refine Zz (P.o _ (by go_simp) (by go_simp)) ?_;rintro w2⟨k,rfl⟩;go_wp2;refine Yi 0 9 Zq (by kernel_rfl) (fun _ _ _ _ _ h=>h) ?_;simp only[List.take_succ_cons,List.take_zero,List.drop_succ_cons,List.drop_zero];repeat(quiet_step ((fail)))
 refine wpQuiet_nil ?_;intro _ ae;obtain⟨nq,K⟩:=ae;subst K;go_wp2;refine bodyPost_ret (v:=.tuple #[.agg #[.int .u64 p.id,.int .i64 p.cls,.int .i64 p.len,.int .u64 p.at_],.bool true]) (by simp[results,Tryz.results95,go_sem,hs,k0,k1,k2,k3]) rfl ⟨rfl,?_,?_⟩
 ·have hn:¬((⟨w.heap.size,0,none⟩:Addr).block=b):=fun h=>by simp at h;omega
  have B:=((((((((((Z.o.2.2.1.alloc (.cells #[.int .u64 p.id,.int .i64 p.cls,.int .i64 p.len,.int .u64 p.at_] 34)).drewN k).set 3 (.int .i64 (((f:Int)+1)%(L.length:Int)))).set 4 (.int .i64 l.length)).drewN nq).set 5 (.int .i64 (p.len+Jn l-p.len))).other (a:=⟨w.heap.size,0,none⟩) (.int .u64 p.id) hn).other (a:=⟨w.heap.size,1,none⟩) (.int .i64 p.cls) hn).other (a:=⟨w.heap.size,2,none⟩) (.int .i64 p.len) hn).other (a:=⟨w.heap.size,3,none⟩) (.int .u64 p.at_) hn);have u:¬((⟨w.heap.size,0,none⟩:Addr).block=r):=fun h=>by simp at h;omega
  have E:¬((⟨b,0,none⟩:Addr).block=r):=ne;have R:=((((((((((Z.o.2.2.2.alloc (.cells #[.int .u64 p.id,.int .i64 p.cls,.int .i64 p.len,.int .u64 p.at_] 34)).drewN k).other (a:=⟨b,3,none⟩) (.int .i64 (((f:Int)+1)%(L.length:Int))) E).other (a:=⟨b,4,none⟩) (.int .i64 l.length) E).drewN nq).other (a:=⟨b,5,none⟩) (.int .i64 (p.len+Jn l-p.len)) E).other (a:=⟨w.heap.size,0,none⟩) (.int .u64 p.id) u).other (a:=⟨w.heap.size,1,none⟩) (.int .i64 p.cls) u).other (a:=⟨w.heap.size,2,none⟩) (.int .i64 p.len) u).other (a:=⟨w.heap.size,3,none⟩) (.int .u64 p.at_) u);exact V.o _ _ (by simp) B R
 ·have aj:Qc (fun k=>k=b) w w1:=Z.o.1.mono fun _ h=>h.elim;exact Zk (Zk (Zk (Zk (Zk (Zi (Zk (Zk (Zi (Zh aj _) _) _ (.inl rfl)) _ (.inl rfl)) _) _ (.inl rfl)) _ (.inr (by simp))) _ (.inr (by simp))) _ (.inr (by simp))) _ (.inr (by simp))
theorem Qt7(pk bt:Nat)(w)(h1:1≤pk)(q:pk≤4096)(u:1≤bt)(z:bt≤16777216):
  Cl 70 #[.int .i64 pk,.int .i64 bt] w fun e w'=>e=.returned (.pointer (some ⟨w.heap.size+1,0,none⟩))∧Jz w' (w.heap.size+1) w.heap.size pk bt []∧Qc Qb w w':=by
 have K:(1:Int)≤(pk:Int):=by omega
 have R:(pk:Int)≤4096:=by omega
 have U:(1:Int)≤(bt:Int):=by omega
 have V:(bt:Int)≤16777216:=by omega
 have fin:∀(n:Nat)(W),1≤n→n≤4096→Qh W w.heap.size (Jm Jr.cells (List.replicate n Jr.zero)).toArray 34→Qh W (w.heap.size+1) #[.int .i64 pk,.int .i64 bt,.slice (some ⟨w.heap.size,0,none⟩) n n,.int .i64 0,.int .i64 0,.int .i64 0] 123→
   Jz W (w.heap.size+1) w.heap.size pk bt []:=fun n W E I hr B=>
  ⟨by omega,h1,q,u,z,by simp,by simp[Jn],by simp,List.replicate n Jr.zero,0,by simpa[Jn]using B,hr,by simp;omega,by simp,by simp;omega,fun i hi=>absurd hi (by simp)⟩
 by_cases J:4≤pk
 ·have mk:∀w:World,(Instr.makeSlice 27 (.int .i64 4) (.int .i64 4)).run prog w=.ok (.slice (some ⟨w.heap.size,0,none⟩) 4 4) (w.alloc (.cells (Jm Jr.cells (List.replicate 4 Jr.zero)).toArray 34)):=
   fun w=>Gi pktT 4 (by omega) (by omega) w
  generalize d:(Jm Jr.cells (List.replicate 4 Jr.zero)).toArray=Z at mk;have k:=O d;have c:=O (fin 4);clear d fin;go_enter func70,ntmps70;go_wp2;go_ret;refine⟨rfl,c.o _ (by omega) (by omega) ?_ ?_,?_⟩;·rw[k.o];exact(Qh.new w Z 34).alloc _
  ·exact Qh.new' _ _ (by simp)
  ·exact Zh (Zh (Zg _ _) _) _
 ·have mk:∀w:World,(Instr.makeSlice 27 (.int .i64 pk) (.int .i64 pk)).run prog w=.ok (.slice (some ⟨w.heap.size,0,none⟩) pk pk) (w.alloc (.cells (Jm Jr.cells (List.replicate pk Jr.zero)).toArray 34)):=
   fun w=>Gi pktT pk (by omega) (by omega) w
  generalize d:(Jm Jr.cells (List.replicate pk Jr.zero)).toArray=Z at mk;have k:=O d;have c:=O (fin pk);clear d fin;go_enter func70,ntmps70;go_wp2;go_ret;refine⟨rfl,c.o _ (by omega) (by omega) ?_ ?_,?_⟩;·rw[k.o];exact(Qh.new w Z 34).alloc _
  ·exact Qh.new' _ _ (by simp)
  ·exact Zh (Zh (Zg _ _) _) _
theorem Qoq{T:Type}(L:List T)(z:T)(f m:Nat)(k:m=L.length-f)(hf:f<L.length):
  (((List.replicate (2*L.length) z).take 0++L.drop f++(List.replicate (2*L.length) z).drop (0+(L.drop f).length)).take m++L.take f++
   ((List.replicate (2*L.length) z).take 0++L.drop f++(List.replicate (2*L.length) z).drop (0+(L.drop f).length)).drop (m+(L.take f).length))=L.drop f++L.take f++List.replicate L.length z:=by
 have c:(L.drop f).length=m:=by simp;omega
 have d:(L.take f).length=f:=by simp;omega
 simp only[List.take_zero,List.nil_append,Nat.zero_add,List.drop_replicate,c,d];rw[List.take_left' c,←List.drop_drop,List.drop_left' c,List.drop_replicate,show 2*L.length-m-f=L.length by omega]
theorem Qpp{w}{b r:Nat}(c0 c1 c4 c5:Value)(L:List Jr)(f:Nat)(hf:f<L.length)(hL:L.length≤4096)(aa:b≠r)
  (q1:Qh w b #[c0,c1,.slice (some ⟨r,0,none⟩) L.length L.length,.int .i64 f,c4,c5] 123)(q2:RowBlk Jr.cells w r L 34):
  Cl 130 #[.pointer (some ⟨b,0,none⟩)] w fun e w'=>e=.returned (.tuple #[])∧
   Qh w' b #[c0,c1,.slice (some ⟨w.heap.size,0,none⟩) (2*L.length) (2*L.length),.int .i64 0,c4,c5] 123∧
   RowBlk Jr.cells w' w.heap.size (L.drop f++L.take f++List.replicate L.length Jr.zero) 34∧Qc (fun k=>k=b) w w':=by
 have hb:=q1.lt;have hr:=q2.lt;have d2:=q1.cell 2;have d3:=q1.cell 3;simp at d2 d3;have mk:∀w:World,(Instr.makeSlice 27 (.int .i64 (2*(L.length:Int))) (.int .i64 (2*(L.length:Int)))).run prog w=.ok (.slice (some ⟨w.heap.size,0,none⟩) (2*L.length) (2*L.length)) (w.alloc (.cells (Jm Jr.cells (List.replicate (2*L.length) Jr.zero)).toArray 34)):=
  fun w=>by simpa using Gi pktT (2*L.length) (by omega) (by omega) w
 generalize hz:(Jm Jr.cells (List.replicate (2*L.length) Jr.zero)).toArray=Z at mk;have HZ:=O hz;have V:=O (Zt q1 q2);have f0:(0:Int)≤(f:Int):=by omega
 have f1:(f:Int)≤(L.length:Int):=by omega
 have f2:¬L.length=f:=by omega
 clear hz q1 q2;go_enter func130,ntmps130;go_wp2;refine Yi 1 10 Zq (by kernel_rfl) (fun _ _ _ _ _ h=>h) ?_;simp only[List.take_succ_cons,List.take_zero,List.drop_succ_cons,List.drop_zero];repeat(quiet_step ((fail)))
 refine wpQuiet_nil ?_;intro _ d;obtain⟨nq,c⟩:=d;subst c;refine Dy pktT rfl (.tmp 11) (.tmp 20) rfl _ _ _ _ _ _ rfl rfl w.heap.size 0 (List.replicate (2*L.length) Jr.zero) 34 ?_ (L.drop f) ?_ ?_ ?_ ?_ ?_;·show Qh _ _ _ _;rw[HZ.o];exact(Qh.new w Z 34).drewN _
 ·rw[List.length_drop];show _=min _ _;omega
 ·intro _;rfl
 ·have:=(RowBlk.row Jr.aF ((V.o.2.alloc (.cells Z 34)).drewN nq)).drop f;simpa using this
 ·simp;omega
 intro w1 R1 I;have u:Qc (fun k=>k=b) w w1:=((((Zg (fun k=>k=b) w).alloc (.cells Z 34)).drewN nq).trans I (fun k hk=>.inr (by omega)));have E:=I.blk (((V.o.1.alloc (.cells Z 34)).drewN nq)) (by omega);have R2:=I.blk (((V.o.2.alloc (.cells Z 34)).drewN nq)) (by omega);have e2:=E.cell 2;have e3:=E.cell 3;simp at e2 e3;obtain⟨m,hm⟩:=Zx (L.length-f);have l0:(0:Int)≤(m:Int):=by omega
 have l1:(m:Int)≤2*(L.length:Int):=by omega
 have l2:m<2*L.length:=by omega
 have J:=O (Zt u (Zt E (Zt R1 R2)));clear u E R2 R1 I;simp only[List.length_drop];rw[←hm];have U:=O hm;clear hm;go_wp2;refine Yi 2 12 Zq (by kernel_rfl) (fun _ _ _ _ _ h=>h) ?_;simp only[List.take_succ_cons,List.take_zero,List.drop_succ_cons,List.drop_zero];repeat(quiet_step ((fail)))
 refine wpQuiet_nil ?_;intro _ d;obtain⟨nq,c⟩:=d;subst c;refine Dy pktT rfl (.tmp 24) (.tmp 33) rfl _ _ _ _ _ _ rfl rfl w.heap.size m _ 34 (J.o.2.2.1.drewN _) (L.take f) ?_ ?_ ?_ ?_ ?_;·rw[List.length_take];show _=min _ _;have:=U.o;omega
 ·intro _;rw[if_neg (by omega)]
 ·exact(RowBlk.row Jr.aF (Qh.drewN J.o.2.2.2 _)).take f
 ·have:=U.o;simp;omega
 intro w2 R3 K;have z:=(J.o.1.drewN nq).trans (S':=fun k=>k=w.heap.size) K (fun k hk=>.inr (by omega));have q:=K.blk (J.o.2.1.drewN _) (by omega);have e2:=q.cell 2;have e3:=q.cell 3;have ez:=q.frozen;simp at e2 e3;have R:=O (Zt z (Zt q R3));clear z q R3 K;go_wp2;go_end0;refine⟨rfl,?_,?_,?_⟩;·have B:=(R.o.2.1.set 2 (.slice (some ⟨w.heap.size,0,none⟩) (2*L.length) (2*L.length))).set 3 (.int .i64 0);simpa using B
 ·rw[←List.append_assoc,←Qoq L Jr.zero f m U.o hf];exact(Qh.other (Qh.other R.o.2.2 (a:=⟨b,2,none⟩) _ (by show b≠_;omega)) (a:=⟨b,3,none⟩) _ (by show b≠_;omega))
 ·have:=R.o.1;exact Zk (Zk this _ (.inl rfl)) _ (.inl rfl)
def D8(pk bt:Nat)(l:List Jr)(p:Jr):Int:=
 if p.len<1∨65535<p.len then 100 else if l.length=pk∨(bt:Int)-Jn l<p.len then 110 else 0
theorem Qlu{w}{b r pk bt:Nat}{l:List Jr}(h:Jz w b r pk bt l)(p:Jr)(q:p.len<1∨65535<p.len):
  Cl 73 #[.pointer (some ⟨b,0,none⟩),.agg #[.int .u64 p.id,.int .i64 p.cls,.int .i64 p.len,.int .u64 p.at_]] w fun e w'=>e=.returned (.int .i64 100)∧Qc Qb w w':=by
 have d:Cp p 65535=100:=by unfold Cp;rw[if_neg (by omega),if_pos (by omega)]
 have Xg:=h.lt;obtain⟨_,p1,u,_,_,_,_,_,L,f,q1,_⟩:=h;have c:=q1.cell 0;simp at c;have N:=O (fun o=>Hy b pk (w.alloc o) (by rw[World.cell?_alloc_past _ _ _ Xg.1];exact c) (by omega));have M:=O (fun w=>Rn p 65535 w);rw[d]at M;clear q1 d;go_enter func73,ntmps73;go_wp2_with fail;refine Zz (N.o _) ?_;rintro w1 rfl;go_wp2_with fail;refine Zz (M.o _) ?_;intro w2 hc;have k:=O hc;clear hc;go_wp2;go_ret;exact⟨rfl,((Zg _ _).alloc _).aA k.o⟩
theorem Qlt{w}{b r pk bt:Nat}{l:List Jr}(h:Jz w b r pk bt l)(p:Jr)(hp:1≤p.len)(R:p.len≤65535)(c:l.length=pk∨(bt:Int)-Jn l<p.len):
  Cl 73 #[.pointer (some ⟨b,0,none⟩),.agg #[.int .u64 p.id,.int .i64 p.cls,.int .i64 p.len,.int .u64 p.at_]] w fun e w'=>e=.returned (.int .i64 110)∧Qc Qb w w':=by
 have I:Cp p 65535=0:=by unfold Cp;rw[if_neg (by omega),if_neg (by omega)]
 have Xg:=h.lt;obtain⟨_,p1,p2,b1,b2,_,s1,B,L,f,q1,_⟩:=h;have s0:=Hd l B;have z:=q1.cell 0;simp at z;have N:=O (fun o=>Hy b pk (w.alloc o) (by rw[World.cell?_alloc_past _ _ _ Xg.1];exact z) (by omega));have M:=O (fun w=>Rn p 65535 w);rw[I]at M;have Z:=Qh.new w #[.int .u64 p.id,.int .i64 p.cls,.int .i64 p.len,.int .u64 p.at_] 34;have Q:=q1.alloc (.cells #[.int .u64 p.id,.int .i64 p.cls,.int .i64 p.len,.int .u64 p.at_] 34);have q:=O (Zt Z Q);have E:=Xg.1;clear q1 I Z Q B Xg;go_enter func73,ntmps73;go_wp2_with fail;refine Zz (N.o _) ?_;rintro w1 rfl;go_wp2_with fail;refine Zz (M.o _) ?_;intro w2 hc;have u:=hc.blk q.o.1 (fun h=>h);have d:=hc.blk q.o.2 (fun h=>h);have z2:=u.cell 2;have k0:=d.cell 0;have k1:=d.cell 1;have U:=d.cell 4;have V:=d.cell 5;simp at z2 k0 k1 U V;have k:=O hc;clear hc u d;by_cases hl:l.length=pk
 ·have g:((l.length:Int)==(pk:Int))=true:=by simp[hl]
  have K:=O hl;have J:=O c;clear hl c;go_wp2;go_quiet (fail);go_wp2;go_ret;exact⟨rfl,(((Zg _ _).alloc _).aA k.o).drewN _⟩
 ·have g:((l.length:Int)==(pk:Int))=false:=by simp;omega
  have g2:decide ((bt:Int)-Jn l<p.len)=true:=by
   rcases c with h|h;·exact absurd h hl
   ·simpa using h
  have K:=O hl;have J:=O c;clear hl c;go_wp2;go_quiet (fail);go_wp2;go_ret;exact⟨rfl,(((Zg _ _).alloc _).aA k.o).drewN _⟩
end Go.Proofs.YtnnhmpehkbihnaaGreat
