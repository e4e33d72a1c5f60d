/- A part of the proof: no condition. -/
import Derived.Test.YtigcnnkagkbflaaGreatWf17
import Derived.Test.YtigcnnkagkbflaaGreatWf18
namespace Go.Proofs.YtigcnnkagkbflaaGreat
set_option linter.unusedVariables false
set_option maxRecDepth 100000
set_option maxHeartbeats 4000000
open Go.RowKit
open Go.Proofs.Tryz
attribute [local go_sem] Qp
attribute [local irreducible] Kl J9 Xo
section
variable{s:Yk}
theorem Cq(h:s.mayE=0):1≤s.id∧s.id≤65535∧0≤s.par∧s.par≤65535∧s.id≠s.par:=by grind [Yk.mayE,Vm.id,Yk.named,inB]
theorem Md(h:s.mayE=0):s.real.May∧s.share.May∧s.aN.May:=by grind [Yk.mayE,Yk.curvesB]
theorem Qam(h:s.mayE=0)(c:s.leaf=true):1≤s.pk∧s.pk≤4096∧1≤s.bt∧s.bt≤16777216:=by grind [Yk.mayE,Qf.leaf,Yk.shapedB,inB]
end
section
variable{h:Qm}
theorem Wu{i:Int}(d:h.at i=none):∀c∈h,c.sp.id≠i:=by simpa[Qm.at]using d
theorem Da(u:Ex h){c:Vm}(k:c∈h):h.at c.sp.id=some c:=by have q:(h.map Vm.id).Nodup:=List.pairwise_map.2 (u.imp fun{a b}d(e:a.sp.id=b.sp.id)=>by omega);exact Ls (key:=Vm.id) q k rfl
theorem Qtm(c:Vm)(z:h.at c.sp.id=none)(k:Int):Qm.at (Mb c h) k=if k=c.sp.id then some c else h.at k:=by
 have q:=Wu z;clear z;unfold Qm.at;induction h with
 |nil=>
  rw[Mb,List.find?_cons];by_cases e:k=c.sp.id;·simp[e]
  ·have:¬c.sp.id=k:=fun d=>e d.symm;simp[e,this]
 |cons x l u=>
  have u:=u fun y E=>q y (Zr _ E);have B:=q x List.mem_cons_self;rw[Mb];split
  ·rw[List.find?_cons];by_cases e:k=c.sp.id;·simp[e]
   ·have:¬c.sp.id=k:=fun d=>e d.symm;simp only[this,decide_false];rw[if_neg e]
  ·rw[List.find?_cons,List.find?_cons];by_cases e:x.sp.id=k;·have:¬k=c.sp.id:=fun d=>B (by rw[e,d]);simp only[e,decide_true];rw[if_neg this]
   ·simp only[e,decide_false];exact u
theorem Qtn(f:Vm→Vm)(u:∀c,(f c).sp.id=c.sp.id)(i k:Int):Qm.at (h.map fun x=>if x.sp.id=i then f x else x) k=if k=i then(h.at i).map f else h.at k:=by
 unfold Qm.at;induction h with
 |nil=>simp
 |cons x l z=>
  rw[List.map_cons,List.find?_cons,List.find?_cons,List.find?_cons];by_cases d:x.sp.id=i
  ·rw[if_pos d];by_cases e:k=i;·simp[u,d,e]
   ·have B:¬(f x).sp.id=k:=fun q=>e (by rw[←q,u,d]);have E:¬x.sp.id=k:=fun q=>e (by rw[←q,d]);simp only[B,E,decide_false];rw[z,if_neg e,if_neg e]
  ·rw[if_neg d];by_cases e:x.sp.id=k;·have:¬k=i:=fun q=>d (by rw[e,q]);simp only[e,decide_true];rw[if_neg this]
   ·simp only[e,d,decide_false];exact z
theorem Qkj(i k:Int):Qm.at (h.filter fun x=>!decide (x.sp.id=i)) k=if k=i then none else h.at k:=by grind [Qm.at,Vm.id,Jy.at,Tr.at,Xh.at]
structure J8(h:Qm):Prop where
 sorted:Ex h
 may:∀c∈h,c.sp.mayE=0
 par:∀c∈h,(c.sp.par=0∧c.d=1)∨∃q,h.at c.sp.par=some q∧q.sp.leaf=false∧c.d=q.d+1
 dep:∀c∈h,1≤c.d∧c.d≤8
 many:h.length≤64
def Xk(h:Qm)(i:Int):Nat:=match h.at i with
 |none=>0
 |some c=>c.d
theorem V7{i:Int}{c:Vm}(d:h.at i=some c):Xk h i=c.d:=by unfold Xk;rw[d]
theorem Kr{i:Int}(c:h.at i=none):Xk h i=0:=by unfold Xk;rw[c]
theorem J8.nil:J8 []:=⟨List.Pairwise.nil,nofun,nofun,nofun,Nat.zero_le _⟩
theorem J8.pos(u:J8 h){i:Int}{c:Vm}(q:h.at i=some c):1≤i∧i≤65535∧0≤c.sp.par∧i≠c.sp.par∧c.sp.id=i∧c∈h:=by obtain⟨k,d⟩:=Qm.aE q;have:=Cq (u.may c k);rw[d]at this;exact⟨this.1,this.2.1,this.2.2.1,this.2.2.2.2,d,k⟩
theorem J8.zero(k:J8 h){i:Int}(q:i<1):h.at i=none:=by
 cases d:h.at i with
 |none=>rfl
 |some c=>have:=(k.pos d).1;omega
theorem J8.nodup(d:J8 h):(h.map Vm.id).Nodup:=List.pairwise_map.2 (d.sorted.imp fun{a b}c(e:a.sp.id=b.sp.id)=>by omega)
theorem Qgy(k:J8 h){c:Int}(d:h.depth c≠0):(c=0∧h.depth c=1)∨∃q,h.at c=some q∧q.sp.leaf=false∧h.depth c=q.d+1∧q.d<8:=by grind [Qm.depth,Jy.at,Tr.at,Xh.at,Qf.leaf]
theorem Ub{s:Yk}(c:h.aO s=0):s.mayE=0∧h.length<64∧h.at s.id=none∧h.depth s.par≠0:=by
 unfold Qm.aO at c;split at c;·cases c
 ·rename_i q;split at c;·cases c
  ·rename_i u;split at c;·cases c
   ·rename_i d;split at c;·cases c
    ·rename_i k;exact⟨by omega,by omega,by simpa using d,k⟩
theorem Bv{s:Yk}(c:h.aO s=0):h.add s=Mb ⟨s,h.depth s.par⟩ h:=by unfold Qm.add;rw[if_pos c]
theorem Qjv{s:Yk}(c:h.aO s=0)(k:Int):(h.add s).at k=if k=s.id then some ⟨s,h.depth s.par⟩else h.at k:=by rw[Bv c];exact Qtm ⟨s,h.depth s.par⟩ (Ub c).2.2.1 k
theorem J8.add(E:J8 h){s:Yk}(I:h.aO s=0):J8 (h.add s):=by
 obtain⟨R,h2,U,Z⟩:=Ub I;have z:=Qjv I;have V:=Qgy E Z;have J:=Wu U;have K:s.par≠s.id:=fun e=>(Cq R).2.2.2.2 e.symm;rw[Bv I]at z⊢;have u:∀x,x∈Mb ⟨s,h.depth s.par⟩ h→x∈h∨x=⟨s,h.depth s.par⟩:=fun x hx=>by have:=(Ef ⟨s,h.depth s.par⟩ h).mem_iff.1 hx;simpa using this
 refine⟨Wz _ E.sorted J,fun c d=>?_,fun c d=>?_,fun c d=>?_,?_⟩
 ·rcases u c d with d|rfl;·exact E.may c d
  ·exact R
 ·rcases u c d with d|rfl
  ·refine(E.par c d).imp id fun⟨q,B,k⟩=>⟨q,?_,k⟩;rw[z,if_neg ?_];·exact B
   ·intro e;rw[e,U]at B;cases B
  ·refine V.imp (fun h=>h) fun⟨q,B,k1,k2,_⟩=>⟨q,?_,k1,k2⟩;show Qm.at _ s.par=_;rw[z,if_neg K];exact B
 ·rcases u c d with d|rfl;·exact E.dep c d
  ·rcases V with⟨_,e⟩|⟨q,B,_,e,h8⟩;·show 1≤h.depth s.par∧h.depth s.par≤8;omega
   ·show 1≤h.depth s.par∧h.depth s.par≤8;omega
 ·have:=(Ef ⟨s,h.depth s.par⟩ h).length_eq;simp only[List.length_append,Zm,List.length_nil]at this;omega
theorem Gb{s:Yk}(d:h.aG s=0):∃c,h.at s.id=some c∧(c.sp.aK s).mayE=0:=by
 unfold Qm.aG at d;cases k:h.at s.id with
 |none=>rw[k]at d;cases d
 |some c=>
  rw[k]at d;dsimp only at d;split at d;·cases d
  ·rename_i e;exact⟨c,rfl,by omega⟩
theorem Si{s:Yk}(c:h.aG s=0)(k:Int):(h.change s).at k=if k=s.id then(h.at s.id).map (fun x=>⟨x.sp.aK s,x.d⟩)else h.at k:=by unfold Qm.change;rw[if_pos c];exact Qtn (fun x=>⟨x.sp.aK s,x.d⟩) (fun _=>rfl) s.id k
theorem J8.change(z:J8 h){s:Yk}(I:h.aG s=0):J8 (h.change s):=by
 obtain⟨c0,K,hm⟩:=Gb I;have k:=Si I;unfold Qm.change at k⊢;rw[if_pos I]at k⊢;have d:∀x,x∈(h.map fun x=>if x.sp.id=s.id then(⟨x.sp.aK s,x.d⟩:Vm)else x)→∃y∈h,x.d=y.d∧x.sp.par=y.sp.par∧x.sp.leaf=y.sp.leaf∧x.sp.mayE=0:=fun x hx=>by
  obtain⟨y,u,rfl⟩:=Z3.1 hx;refine⟨y,u,?_⟩;by_cases e:y.sp.id=s.id
  ·rw[if_pos e];have:y=c0:=by have U:=Da z.sorted u;rw[e,K]at U;exact(Zs U).symm
   rw[this];exact⟨rfl,rfl,rfl,hm⟩
  ·rw[if_neg e];exact⟨rfl,rfl,rfl,z.may y u⟩
 refine⟨?_,fun c B=>(d c B).choose_spec.2.2.2.2,fun c B=>?_,fun c B=>?_,by rw[List.length_map];exact z.many⟩
 ·refine List.pairwise_map.2 (z.sorted.imp fun{a b}J=>?_);have e:∀x:Vm,(if x.sp.id=s.id then(⟨x.sp.aK s,x.d⟩:Vm)else x).sp.id=x.sp.id:=fun x=>by split<;>rfl
  rw[e,e];exact J
 ·obtain⟨y,u,E,e2,e3,_⟩:=d c B;rw[E,e2];refine(z.par y u).imp id fun⟨q,R,V,Z⟩=>?_;rw[k];split;·rename_i e;rw[e]at R;rw[R];exact⟨_,rfl,V,Z⟩
  ·exact⟨q,R,V,Z⟩
 ·obtain⟨y,u,E,_⟩:=d c B;rw[E];exact z.dep y u
theorem Tz{i:Int}(d:h.aP i=0):∃c,h.at i=some c∧h.aM i=[]:=by
 unfold Qm.aP at d;cases k:h.at i with
 |none=>rw[k]at d;cases d
 |some c=>
  rw[k]at d;dsimp only at d;split at d;·cases d
  ·rename_i e;exact⟨c,rfl,by simpa using e⟩
theorem Qby{i:Int}(k:h.aM i=[]):∀c∈h,c.sp.par≠i:=fun c d e=>by have:c.sp.id∈h.aM i:=Z3.2 ⟨c,List.mem_filter.2 ⟨d,by simpa using e⟩,rfl⟩;rw[k]at this;cases this
theorem We{i:Int}(c:h.aP i=0)(k:Int):(h.drop i).at k=if k=i then none else h.at k:=by unfold Qm.drop;rw[if_pos c];exact Qkj i k
theorem J8.drop(B:J8 h){i:Int}(E:h.aP i=0):J8 (h.drop i):=by obtain⟨V,J,R⟩:=Tz E;have u:=We E;have I:=Qby R;unfold Qm.drop at u⊢;rw[if_pos E]at u⊢;have d:∀x,x∈(h.filter fun x=>!decide (x.sp.id=i))→x∈h:=fun x U=>(List.mem_filter.1 U).1;refine⟨B.sorted.filter _,fun c z=>B.may c (d c z),fun c z=>?_,fun c z=>B.dep c (d c z),Zp (List.length_filter_le _ _) B.many⟩;refine(B.par c (d c z)).imp id fun⟨q,K,k⟩=>⟨q,?_,k⟩;rw[u,if_neg (I c (d c z))];exact K
theorem Qhj(z:J8 h):∀{n:Nat}{i j:Int}{c:Vm},Xk h i<n→j∈h.path n i→h.at j=some c→c.sp.par≠0→c.sp.par∈h.path n i
 |0,i,j,c,hd,_,_,_=>by omega
 |n+1,i,j,c,hd,d,hc,hp=>by
  rw[Qm.path]at d⊢;cases u:h.at i with
  |none=>rw[u]at d;cases d
  |some x=>
   rw[u]at d;dsimp only at d⊢;rw[V7 u]at hd;obtain⟨E,R⟩:=Qm.aE u;have key:x.sp.par≠0→∃q,h.at x.sp.par=some q∧x.d=q.d+1∧1≤q.d:=fun B=>by
    rcases z.par x E with J|⟨q,k,_,K⟩;·exact absurd J.1 B
    ·exact⟨q,k,K,(z.dep q (Qm.aE k).1).1⟩
   rcases Zu.1 d with rfl|d;·rw[u]at hc;obtain rfl:=Zs hc;obtain⟨q,k,e,I⟩:=key hp;refine Zr _ ?_;obtain⟨m,rfl⟩:∃m,n=m+1:=⟨n-1,by omega⟩;rw[Qm.path,k];exact List.mem_cons_self
   ·by_cases B:x.sp.par=0
    ·have U:=z.zero (i:=x.sp.par) (by omega);cases n with
     |zero=>rw[Qm.path]at d;cases d
     |succ m=>rw[Qm.path,U]at d;cases d
    ·obtain⟨q,k,e,I⟩:=key B;refine Zr _ (Qhj z ?_ d hc hp);rw[V7 k];omega
theorem Y8{id x:Int}:x∈h.aI id↔∃c∈h,c.sp.id=x∧c.sp.leaf=true∧(id=0∨id∈h.path 9 x):=by grind [Qm.aI,Vm.id,Qf.leaf,Qe.path,Qm.path,Qm.below]
theorem Ut(c:J8 h)(id:Int):(h.aI id).Pairwise (· < ·):=by unfold Qm.aI;exact List.pairwise_map.2 (c.sorted.filter _)
end
structure Vp(h:Qm)(p:Qe):Prop where
 root:∃r,p.at 0=some r∧r.leaf=false∧r.aM=(h.aM 0).length
 cls:∀i,i≠0→(p.at i).map (fun x=>(x.par,x.leaf,x.aJ,x.aM))=(h.at i).map fun c=>(c.sp.par,c.sp.leaf,c.sp.aJ,(h.aM i).length)
section
variable{h:Qm}{p p':Qe}{N M:Nat}{dep:Int→Nat}
theorem Vp.fwd(m:Vp h p)(q:J8 h){i:Int}{c:Vm}(d:h.at i=some c):∃x,p.at i=some x∧x.par=c.sp.par∧x.leaf=c.sp.leaf∧x.aJ=c.sp.aJ∧x.aM=(h.aM i).length:=by
 have u:=(q.pos d).1;have:=m.cls i (by omega);rw[d]at this;cases k:p.at i with
 |none=>rw[k]at this;cases this
 |some x=> rw[k]at this;simp only[Zn,Option.some.injEq,Prod.mk.injEq]at this;exact⟨x,rfl,this⟩
theorem Vp.back(m:Vp h p){i:Int}(k:i≠0){x:Qx}(q:p.at i=some x):∃c,h.at i=some c∧x.par=c.sp.par∧x.leaf=c.sp.leaf∧x.aJ=c.sp.aJ∧x.aM=(h.aM i).length:=by
 have:=m.cls i k;rw[q]at this;cases d:h.at i with
 |none=>rw[d]at this;cases this
 |some c=> rw[d]at this;simp only[Zn,Option.some.injEq,Prod.mk.injEq]at this;exact⟨c,rfl,this⟩
theorem Vp.no(m:Vp h p){i:Int}(c:i≠0)(d:h.at i=none):p.at i=none:=by have:=m.cls i c;rw[d]at this;simpa using this
theorem Vp.path(m:Vp h p)(k:J8 h):∀(n:Nat)(i:Int),p.path n i=h.path n i
 |0,_=>rfl
 |n+1,i=>by
  rw[Qe.path,Qm.path];by_cases d:i<1;·rw[if_pos d,k.zero d]
  ·rw[if_neg d];cases q:h.at i with
   |none=>rw[m.no (by omega) q]
   |some c=> obtain⟨x,u,e,_⟩:=m.fwd k q;rw[u];dsimp only;rw[e,m.path k n]
theorem Vp.par(m:Vp h p)(d:J8 h){c:Vm}(z:c∈h):∃q,p.at c.sp.par=some q∧q.leaf=false∧q.aM=(h.aM c.sp.par).length:=by
 rcases d.par c z with⟨e,_⟩|⟨q,E,B,_⟩;·rw[e];exact m.root
 ·obtain⟨x,I,_,k,_,u⟩:=m.fwd d E;exact⟨x,I,k.trans B,u⟩
theorem Vp.same(m:Vp h p)(k:Jv p p')(U:Hm p p'):Vp h p':=by
 have B:∀i,(p'.at i).map Qx.aM=(p.at i).map Qx.aM:=fun i=>by
  have:=U i 0;cases c:p.at i with
  |none=>rw[k.none c]
  |some x=> obtain⟨y,q,_⟩:=k.get c;rw[c,q]at this;simp only[Zn,Option.some.injEq,Prod.mk.injEq]at this;rw[q];simp[this.2]
 refine⟨?_,fun i K=>?_⟩;·obtain⟨r,z,R,J⟩:=m.root;obtain⟨V,d,_,u,_⟩:=k.get z;have:=B 0;rw[z,d]at this;simp only[Zn,Option.some.injEq]at this;exact⟨V,d,u.trans R,this.trans J⟩
 ·rw[←m.cls i K];have:=B i;cases c:p.at i with
  |none=>rw[k.none c]
  |some x=> obtain⟨y,q,E,u,I⟩:=k.get c;rw[c,q]at this;simp only[Zn,Option.some.injEq]at this;rw[q];simp[this,E,u,I]
theorem Vp.new:Vp [] Qe.new:=by refine⟨⟨_,by rw[Rl,if_pos rfl],rfl,rfl⟩,fun i c=>?_⟩;rw[Rl,if_neg c];rfl
theorem Qwe(h:Qm)(i:Int):(h.aM i).length≤h.length:=by unfold Qm.aM;rw[List.length_map];exact List.length_filter_le _ _
theorem Ra(x:Int):∀l:List Int,(Nm x l).length=l.length+1
 |[]=>rfl
 |y::l=>by
  rw[Nm];split;·rfl
  ·simp[Ra x l]
theorem Qje(E:J8 h){i:Int}(z:i≠0)(B:h.at i=none):h.aM i=[]:=by
 unfold Qm.aM;rw[List.map_eq_nil_iff,List.filter_eq_nil_iff];intro c u e;simp only[decide_eq_true_eq]at e;rcases E.par c u with⟨k,_⟩|⟨q,d,_⟩;·exact z (e.symm.trans k)
 ·rw[e,B]at d;cases d
theorem Vp.add(m:Vp h p)(I:J8 h){s:Yk}(U:h.aO s=0):
  ∃q,p.at s.par=some q∧q.leaf=false∧q.aM≤64∧p.at s.id=none∧1≤s.id∧Vp (h.add s) (p.put s)∧
   Xk (h.add s) 0=0∧Xk (h.add s) s.id=Xk (h.add s) s.par+1∧Xk (h.add s) s.id≤8∧∀i,i≠s.id→Xk (h.add s) i=Xk h i:=by
 obtain⟨h1,h2,h3,h4⟩:=Ub U;obtain⟨i1,i2,i3,i4,i5⟩:=Cq h1;have hn:=m.no (by omega) h3;have z:=Qjv U;have hd:=Qgy I h4;have ae:=I.add U;have u:∃q,p.at s.par=some q∧q.leaf=false∧q.aM=(h.aM s.par).length:=by
  rcases hd with⟨e,_⟩|⟨q,u,K,_⟩;·rw[e];exact m.root
  ·obtain⟨x,Z,_,d,_,e3⟩:=m.fwd I u;exact⟨x,Z,d.trans K,e3⟩
 obtain⟨q,u,K,R⟩:=u;have hu:∀k,(h.add s).aM k=if s.par=k then Nm s.id (h.aM k)else h.aM k:=fun k=>by rw[Bv U];exact Fe ⟨s,h.depth s.par⟩ k I.sorted
 have E:=Qsc i1 hn u K;have J:∀i,i≠s.id→Xk (h.add s) i=Xk h i:=fun i V=>by unfold Xk;rw[z,if_neg V]
 refine⟨q,u,K,by rw[R];exact Zp (Qwe _ _) (by omega),hn,i1,⟨?_,fun i V=>?_⟩,?_,?_,?_,J⟩
 ·by_cases e:s.par=0;·refine⟨{q with mem:=if s.aJ then q.mem.add s.id s.share else q.mem,aM:=q.aM+1},by rw[E,if_pos e.symm],K,?_⟩;rw[hu,if_pos e,Ra,←e,←R]
  ·obtain⟨r,hr,ab,ac⟩:=m.root;refine⟨r,by rw[E,if_neg (Ne.symm e),if_neg (by omega)];exact hr,ab,?_⟩;rw[hu,if_neg e,ac]
 ·rw[E,z,hu];by_cases e:i=s.par
  ·have aa:s.par≠s.id:=fun e=>i5 e.symm;subst e;rw[if_pos rfl,if_neg (c:=s.par=s.id) aa,if_pos rfl,Ra];have B:=m.cls s.par V;rw[u]at B;cases Z:h.at s.par with
   |none=>rw[Z]at B;cases B
   |some c=> rw[Z]at B;simp only[Zn,Option.some.injEq,Prod.mk.injEq]at B;simp[B.1,B.2.1,B.2.2.1,B.2.2.2]
  ·rw[if_neg e,if_neg (Ne.symm e)];by_cases d:i=s.id;·rw[if_pos d,if_pos d,d,Qje I (by omega) h3];rfl
   ·rw[if_neg d,if_neg d];exact m.cls i V
 ·exact Kr (ae.zero (by decide))
 ·rw[V7 (by rw[z,if_pos rfl]),J s.par (fun e=>i5 e.symm)];rcases hd with⟨e,d⟩|⟨q,u,_,d,_⟩;·show h.depth s.par=_;rw[d,e,Kr (I.zero (by decide))]
  ·show h.depth s.par=_;rw[d,V7 u]
 ·rw[V7 (by rw[z,if_pos rfl])];rcases hd with⟨e,d⟩|⟨q,u,_,d,_⟩;·show h.depth s.par≤8;omega
  ·show h.depth s.par≤8;omega
theorem Vp.aK(m:Vp h p)(ok:J8 h)(J:Qs dep N p){s:Yk}(K:h.aG s=0)(ha:p.aL s.id=false):
  ∃c q,p.at s.id=some c∧1≤s.id∧p.at c.par=some q∧Vp (h.change s) (p.aK s)∧∀i,Xk (h.change s) i=Xk h i:=by
 obtain⟨c0,d,hm⟩:=Gb K;obtain⟨i1,_,_,i4,i5,i6⟩:=ok.pos d;obtain⟨c,R,V,e2,e3,e4⟩:=m.fwd ok d;obtain⟨q,u⟩:=J.par R (by omega);have B:=Si K;have z:=Qit J i1 R ha u;have hu:∀k,(h.change s).aM k=h.aM k:=fun k=>by unfold Qm.change;rw[if_pos K];exact Ik h s k
 have aa:c.par≠s.id:=by rw[V];exact fun e=>i4 e.symm
 refine⟨c,q,R,i1,u,⟨?_,fun i hi=>?_⟩,fun i=>?_⟩
 ·obtain⟨r,U,E,I⟩:=m.root;rw[hu];by_cases e:0=c.par
  ·refine⟨{q with mem:=if s.aJ then(q.mem.drop s.id).add s.id s.share else q.mem.drop s.id},by rw[z,if_neg (by omega),if_pos e],?_,?_⟩;·rw[←e,U]at u;obtain rfl:=Zs u;exact E
   ·rw[←e,U]at u;obtain rfl:=Zs u;exact I
  ·exact⟨r,by rw[z,if_neg (by omega),if_neg e];exact U,E,I⟩
 ·rw[z,B,hu];by_cases e:i=s.id;·rw[if_pos e,if_pos e,d,e];simp only[Zn,Option.some.injEq,Prod.mk.injEq];exact⟨V,e2,rfl,e4⟩
  ·rw[if_neg e,if_neg e];split;·rename_i Z;have:=m.cls i hi;rw[Z,u]at this;rw[Z,←this];rfl
   ·exact m.cls i hi
 ·unfold Xk;rw[B];by_cases e:i=s.id;·rw[if_pos e,e,d];rfl
  ·rw[if_neg e]
theorem Qql{i:Int}{c:Vm}(d:c∈h)(k:c.sp.par=i):1≤(h.aM i).length:=by have:c.sp.id∈h.aM i:=Z3.2 ⟨c,List.mem_filter.2 ⟨d,by simpa using k⟩,rfl⟩;exact List.length_pos_of_mem this
theorem Vp.drop(m:Vp h p)(ok:J8 h)(ah:Qs dep N p){i:Int}(h0:h.aP i=0)(ha:p.aL i=false):
  ∃c q,p.at i=some c∧1≤i∧c.aM=0∧p.at c.par=some q∧1≤q.aM∧(∀j d,p.at j=some d→0<j→d.par≠i)∧Vp (h.drop i) (p.drop i)∧∀j,j≠i→Xk (h.drop i) j=Xk h j:=by
 obtain⟨c0,I,ac⟩:=Tz h0;obtain⟨i1,_,_,i4,i5,i6⟩:=ok.pos I;obtain⟨c,hc,e1,e2,e3,e4⟩:=m.fwd ok I;obtain⟨q,K,ag,U⟩:=m.par ok i6;rw[←e1]at K;have aa:c.aM=0:=by rw[e4,ac];rfl
 have E:=We h0;have B:=Iz i1 hc aa ha K;have R:∀j d,p.at j=some d→0<j→d.par≠i:=fun j d hd hj e=>by obtain⟨d0,Eu,k1,_⟩:=m.back (by omega) hd;exact Qby ac d0 (Qm.aE Eu).1 (k1.symm.trans e)
 have hu:∀k,(h.drop i).aM k=(h.aM k).filter fun y=>!decide (y=i):=fun k=>by unfold Qm.drop;rw[if_pos h0];exact Ph h i k
 have J:∀k,k≠c.par→(h.drop i).aM k=h.aM k:=fun k hk=>by rw[hu k];rw[←Ph];exact Ij ok.nodup I (by rw[←e1];exact hk)
 have ab:((h.drop i).aM c.par).length=q.aM-1:=by
  rw[hu,U,e1];have u:i∈h.aM c0.sp.par:=Z3.2 ⟨c0,List.mem_filter.2 ⟨i6,by simp⟩,i5⟩;have hs:=Gk ok.sorted c0.sp.par;generalize h.aM c0.sp.par=l at u hs;clear hu J B E;induction l with
  |nil=>cases u
  |cons y l ih=>
   rw[List.filter_cons];have Z:=List.pairwise_cons.1 hs;by_cases e:y=i
   ·have:l.filter (fun y=>!decide (y=i))=l:=List.filter_eq_self.2 fun z hz=>by
     have:=Z.1 z hz;have:z≠i:=by omega
     simpa using this
    simp[e,this]
   ·have hm:i∈l:=(Zu.1 u).resolve_left (fun e'=>e e'.symm);have:=ih hm Z.2;have hp:1≤l.length:=List.length_pos_of_mem hm;simp only[e,decide_false,Bool.not_false,if_true,Zm];omega
 have ae:1≤q.aM:=by rw[U];exact Qql i6 rfl
 refine⟨c,q,hc,i1,aa,K,ae,R,⟨?_,fun k hk=>?_⟩,fun j hj=>?_⟩
 ·obtain⟨r,hr,V,af⟩:=m.root;by_cases e:0=c.par
  ·refine⟨{q with mem:=q.mem.drop i,aM:=q.aM-1},by rw[B,if_neg (by omega),if_pos e],?_,?_⟩;·rw[←e,hr]at K;obtain rfl:=Zs K;exact V
   ·rw[e];exact ab.symm
  ·exact⟨r,by rw[B,if_neg (by omega),if_neg e];exact hr,V,by rw[J 0 e];exact af⟩
 ·rw[B,E];by_cases e:k=i;·rw[if_pos e,if_pos e];rfl
  ·rw[if_neg e,if_neg e];split
   ·rename_i e5;have:=m.cls k hk;rw[e5,K]at this;rw[e5,ab];cases hx:h.at c.par with
    |none=>rw[hx]at this;cases this
    |some x=> rw[hx]at this;simp only[Zn,Option.some.injEq,Prod.mk.injEq]at this;simp[this.1,this.2.1,this.2.2.1]
   ·rename_i e5;rw[J k e5];exact m.cls k hk
 ·unfold Xk;rw[E,if_neg hj]
end
section
variable{X:Type}{key:X→Int}{l:List X}
theorem Qeo{x y:X}(h:Hn key (key x) l=some y)(k:Int):Hn key k (Lg key x l)=if k=key x then some x else Hn key k l:=by
 unfold Hn Lg at*;induction l with
 |nil=>cases h
 |cons z l J=>
  rw[List.map_cons,List.find?_cons,List.find?_cons];rw[List.find?_cons]at h;by_cases d:key z=key x
  ·rw[if_pos d];by_cases e:k=key x;·simp[e]
   ·have E:¬key x=k:=fun c=>e c.symm;have K:¬key z=k:=fun c=>e (by rw[←c,d]);simp only[E,K,decide_false];rw[if_neg e];clear h J;induction l with
    |nil=>rfl
    |cons u l q=>
     rw[List.map_cons,List.find?_cons,List.find?_cons];by_cases B:key u=key x;·rw[if_pos B];have R:¬key u=k:=fun c=>e (by rw[←c,B]);simp only[E,R,decide_false];exact q
     ·rw[if_neg B];by_cases I:key u=k;·simp only[I,decide_true]
      ·simp only[I,decide_false];exact q
  ·rw[if_neg d];simp only[d,decide_false]at h;by_cases e:key z=k;·have:¬k=key x:=fun c=>d (by rw[e,c]);simp only[e,decide_true];rw[if_neg this]
   ·simp only[e,decide_false];exact J h
theorem Ix(x:X)(k:Int):Hn key k (l++[x])=(Hn key k l).or (if key x=k then some x else none):=by simp[Hn]
theorem Qgi(i k:Int):Hn key k (Kp key i l)=if k=i then none else Hn key k l:=by grind [Hn,Kp]
theorem Qqa(x:X):(Lg key x l).map key=l.map key:=by
 unfold Lg;rw[List.map_map];refine List.map_congr_left fun y _=>?_;simp only[Function.comp];split;·rename_i h;exact h.symm
 ·rfl
theorem Qm1{f:X→X}(c:∀x,key (f x)=key x)(k:Int):Hn key k (l.map f)=(Hn key k l).map f:=by
 unfold Hn;induction l with
 |nil=>rfl
 |cons z l d=>
  rw[List.map_cons,List.find?_cons,List.find?_cons,c];by_cases h:key z=k;·simp[h]
  ·simp only[h,decide_false];exact d
end
structure Br(N:Nat)(h:Qm)(p:Qe)(l:Qw):Prop where
 sp:∃c,h.at l.id=some c∧c.sp.leaf=true∧(l.pk:Int)=c.sp.pk∧(l.bt:Int)=c.sp.bt∧l.debt.isSome=!c.sp.real.none∧p.aL l.id=(c.sp.aJ&&decide (l.q≠[]))
 many:l.q.length≤l.pk
 held:Jn l.q≤l.bt
 good:∀x∈l.q,Ll x∧x.cls=l.id
 debt:∀d,l.debt=some d→d.got≤Xw∧d.run.l.length≤N∧d.aL=decide (l.q≠[])
def Qvc(aI:List Qw)(c:List Xu):Prop:=∀a i b,(a,i,b)∈c↔∃l d,Hn Qw.id i aI=some l∧l.debt=some d∧d.aL=true∧a=d.elig∧b=d.due
structure Vl(N:Nat)(s:Qf):Prop where
 most:1≤s.most∧s.most<65536
 tree:J8 s.tree
 pick:Qs (Xk s.tree) N s.pick
 pinv:Uz s.pick
 mt:Vp s.tree s.pick
 nd:(s.aI.map Qw.id).Nodup
 lv:∀i c,s.tree.at i=some c→c.sp.leaf=true→∃l,s.leaf i=some l
 ok:∀l∈s.aI,Br N s.tree s.pick l
 row:Qvc s.aI s.row
section
variable{N M:Nat}{s:Qf}
theorem Vl.at(h:Vl N s){i:Int}{l:Qw}(k:s.leaf i=some l):Br N s.tree s.pick l∧l.id=i∧l∈s.aI:=by obtain⟨c,d⟩:=Y3 (key:=Qw.id) k;exact⟨h.ok l c,d,c⟩
theorem Vl.leaf_of(h:Vl N s){l:Qw}(c:l∈s.aI):s.leaf l.id=some l:=Ls (key:=Qw.id) h.nd c rfl
theorem Br.more{h:Qm}{p:Qe}{l:Qw}(k:Br N h p l)(q:N≤M):Br M h p l:=⟨k.sp,k.many,k.held,k.good,fun d c=>⟨(k.debt d c).1,Zp (k.debt d c).2.1 q,(k.debt d c).2.2⟩⟩
theorem Vl.new{k:Int}(q:1≤k)(u:k<65536):Vl N (Qf.new k):=
 ⟨⟨q,u⟩,J8.nil,Qs.new rfl,Uz.new,Vp.new,List.nodup_nil,fun i c z=>(by cases z),nofun,fun a i b=>⟨fun h=>(by cases h),fun⟨l,d,h,_⟩=>(by cases h)⟩⟩
theorem Qnu:∀{l:List Int}{x:Int},(∀y∈l,0≤y)→x∈l→0<x→0<l.sum
 |y::l,x,h,k,h0=>by
  rw[List.sum_cons];have c:=h y List.mem_cons_self;have d:∀{l:List Int},(∀y∈l,0≤y)→0≤l.sum:=fun{l}h=>by
   induction l with
   |nil=>simp
   |cons z l q=>rw[List.sum_cons];have:=h z List.mem_cons_self;have:=q fun y c=>h y (Zr _ c);omega
  rcases Zu.1 k with rfl|k;·have:=d fun y c=>h y (Zr _ c);omega
  ·have:=Qnu (fun y c=>h y (Zr _ c)) k h0;omega
theorem Qhx{id x:Int}(d:x∈s.tree.aI id)(c:s.qOf x≠[]):0<s.many id:=by
 unfold Qf.many;refine Qnu (x:=((s.qOf x).length:Int)) (fun y k=>?_) (Z3.2 ⟨x,d,rfl⟩) ?_;·obtain⟨z,_,rfl⟩:=Z3.1 k;omega
 ·have:=List.length_pos_iff.2 c;omega
theorem Ov{i:Int}{l:Qw}(h:s.leaf i=some l):s.qOf i=l.q:=by unfold Qf.qOf;rw[h];rfl
theorem Vl.busy(h:Vl N s){L:Int}{x:Qx}(z:s.pick.at L=some x)(q:x.leaf=true)(ha:s.pick.aL L=true):∃c l,s.tree.at L=some c∧c.sp.leaf=true∧s.leaf L=some l∧l.q≠[]:=by
 have J:L≠0:=fun e=>by obtain⟨r,R,u,_⟩:=h.mt.root;rw[e,R]at z;obtain rfl:=Zs z;rw[u]at q;cases q
 obtain⟨c,I,_,B,_⟩:=h.mt.back J z;obtain⟨l,d⟩:=h.lv L c I (B.symm.trans q);obtain⟨k,U,_⟩:=h.at d;obtain⟨V,K,_,_,_,_,E⟩:=k.sp;refine⟨c,l,I,B.symm.trans q,d,?_⟩;rw[U,ha]at E;have:=E.symm;simp only[Zw,decide_eq_true_eq]at this;exact this.2
theorem Vl.asleep(h:Vl N s){i:Int}(J:¬0<s.many i):s.pick.aL i=false:=by
 cases ha:s.pick.aL i with
 |false=>rfl
 |true=> obtain⟨L,x,R,I,B,d⟩:=h.pinv.low i ha;obtain⟨c,l,E,q,z,K⟩:=h.busy R I d;rw[h.mt.path h.tree]at B;obtain⟨u,k⟩:=Qm.aE E;exact absurd (Qhx (Y8.2 ⟨c,u,k,q,.inr B⟩) (by rw[Ov z];exact K)) J
theorem Vl.add(h:Vl N s){c:Yk}(h0:s.aO c=0):Vl N (s.add c):=by
 have E:s.tree.aO c=0:=h0;obtain⟨q,hq,ae,aj,hn,i1,mt,d0,d1,d8,dd⟩:=h.mt.add h.tree E;have Z:=Qjv E;have aa:=(Ub E).2.2.1;have ai:=(Ub E).1;have af:Qs (Xk (s.tree.add c)) N (s.pick.put c):=h.pick.put i1 hn hq ae (by omega) d0 (fun x B ak=>dd x.id (Qm2 hn x B)) d1 d8;obtain⟨pv,ag⟩:=h.pinv.put h.pick i1 hn hq ae af;have e:s.add c={s with tree:=s.tree.add c,pick:=s.pick.put c,aI:=if c.leaf then s.aI++[⟨c.id,c.pk.toNat,c.bt.toNat,[],Xl c.real⟩]else s.aI}:=by unfold Qf.add;rw[if_pos h0]
 rw[e];have R:∀l∈s.aI,l.id≠c.id:=fun l u e=>by obtain⟨x,B,_⟩:=(h.ok l u).sp;rw[e,aa]at B;cases B
 have U:∀l∈s.aI,Br N (s.tree.add c) (s.pick.put c) l:=fun l u=>by have k:=h.ok l u;obtain⟨x,B,k2⟩:=k.sp;exact⟨⟨x,by rw[Z,if_neg (R l u)];exact B,by rw[ag];exact k2⟩,k.many,k.held,k.good,k.debt⟩
 have J:∀i,i≠c.id→Hn Qw.id i (if c.leaf then s.aI++[⟨c.id,c.pk.toNat,c.bt.toNat,[],Xl c.real⟩]else s.aI)=s.leaf i:=fun i hi=>by
  split;·rw[Ix,if_neg (fun e=>hi e.symm)];show(s.leaf i).or none=_;cases s.leaf i<;>rfl
  ·rfl
 refine⟨h.most,h.tree.add E,af,pv,mt,?_,fun i x B ab=>?_,fun l u=>?_,fun a i b=>?_⟩
 ·dsimp only;split
  ·rw[List.map_append];refine List.nodup_append.2 ⟨h.nd,by simp,fun a ha b hb=>?_⟩;obtain⟨l,u,rfl⟩:=Z3.1 ha;obtain rfl:b=c.id:=by simpa using hb
   exact R l u
  ·exact h.nd
 ·dsimp only at B;rw[Z]at B;by_cases V:i=c.id
  ·rw[if_pos V]at B;obtain rfl:=Zs B;dsimp only at ab;refine⟨⟨c.id,c.pk.toNat,c.bt.toNat,[],Xl c.real⟩,?_⟩;show Hn Qw.id i (if c.leaf then _ else _)=_;rw[if_pos ab,Ix,V,if_pos rfl];have:Hn Qw.id c.id s.aI=none:=by
    cases K:Hn Qw.id c.id s.aI with
    |none=>rfl
    |some l=>exact absurd (Y3 K).2 (R l (Y3 K).1)
   rw[this];rfl
  ·rw[if_neg V]at B;obtain⟨l,u⟩:=h.lv i x B ab;exact⟨l,(J i V).trans u⟩
 ·dsimp only at u⊢;split at u
  ·rename_i ac;rcases Zl.1 u with u|u;·exact U l u
   ·obtain rfl:l=⟨c.id,c.pk.toNat,c.bt.toNat,[],Xl c.real⟩:=by simpa using u
    obtain⟨b1,b2,b3,b4⟩:=Qam ai ac;refine⟨⟨⟨c,s.tree.depth c.par⟩,by rw[Z,if_pos rfl],ac,?_,?_,?_,?_⟩,Nat.zero_le _,?_,nofun,fun d hd=>?_⟩;·show((c.pk.toNat:Nat):Int)=c.pk;omega
    ·show((c.bt.toNat:Nat):Int)=c.bt;omega
    ·show(Xl c.real).isSome=!c.real.none;unfold Xl;by_cases hr:c.real.none=true;·rw[if_pos hr,hr];rfl
     ·rw[if_neg hr];have:c.real.none=false:=by simpa using hr
      rw[this];rfl
    ·show(s.pick.put c).aL c.id=_;rw[ag,Qe.awake_none hn];simp
    ·show Jn []≤((c.bt.toNat:Nat):Int);simp only[Jn];omega
    ·have z:Xl c.real=some d:=hd;unfold Xl at z;split at z;·cases z
     ·obtain rfl:=Zs z;exact⟨Nat.zero_le _,Nat.zero_le _,rfl⟩
  ·exact U l u
 ·dsimp only;rw[h.row];by_cases V:i=c.id
  ·subst V;have K:s.leaf c.id=none:=by
    cases K:s.leaf c.id with
    |none=>rfl
    |some l=>exact absurd (Y3 (key:=Qw.id) K).2 (R l (Y3 (key:=Qw.id) K).1)
   constructor;·rintro⟨l,d,u,_⟩;have I:s.leaf c.id=some l:=u;rw[K]at I;cases I
   ·rintro⟨l,d,u,hd,ha,_⟩;exfalso;split at u
    ·rw[Ix]at u;have ah:Hn Qw.id c.id s.aI=none:=K;rw[ah,if_pos rfl]at u;obtain rfl:=Zs u;have z:Xl c.real=some d:=hd;unfold Xl at z;split at z;·cases z
     ·obtain rfl:=Zs z;cases ha
    ·have I:s.leaf c.id=some l:=u;rw[K]at I;cases I
  ·rw[J i V];rfl
theorem L8{c:Yk}(d:s.aG c=0):¬0<s.many c.id∧s.tree.aG c=0:=by unfold Qf.aG at*;simp_all;omega
theorem Mh{h:Qm}{i:Int}{c:Vm}(d:h.at i=some c):i∈h.path 9 i:=by rw[Qm.path,d];exact List.mem_cons_self
theorem Vl.idle(h:Vl N s){i:Int}{l:Qw}(B:s.leaf i=some l)(E:¬0<s.many i):l.q=[]:=by
 obtain⟨k,J,_⟩:=h.at B;obtain⟨c,d,u,_⟩:=k.sp;rw[J]at d;obtain⟨z,q⟩:=Qm.aE d;cases I:l.q with
 |nil=>rfl
 |cons x t=>exact absurd (Qhx (Y8.2 ⟨c,z,q,u,.inr (Mh d)⟩) (by rw[Ov B,I];simp)) E
theorem Vl.change(h:Vl N s){c:Yk}(h0:s.aG c=0):Vl N (s.change c):=by
 obtain⟨hm,V⟩:=L8 h0;have ha:=h.asleep hm;obtain⟨x,q,hx,i1,hq,mt,dd⟩:=h.mt.aK h.tree h.pick V ha;have Z:=Si V;have ai:Qs (Xk (s.tree.change c)) N (s.pick.aK c):=(h.pick.aK i1 hx ha hq).redep (by rw[dd,h.pick.up.1]) (fun _ _ _=>dd _);obtain⟨pv,ag⟩:=h.pinv.aK h.pick i1 hx ha hq;have e:s.change c={s with tree:=s.tree.change c,pick:=s.pick.aK c,aI:=s.aI.map fun l=>if l.id=c.id then{l with debt:=Xl c.real}else l}:=by unfold Qf.change;rw[if_pos h0]
 rw[e];have hf:∀l:Qw,(if l.id=c.id then{l with debt:=Xl c.real}else l).id=l.id:=fun l=>by split<;>rfl
 have J:∀i,Hn Qw.id i (s.aI.map fun l=>if l.id=c.id then{l with debt:=Xl c.real}else l)=(s.leaf i).map fun l=>if l.id=c.id then{l with debt:=Xl c.real}else l:=fun i=>Qm1 hf i;refine⟨h.most,h.tree.change V,ai,pv,mt,?_,fun i y E af=>?_,fun l R=>?_,fun a i b=>?_⟩;·dsimp only;rw[List.map_map];have:(Qw.id∘fun l:Qw=>if l.id=c.id then{l with debt:=Xl c.real}else l)=Qw.id:=funext hf;rw[this];exact h.nd
 ·dsimp only at E;rw[Z]at E;have:∃y',s.tree.at i=some y'∧y'.sp.leaf=true:=by
   split at E
   ·rename_i B;cases hz:s.tree.at c.id with
    |none=>rw[hz]at E;cases E
    |some z=> rw[hz]at E;obtain rfl:=Zs E;exact⟨z,by rw[B];exact hz,af⟩
   ·exact⟨y,E,af⟩
  obtain⟨y',ah,I⟩:=this;obtain⟨l,R⟩:=h.lv i y' ah I;exact⟨_,by show Hn Qw.id i _=_;rw[J,R];rfl⟩
 ·obtain⟨U,ac,rfl⟩:=Z3.1 R;have k:=h.ok U ac;obtain⟨y,E,k1,k2,k3,k4,k5⟩:=k.sp;by_cases B:U.id=c.id
  ·rw[if_pos B];have ae:=h.leaf_of ac;rw[B]at ae;have K:=h.idle ae hm;rw[B]at E;refine⟨⟨⟨y.sp.aK c,y.d⟩,?_,k1,k2,k3,?_,?_⟩,k.many,k.held,k.good,fun d hd=>?_⟩;·show(s.tree.change c).at U.id=_;rw[Z,if_pos B,E];rfl
   ·show(Xl c.real).isSome=!c.real.none;unfold Xl;by_cases hr:c.real.none=true;·rw[if_pos hr,hr];rfl
    ·rw[if_neg hr];have:c.real.none=false:=by simpa using hr
     rw[this];rfl
   ·show(s.pick.aK c).aL U.id=_;rw[ag,B,ha];show _=(_&&decide (U.q≠[]));rw[K];simp
   ·have u:Xl c.real=some d:=hd;unfold Xl at u;split at u;·cases u
    ·obtain rfl:=Zs u;exact⟨Nat.zero_le _,Nat.zero_le _,by show false=decide (U.q≠[]);rw[K];rfl⟩
  ·rw[if_neg B];exact⟨⟨y,by show(s.tree.change c).at U.id=_;rw[Z,if_neg B];exact E,k1,k2,k3,k4,by show(s.pick.aK c).aL U.id=_;rw[ag];exact k5⟩,k.many,k.held,k.good,k.debt⟩
 ·dsimp only;rw[h.row,J];have el:Hn Qw.id i s.aI=s.leaf i:=rfl;rw[el];by_cases B:i=c.id
  ·cases R:s.leaf i with
   |none=>simp
   |some l=>
    obtain⟨k,ki,_⟩:=h.at R;have K:l.q=[]:=h.idle (by rw[←B];exact R) hm;constructor;·rintro⟨l',d,I,hd,aa,_⟩;obtain rfl:=Zs I;have:=(k.debt d hd).2.2;rw[aa,K]at this;simp at this
    ·rintro⟨l',d,I,hd,aa,_⟩;obtain rfl:=Zs I;have ab:(if l.id=c.id then{l with debt:=Xl c.real}else l).debt=some d:=hd;rw[if_pos (ki.trans B)]at ab;have u:Xl c.real=some d:=ab;unfold Xl at u;split at u;·cases u
     ·obtain rfl:=Zs u;cases aa
  ·cases R:s.leaf i with
   |none=>simp
   |some l=> have ki:=(h.at R).2.1;rw[Zn,if_neg (by rw[ki];exact B)]
theorem Ng{i:Int}(d:s.aP i=0):¬0<s.many i∧s.tree.aP i=0:=by
 unfold Qf.aP at d;unfold Qm.aP;split at d;·cases d
 ·rename_i k;split at d;·cases d
  ·rename_i q;split at d;·cases d
   ·rename_i u;refine⟨u,?_⟩;cases z:s.tree.at i with
    |none=>rw[z]at k;exact absurd rfl k
    |some c=> dsimp only;rw[if_neg q]
theorem Vl.drop(h:Vl N s){i:Int}(h0:s.aP i=0):Vl N (s.drop i):=by
 obtain⟨hm,B⟩:=Ng h0;have ha:=h.asleep hm;obtain⟨x,q,hx,i1,hu,hq,ag,hk,mt,dd⟩:=h.mt.drop h.tree h.pick B ha;have E:=We B;have K:=h.tree.drop B;have aa:=Iz i1 hx hu ha hq;have J:=h.pick.drop h.pinv i1 hx hu ha hq hk;have ae:Qs (Xk (s.tree.drop i)) N (s.pick.drop i):=J.redep (Kr (K.zero (by decide))) (fun y z _=>by
  have:=Qe.at_of J.nd z;rw[aa]at this;split at this;·cases this
  ·rename_i e;exact dd _ e)
 obtain⟨pv,af⟩:=h.pinv.drop h.pick i1 hx hu ha hq hk;have e:s.drop i={s with tree:=s.tree.drop i,pick:=s.pick.drop i,aI:=Kp Qw.id i s.aI}:=by unfold Qf.drop;rw[if_pos h0];rfl
 rw[e];have c:∀j,Hn Qw.id j (Kp Qw.id i s.aI)=if j=i then none else s.leaf j:=fun j=>Qgi i j;have I:∀l,l∈Kp Qw.id i s.aI→l∈s.aI∧l.id≠i:=fun l u=>by have:=List.mem_filter.1 u;exact⟨this.1,by simpa using this.2⟩
 refine⟨h.most,K,ae,pv,mt,h.nd.sublist (List.filter_sublist.map _),fun j y z ac=>?_,fun l u=>?_,fun a j b=>?_⟩
 ·dsimp only at z;rw[E]at z;split at z;·cases z
  ·rename_i R;obtain⟨l,u⟩:=h.lv j y z ac;exact⟨l,by show Hn Qw.id j _=_;rw[c,if_neg R];exact u⟩
 ·obtain⟨V,Z⟩:=I l u;have k:=h.ok l V;obtain⟨y,z,k2⟩:=k.sp;exact⟨⟨y,by show(s.tree.drop i).at l.id=_;rw[E,if_neg Z];exact z,by show _∧_∧_∧_∧(s.pick.drop i).aL l.id=_;rw[af];exact k2⟩,k.many,k.held,k.good,k.debt⟩
 ·dsimp only;rw[h.row,c];have el:Hn Qw.id j s.aI=s.leaf j:=rfl;rw[el];split;·rename_i R;refine⟨fun⟨l,d,u,hd,U,_⟩=>?_,fun⟨l,d,u,_⟩=>(by cases u)⟩;exfalso;obtain⟨k,ki,_⟩:=h.at u;have ab:l.q=[]:=h.idle (by rw[←R];exact u) hm;have:=(k.debt d hd).2.2;rw[U,ab]at this;simp at this
  ·exact Iff.rfl
theorem If{c:List Xu}{i:Int}{d:Ju}{a:Nat}{j:Int}{b:Nat}:(a,j,b)∈Hj c i d↔if j=i then d.aL=true∧a=d.elig∧b=d.due else(a,j,b)∈c:=by unfold Hj Vf Xa;grind [Lb]
theorem Vl.upd(h:Vl N s)(U:N≤M){i:Int}{l l':Qw}{row':List Xu}{p':Qe}(hl:s.leaf i=some l)(q:l'.id=i)(ag:l'.pk=l.pk)(aa:l'.bt=l.bt)(ab:l'.debt.isSome=l.debt.isSome)
  (h1:l'.q.length≤l'.pk)(h2:Jn l'.q≤l'.bt)(h3:∀x∈l'.q,Ll x∧x.cls=i)(h4:∀d,l'.debt=some d→d.got≤Xw∧d.run.l.length≤M∧d.aL=decide (l'.q≠[]))
  (ae:Qs (Xk s.tree) M p') (af:Uz p') (ac:Vp s.tree p') (Z:∀j x,s.pick.at j=some x→x.leaf=true→j≠i→p'.aL j=s.pick.aL j)
  (V:∀c,s.tree.at i=some c→p'.aL i=(c.sp.aJ&&decide (l'.q≠[])))
  (E:∀a j b,(a,j,b)∈row'↔if j=i then∃d,l'.debt=some d∧d.aL=true∧a=d.elig∧b=d.due else(a,j,b)∈s.row):
  Vl M {s with aI:=Lg Qw.id l' s.aI,row:=row',pick:=p'}:=by
 have u:∀j,Hn Qw.id j (Lg Qw.id l' s.aI)=if j=i then some l' else s.leaf j:=fun j=>by have:=Qeo (key:=Qw.id) (x:=l') (y:=l) (l:=s.aI) (by rw[q];exact hl) j;rw[this,q];rfl
 obtain⟨k,ki,_⟩:=h.at hl;obtain⟨c,hc,c1,c2,c3,c4,c5⟩:=k.sp;rw[ki]at hc;refine⟨h.most,h.tree,ae,af,ac,by show(List.map Qw.id (Lg Qw.id l' s.aI)).Nodup;rw[Qqa];exact h.nd,fun j y I ah=>?_,fun y I=>?_,fun a j b=>?_⟩
 ·by_cases e:j=i;·exact⟨l',by show Hn Qw.id j _=_;rw[u,if_pos e]⟩
  ·obtain⟨z,R⟩:=h.lv j y I ah;exact⟨z,by show Hn Qw.id j _=_;rw[u,if_neg e];exact R⟩
 ·rcases Qao (x:=l) h.nd I with rfl|⟨I,B⟩;·refine⟨⟨c,by show s.tree.at y.id=_;rw[q];exact hc,c1,by rw[ag];exact c2,by rw[aa];exact c3,ab.trans c4,by show p'.aL y.id=_;rw[q];exact V c hc⟩,h1,h2,fun x K=>⟨(h3 x K).1,(h3 x K).2.trans q.symm⟩,h4⟩
  ·have J:=(h.ok y I).more U;rw[q]at B;obtain⟨z,R,z1,z2⟩:=J.sp;obtain⟨x,K,_,e2,_⟩:=h.mt.fwd h.tree R;exact⟨⟨z,R,z1,by show _∧_∧_∧p'.aL y.id=_;rw[Z y.id x K (e2.trans z1) B];exact z2⟩,J.many,J.held,J.good,J.debt⟩
 ·show(a,j,b)∈row'↔_;rw[E];show _↔∃l d,Hn Qw.id j (Lg Qw.id l' s.aI)=some l∧_;rw[u];by_cases e:j=i;·rw[if_pos e,if_pos e];exact⟨fun⟨d,h⟩=>⟨l',d,rfl,h⟩,fun⟨l0,d,e0,h⟩=>by obtain rfl:=Zs e0;exact⟨d,h⟩⟩
  ·rw[if_neg e,if_neg e];exact h.row a j b
end
section
variable{N M:Nat}{s:Qf}
theorem Qjb(l:List Jr)(p:Jr):Jn (l++[p])=Jn l+p.len:=by rw[Tk];simp[Jn]
theorem Qlk{n c:Int}(h:Eo n c=0):1≤n∧n≤c∧c≤65535:=by grind [Eo]
theorem Mk{p:Jr}(d:s.aQ p=0):∃c l,s.tree.at p.cls=some c∧c.sp.leaf=true∧(1≤p.len∧p.len≤s.most∧s.most≤65535)∧s.leaf p.cls=some l∧¬(l.q.length=l.pk∨(l.bt:Int)-Jn l.q<p.len):=by
 unfold Qf.aQ at d;cases q:s.tree.at p.cls with
 |none=>rw[q]at d;cases d
 |some c=>
  rw[q]at d;dsimp only at d;split at d;·cases d
  ·rename_i z;split at d;·rename_i k;exact absurd d k
   ·rename_i k;cases u:s.leaf p.cls with
    |none=>rw[u]at d;cases d
    |some l=>
     rw[u]at d;dsimp only at d;split at d;·cases d
     ·rename_i B;exact⟨c,l,rfl,by simpa using z,Qlk (by simpa using k),rfl,B⟩
theorem Qmg(l:Qw):s.aR l={s with aI:=Lg Qw.id l s.aI}:=rfl
theorem Rm(l:Qw)(f:Ju→Ju):s.owe l f={s with aI:=Lg Qw.id {l with debt:=l.debt.map f} s.aI,row:=match l.debt with
  |none=>s.row
  |some d=>Hj s.row l.id (f d)}:=by
 obtain⟨i,k,c,q,debt⟩:=l;unfold Qf.owe;cases debt with
 |none=>rfl
 |some d=>rfl
theorem Ct{p:Jr}{now:Nat}{l:Qw}(c:s.aQ p=0)(k:s.leaf p.cls=some l):
  s.push p now=if l.q≠[]then s.aR {l with q:=l.q++[p]}else{s.owe {l with q:=l.q++[p]} (fun d=>d.wake now p.len)with pick:=s.pick.wake p.cls now}:=by unfold Qf.push;grind [Rm]
theorem Vl.offpath(h:Vl N s){i j:Int}{x:Qx}(B:s.pick.at j=some x)(z:x.leaf=true)(k:j≠i):j∉s.pick.path 9 i:=fun u=>by obtain⟨c,q,d⟩:=Mi h.pick h.pinv.inn u k;rw[B]at q;obtain rfl:=Zs q;rw[z]at d;cases d
theorem Qgq{a b:Bool}(h:a=true↔b=true):a=b:=by cases a<;>cases b<;>simp_all
theorem Vl.push(h:Vl N s){p:Jr}(now:Nat)(h0:s.aQ p=0):Vl (N+16) (s.push p now):=by
 obtain⟨c,l,V,af,Z,J,aj⟩:=Mk h0;obtain⟨k,ki,_⟩:=h.at J;obtain⟨c',I,_,c2,c3,c4,c5⟩:=k.sp;rw[ki]at I c5;rw[V]at I;obtain rfl:=Zs I;have ai:=k.many;have ah:=k.held;have h1:(l.q++[p]).length≤l.pk:=by simp;omega
 have h2:Jn (l.q++[p])≤l.bt:=by rw[Qjb];omega
 have h3:∀x∈l.q++[p],Ll x∧x.cls=p.cls:=fun x B=>by
  rcases Zl.1 B with B|B;·have:=k.good x B;exact⟨this.1,this.2.trans ki⟩
  ·obtain rfl:x=p:=by simpa using B
   exact⟨⟨Z.1,by omega⟩,rfl⟩
 rw[Ct h0 J];by_cases hq:l.q=[]
 ·rw[if_neg (by simpa using hq),Rm];have aa:=h.pick.wake p.cls now;obtain⟨pv,pm,ae⟩:=h.pinv.wake h.pick p.cls now;have am:=h.tree.pos V;obtain⟨x,B,_,x2,x3,_⟩:=h.mt.fwd h.tree V;refine Vl.upd (l:=l) (l':={l with q:=l.q++[p],debt:=l.debt.map fun d=>d.wake now p.len}) h (by omega) J ki rfl rfl (by simp) h1 h2 h3 (fun d z=>?_) aa.1 pv (h.mt.same aa.2 pm) (fun j y E ak hj=>?_) (fun y E=>?_) (fun a j b=>?_)
  ·dsimp only at z;cases Eu:l.debt with
   |none=>rw[Eu]at z;cases z
   |some d0=>
    rw[Eu]at z;have ag:d0.wake now p.len=d:=Zs z;subst ag;obtain⟨g1,g2,R⟩:=k.debt d0 Eu;rw[hq]at R;have R:d0.aL=false:=by simpa using R
    unfold Ju.wake;rw[if_neg (by simp[R])];refine⟨g1,?_,by simp⟩;dsimp only;rw[Gj];omega
  ·refine Qgq ((ae j).trans ⟨fun U=>U.elim id fun hh=>absurd hh.1 ?_,.inl⟩);exact h.offpath E ak hj
  ·rw[V]at E;obtain rfl:=Zs E;have e0:s.pick.aL p.cls=false:=by rw[c5,hq];simp
   have:decide (l.q++[p]≠[])=true:=by simp
   dsimp only;rw[this,Bool.and_true];refine Qgq ((ae p.cls).trans ⟨fun U=>?_,fun hs=>.inr ⟨Sv B (by omega),⟨x,B,x3.trans hs⟩,x,B,by omega,x2.trans af,x3.trans hs⟩⟩);rcases U with U|⟨_,⟨y,E,al⟩,_⟩;·rw[e0]at U;cases U
   ·rw[B]at E;obtain rfl:=Zs E;exact x3.symm.trans al
  ·dsimp only;cases Eu:l.debt with
   |none=>
    dsimp only;rw[h.row];by_cases e:j=p.cls;·rw[if_pos e,e];refine⟨fun⟨l0,d,K,z,_⟩=>?_,fun⟨d,z,_⟩=>(by cases z)⟩;have u:s.leaf p.cls=some l0:=K;rw[J]at u;obtain rfl:=Zs u;rw[Eu]at z;cases z
    ·rw[if_neg e]
   |some d0=>
    dsimp only;rw[If];rw[ki];by_cases e:j=p.cls;·rw[if_pos e,if_pos e];simp
    ·rw[if_neg e,if_neg e]
 ·rw[if_pos (by simpa using hq),Qmg];have ab:decide (l.q++[p]≠[])=true:=by simp
  have ac:decide (l.q≠[])=true:=by simpa using hq
  refine Vl.upd (l:=l) (l':={l with q:=l.q++[p]}) (row':=s.row) (p':=s.pick) h (by omega) J ki rfl rfl rfl h1 h2 h3 (fun d z=>?_) (h.pick.more (by omega)) h.pinv h.mt (fun _ _ _ _ _=>rfl) (fun y E=>?_) (fun a j b=>?_);·obtain⟨g1,g2,R⟩:=k.debt d z;exact⟨g1,by omega,by dsimp only;rw[R,ab,ac]⟩
  ·rw[V]at E;obtain rfl:=Zs E;dsimp only;rw[c5,ab,ac]
  ·rw[h.row];by_cases e:j=p.cls;·rw[if_pos e,e];refine⟨fun⟨l0,d,K,z⟩=>?_,fun⟨d,z⟩=>⟨l,d,J,z⟩⟩;have u:s.leaf p.cls=some l0:=K;rw[J]at u;obtain rfl:=Zs u;exact⟨d,z⟩
   ·rw[if_neg e]
theorem Qax{p:Qe}{dep:Int→Nat}(K:Qs dep N p)(B:Uz p)(now:Nat):∀(n:Nat)(i j:Int),p.next now n i=some j→(∃c,p.at j=some c∧c.leaf=true)∧(j=i∨p.aL j=true)
 |0,i,j,h=>by rw[Qe.next]at h;cases h
 |n+1,i,j,h=>by
  rw[Qe.next]at h;cases d:p.at i with
  |none=>rw[d]at h;cases h
  |some c=>
   rw[d]at h;dsimp only at h;by_cases z:c.leaf=true;·rw[if_pos z]at h;obtain rfl:=Zs h;exact⟨⟨c,d,z⟩,.inl rfl⟩
   ·rw[if_neg z]at h;cases u:Xf now c.tree with
    |none=>rw[u]at h;cases h
    |some e=>
     rw[u]at h;dsimp only at h;obtain⟨a,k,b⟩:=e;have J:(a,k,b)∈c.tree:=List.mem_of_find?_eq_some u;have I:=((B.ent k i c d a b).1 J).2.1;obtain⟨E,q⟩:=Qax K B now n k j h;refine⟨E,.inr ?_⟩;rcases q with rfl|q;·exact I
     ·exact q
theorem Sq{l:List Xu}{x:Nat×Int}(h:low l=some x):∃a,(a,x.2,x.1)∈l:=by obtain⟨⟨a,i,b⟩,c,e⟩:=Qe9 h;exact⟨a,by rw[e];exact c⟩
theorem Vl.who(h:Vl N s){now:Nat}{id:Int}{k:Nat}(q:s.who now=some (id,k)):
  ∃l,s.leaf id=some l∧l.q≠[]∧(k=1∨k=2):=by
 unfold Qf.who at q;cases ha:Jt now s.row with
 |some x=>
  rw[ha]at q;obtain⟨B,E⟩:=Prod.mk.inj (Zs q);unfold Jt at ha;obtain⟨a,hm⟩:=Sq ha;obtain⟨l,d,U,hd,R,_⟩:=(h.row a x.2 x.1).1 (List.mem_filter.1 hm).1;have z:s.leaf id=some l:=by rw[←B];exact U
  refine⟨l,z,?_,.inl E.symm⟩;have:=((h.at z).1.debt d hd).2.2;rw[R]at this;exact of_decide_eq_true this.symm
 |none=>
  rw[ha]at q;dsimp only at q;cases V:s.pick.next now 10 0 with
  |none=>rw[V]at q;cases q
  |some j=>
   rw[V]at q;obtain⟨B,E⟩:=Prod.mk.inj (Zs q);obtain⟨⟨c,K,u⟩,I⟩:=Qax h.pick h.pinv now 10 0 j V;have J:s.pick.aL j=true:=by
    rcases I with rfl|I;·obtain⟨r,hr,Z,_⟩:=h.mt.root;rw[hr]at K;obtain rfl:=Zs K;rw[Z]at u;cases u
    ·exact I
   obtain⟨_,l,_,_,U,hq⟩:=h.busy K u J;exact⟨l,by rw[←B];exact U,hq,.inr E.symm⟩
theorem Fd{id:Int}{rule:Nat}{l:Qw}(c:s.leaf id=some l):
  s.take id rule={s.owe {l with q:=l.q.tail} (fun d=>d.serve rule (l.q.headD Jr.zero).len (l.q.tail.headD Jr.zero).len)with pick:=s.pick.sent id ((l.q.headD Jr.zero).len*256).toNat (decide (l.q.tail≠[]))}:=by
 unfold Qf.take;rw[c];dsimp only;rw[Rm]
theorem Vl.take(h:Vl N s){id:Int}(rule:Nat){l:Qw}(hl:s.leaf id=some l)(hq:l.q≠[]):Vl (N+16) (s.take id rule):=by
 obtain⟨k,ki,_⟩:=h.at hl;obtain⟨c,hc,ac,c2,c3,c4,c5⟩:=k.sp;rw[ki]at hc c5;rw[Fd hl,Rm];obtain⟨x,t,E⟩:∃x t,l.q=x::t:=by
  cases ag:l.q with
  |nil=>exact absurd ag hq
  |cons x t=>exact⟨x,t,rfl⟩
 have u:=k.good;rw[E]at u;have K:=k.many;have J:=k.held;rw[E]at K J;simp only[Zm,Jn]at K J;have aj:=(u x (by simp)).1.1;have aa:=h.pick.sent id ((l.q.headD Jr.zero).len*256).toNat (decide (l.q.tail≠[]));obtain⟨pv,pm,ai,B,Z⟩:=h.pinv.sent h.pick id ((l.q.headD Jr.zero).len*256).toNat (decide (l.q.tail≠[]));have ab:decide (l.q≠[])=true:=by simpa using hq
 have U:∀I,l.debt=some I→(I.serve rule (l.q.headD Jr.zero).len (l.q.tail.headD Jr.zero).len).got≤Xw∧(I.serve rule (l.q.headD Jr.zero).len (l.q.tail.headD Jr.zero).len).run.l.length≤N+16∧(I.serve rule (l.q.headD Jr.zero).len (l.q.tail.headD Jr.zero).len).aL=decide (l.q.tail≠[]):=fun I Eu=>by
  obtain⟨g1,g2,g3⟩:=k.debt I Eu;rw[ab]at g3;unfold Ju.serve;rw[if_neg (by simp[g3])];refine⟨?_,by show I.run.l.length≤_;omega,?_⟩
  ·dsimp only;split;·exact Nat.min_le_right _ _
   ·exact g1
  ·show decide (1≤(l.q.tail.headD Jr.zero).len)=_;rw[E];cases t with
   |nil=>rfl
   |cons y t=> have:=(u y (by simp)).1.1;simp[this]
 refine Vl.upd (l:=l) (l':={l with q:=l.q.tail,debt:=l.debt.map fun d=>d.serve rule (l.q.headD Jr.zero).len (l.q.tail.headD Jr.zero).len}) h (by omega) hl ki rfl rfl (by simp) (by simp[E];omega) (by simp[E];omega)
  (fun y hy=>by
   have:=k.good y (by rw[E]at hy⊢;exact Zr _ hy);exact⟨this.1,this.2.trans ki⟩) (fun d R=>?_) aa.1 pv (h.mt.same aa.2 pm) (fun j y hy ah hj=>B j (.inl (h.offpath hy ah hj))) (fun y hy=>?_) (fun a j b=>?_)
 ·dsimp only at R;cases Eu:l.debt with
  |none=>rw[Eu]at R;cases R
  |some I=> rw[Eu]at R;have ae:I.serve rule (l.q.headD Jr.zero).len (l.q.tail.headD Jr.zero).len=d:=Zs R;subst ae;exact U I Eu
 ·rw[hc]at hy;obtain rfl:=Zs hy;obtain⟨z,hz,_,z2,_⟩:=h.mt.fwd h.tree hc;dsimp only;cases ht:decide (l.q.tail≠[])with
  |true=> rw[ht]at B;rw[B id (.inr (.inl rfl)),c5,ab]
  |false=> rw[ht]at Z;rw[Z rfl ⟨z,hz,z2.trans ac⟩,Bool.and_false]
 ·dsimp only;cases Eu:l.debt with
  |none=>
   dsimp only;rw[h.row];by_cases e:j=id;·rw[if_pos e,e];refine⟨fun⟨l0,d,af,R,_⟩=>?_,fun⟨d,R,_⟩=>(by cases R)⟩;have V:s.leaf id=some l0:=af;rw[hl]at V;obtain rfl:=Zs V;rw[Eu]at R;cases R
   ·rw[if_neg e]
  |some I=>
   dsimp only;rw[If];rw[ki];by_cases e:j=id;·rw[if_pos e,if_pos e];simp
   ·rw[if_neg e,if_neg e]
end
def RT(p:Qe):Prop:=∀c∈p,Xd c.tree
section
variable{p:Qe}
theorem Ie{id:Int}{l:List Xu}(h:Xd l):Xd (Xa id l):=h.sublist List.filter_sublist
theorem RT.at(h:RT p){i:Int}{c:Qx}(d:p.at i=some c):Xd c.tree:=h c (Qe.aE d).1
theorem RT.set(h:RT p){x:Qx}(k:Xd x.tree):RT (p.set x):=fun c d=>by
 rcases mem_set d with rfl|⟨d,_⟩;·exact k
 ·exact h c d
theorem RT.fam(h:RT p)(i:Int)(f:Jc→Jc):RT (p.fam i f):=by
 unfold Qe.fam;split;·exact h
 ·split;·exact h
  ·rename_i q c;exact h.set (show Xd q.tree from h.at c)
theorem RT.note(h:RT p)(i:Int):RT (p.note i):=by
 unfold Qe.note;split;·exact h
 ·split;·exact h
  ·rename_i q c;refine h.set ?_;dsimp only;split;·exact Th (show Xd q.tree from h.at c)
   ·exact Ie (show Xd q.tree from h.at c)
theorem RT.up1(h:RT p)(now:Nat)(i:Int):RT (p.up1 now i):=by
 unfold Qe.up1;split;·exact h
 ·rename_i c d;split;·exact h
  ·exact(h.fam i _).set (show Xd c.tree from h.at d)
theorem RT.aV(h:RT p)(g:Nat)(i:Int):RT (p.aV g i):=by
 unfold Qe.aV;split;·exact h
 ·rename_i c d;exact(h.set (x:={c with total:=c.total+min g (Xw-c.total)}) (show Xd c.tree from h.at d)).fam i _
theorem RT.aW(h:RT p)(sl:Bool)(i:Int):RT (p.aW sl i):=by
 unfold Qe.aW;split;·exact h
 ·split;·exact(h.fam i _).note i
  ·exact h.note i
theorem RT.fold{c:Qe→Int→Qe}(d:∀p i,RT p→RT (c p i)):∀(l:List Int)(p:Qe),RT p→RT (l.foldl c p)
 |[],_,h=>h
 |i::l,p,h=>RT.fold d l _ (d p i h)
theorem RT.wake(h:RT p)(i:Int)(now:Nat):RT (p.wake i now):=by unfold Qe.wake;grind [RT.fold,Qs.note,RT.note,Qs.up1,RT.up1]
theorem RT.sent(h:RT p)(i:Int)(g:Nat)(c:Bool):RT (p.sent i g c):=by unfold Qe.sent;grind [RT.fold,Qs.aW,RT.aW,Qs.aV,RT.aV]
theorem RT.put(h:RT p)(s:Yk):RT (p.put s):=by
 unfold Qe.put;split;·exact h
 ·rename_i q k;split;·exact h
  ·refine RT.set (fun c d=>?_) (show Xd q.tree from h.at k);rcases Zl.1 d with d|d;·exact h c d
   ·obtain rfl:=List.mem_singleton.1 d;exact List.Pairwise.nil
theorem RT.drop(h:RT p)(i:Int):RT (p.drop i):=by
 unfold Qe.drop;split;·exact h
 ·split;·exact h
  ·split;·exact h
   ·rename_i q k;exact fun c d=>(h.set (x:={q with mem:=q.mem.drop i,aM:=q.aM-1}) (show Xd q.tree from h.at k)) c (List.mem_filter.1 d).1
theorem RT.aK(h:RT p)(s:Yk):RT (p.aK s):=by
 unfold Qe.aK;split;·exact h
 ·split;·exact h
  ·intro c d;obtain⟨x,k,rfl⟩:=Z3.1 d;have:=(h.fam s.id fun f=>if s.aJ then(f.drop s.id).add s.id s.share else f.drop s.id) x k;split;·exact this
   ·exact this
theorem RT.new:RT Qe.new:=fun c d=>by obtain rfl:=List.mem_singleton.1 d;exact List.Pairwise.nil
end
structure SR(s:Qf):Prop where
 row:Xd s.row
 pick:RT s.pick
 due:∀l∈s.aI,∀d,l.debt=some d→d.elig≤Qq∧d.due≤Qq
theorem Qm5(r:Xh)(y:Nat):r.elig y≤Qq:=by unfold Xh.elig;grind [Pb]
theorem Az{c:Jy}{d:Ju}(h:Xl c=some d):d.elig≤Qq∧d.due≤Qq:=by
 unfold Xl at h;split at h;·cases h
 ·obtain rfl:=Zs h;exact⟨Nat.zero_le _,Nat.zero_le _⟩
theorem Qs3{d:Ju}(h:d.elig≤Qq∧d.due≤Qq)(now:Nat)(c:Int):(d.wake now c).elig≤Qq∧(d.wake now c).due≤Qq:=by unfold Ju.wake;grind [Qm5,reach_le]
theorem Qp8{d:Ju}(h:d.elig≤Qq∧d.due≤Qq)(c:Nat)(k q:Int):(d.serve c k q).elig≤Qq∧(d.serve c k q).due≤Qq:=by unfold Ju.serve;grind [reach_le,Qm5]
section
variable{s:Qf}
theorem SR.new(c:Int):SR (.new c):=⟨List.Pairwise.nil,RT.new,nofun⟩
theorem SR.add(h:SR s)(c:Yk):SR (s.add c):=by
 unfold Qf.add;split
 ·refine⟨h.row,h.pick.put c,fun l k d q=>?_⟩;dsimp only at k;split at k
  ·rcases Zl.1 k with k|k;·exact h.due l k d q
   ·obtain rfl:=List.mem_singleton.1 k;exact Az q
  ·exact h.due l k d q
 ·exact h
theorem SR.change(h:SR s)(c:Yk):SR (s.change c):=by
 unfold Qf.change;split
 ·refine⟨h.row,h.pick.aK c,fun l q d k=>?_⟩;obtain⟨x,u,rfl⟩:=Z3.1 q;split at k;·exact Az k
  ·exact h.due x u d k
 ·exact h
theorem SR.drop(h:SR s)(i:Int):SR (s.drop i):=by
 unfold Qf.drop;split;·exact⟨h.row,h.pick.drop i,fun l c=>h.due l (List.mem_filter.1 c).1⟩
 ·exact h
theorem Qiu{c:List Xu}(h:Xd c)(i:Int)(d:Ju):Xd (Hj c i d):=by
 unfold Hj;split;·exact Th h
 ·exact Ie h
theorem SR.aR(h:SR s){l:Qw}(k:∀d,l.debt=some d→d.elig≤Qq∧d.due≤Qq):SR (s.aR l):=by
 refine⟨h.row,h.pick,fun y u d c=>?_⟩;obtain⟨x,q,rfl⟩:=Z3.1 u;split at c;·exact k d c
 ·exact h.due x q d c
theorem SR.owe(h:SR s)(l:Qw)(f:Ju→Ju)(k:∀d,l.debt=some d→(f d).elig≤Qq∧(f d).due≤Qq):SR (s.owe l f):=by
 unfold Qf.owe;split;·rename_i q;exact h.aR fun d c=>by rw[q]at c;cases c
 ·rename_i d c;have:=h.aR (l:={l with debt:=some (f d)}) fun u e=>by obtain rfl:=Zs e;exact k d c
  exact⟨Qiu h.row _ _,h.pick,this.due⟩
theorem I8{i:Int}{l:Qw}(c:s.leaf i=some l):l∈s.aI:=List.mem_of_find?_eq_some c
theorem SR.push(h:SR s)(p:Jr)(now:Nat):SR (s.push p now):=by
 unfold Qf.push;split
 ·split;·exact h
  ·rename_i l k;have c:=h.due l (I8 k);dsimp only;split;·exact h.aR c
   ·have:=h.owe {l with q:=l.q++[p]} (fun d=>d.wake now p.len) fun d e=>Qs3 (c d e) _ _;exact⟨this.row,this.pick.wake p.cls now,this.due⟩
 ·exact h
theorem SR.take(h:SR s)(i:Int)(rule:Nat):SR (s.take i rule):=by
 unfold Qf.take;split;·exact h
 ·rename_i l k;have c:=h.due l (I8 k);have:=h.owe {l with q:=l.q.tail} (fun d=>d.serve rule (l.q.headD Jr.zero).len (l.q.tail.headD Jr.zero).len) fun d e=>Qp8 (c d e) _ _ _;exact⟨this.row,this.pick.sent i _ _,this.due⟩
end
structure Xp(N:Nat)(s:Qf):Prop extends Vl N s where
 sr:SR s
section
variable{N M:Nat}{s:Qf}
theorem Xp.new{c:Int}(d:1≤c)(k:c<65536):Xp N (Qf.new c):=⟨Vl.new d k,SR.new c⟩
theorem Xp.add(h:Xp N s){c:Yk}(d:s.aO c=0):Xp N (s.add c):=⟨h.toVl.add d,h.sr.add c⟩
theorem Xp.change(h:Xp N s){c:Yk}(d:s.aG c=0):Xp N (s.change c):=⟨h.toVl.change d,h.sr.change c⟩
theorem Xp.drop(h:Xp N s){i:Int}(c:s.aP i=0):Xp N (s.drop i):=⟨h.toVl.drop c,h.sr.drop i⟩
theorem Xp.push(h:Xp N s){p:Jr}(now:Nat)(c:s.aQ p=0):Xp (N+16) (s.push p now):=⟨h.toVl.push now c,h.sr.push p now⟩
theorem Xp.take(h:Xp N s){id:Int}(rule:Nat){l:Qw}(c:s.leaf id=some l)(d:l.q≠[]):Xp (N+16) (s.take id rule):=⟨h.toVl.take rule c d,h.sr.take id rule⟩
end
section
variable{h:Qm}
theorem Oq(z:J8 h){i:Int}{c:Vm}(d:h.at i=some c):(c.sp.par=0∧Xk h i=1)∨∃q,h.at c.sp.par=some q∧q.sp.leaf=false∧Xk h i=Xk h c.sp.par+1:=by rw[V7 d];refine(z.par c (Qm.aE d).1).imp id fun⟨q,k,u,e⟩=>⟨q,k,u,?_⟩;rw[V7 k];exact e
theorem Qhi(u:J8 h):∀{n:Nat}{i j:Int},j∈h.path n i→Xk h j≤Xk h i∧∃c,h.at j=some c
 |0,i,j,d=>by rw[Qm.path]at d;cases d
 |n+1,i,j,d=>by
  rw[Qm.path]at d;cases k:h.at i with
  |none=>rw[k]at d;cases d
  |some c=>
   rw[k]at d;dsimp only at d;rcases Zu.1 d with rfl|d;·exact⟨Zv _,c,k⟩
   ·obtain⟨B,z⟩:=Qhi u d;refine⟨?_,z⟩;rcases Oq u k with⟨e,_⟩|⟨q,_,_,e⟩;·have:Xk h c.sp.par=0:=Kr (u.zero (by omega));omega
    ·omega
theorem Fx(d:J8 h):∀(n:Nat)(i:Int),(h.path n i).Pairwise fun a b=>Xk h b<Xk h a
 |0,i=>by rw[Qm.path];exact List.Pairwise.nil
 |n+1,i=>by
  rw[Qm.path];cases k:h.at i with
  |none=>exact List.Pairwise.nil
  |some c=>
   dsimp only;refine List.pairwise_cons.2 ⟨fun j u=>?_,Fx d n _⟩;have B:=(Qhi d u).1;rcases Oq d k with⟨e,z⟩|⟨q,_,_,e⟩;·have:Xk h c.sp.par=0:=Kr (d.zero (by omega));omega
   ·omega
theorem Qkk(J:J8 h){n:Nat}{i a b:Int}(ha:a∈h.path n i)(q:b∈h.path n i)(e:Xk h a=Xk h b):a=b:=by
 have B:=Fx J n i;generalize h.path n i=l at ha q B;induction l with
 |nil=>cases ha
 |cons x l I=>
  obtain⟨z,E⟩:=List.pairwise_cons.1 B;rcases Zu.1 ha with u|d
  ·rcases Zu.1 q with k|c;·exact u.trans k.symm
   ·have:=z b c;rw[←u]at this;omega
  ·rcases Zu.1 q with k|c;·have:=z a d;rw[←k]at this;omega
   ·exact I d c E
theorem P7:∀{n:Nat}{i k:Int},k∈h.path n i→k≠i→∃a c,a∈h.path n i∧h.at a=some c∧c.sp.par=k
 |0,i,k,q,_=>by rw[Qm.path]at q;cases q
 |n+1,i,k,q,hne=>by
  rw[Qm.path]at q⊢;cases u:h.at i with
  |none=>rw[u]at q;cases q
  |some c=>
   rw[u]at q;dsimp only at q⊢;rcases Zu.1 q with rfl|q;·exact absurd rfl hne
   ·by_cases e:k=c.sp.par;·exact⟨i,c,List.mem_cons_self,u,e.symm⟩
    ·obtain⟨a,d,z,B,E⟩:=P7 q e;exact⟨a,d,Zr _ z,B,E⟩
theorem Qdc(k:J8 h):∀{n:Nat}{i:Int}{c:Vm},h.at i=some c→Xk h i≤n→∃a d,a∈h.path n i∧h.at a=some d∧d.sp.par=0
 |0,i,c,hc,hd=>by have:=(k.dep c (Qm.aE hc).1).1;rw[V7 hc]at hd;omega
 |n+1,i,c,hc,hd=>by
  rw[Qm.path,hc];dsimp only;rcases Oq k hc with⟨e,_⟩|⟨q,E,_,e⟩;·exact⟨i,c,List.mem_cons_self,hc,e⟩
  ·obtain⟨a,d,u,z,B⟩:=Qdc k (n:=n) E (by omega);exact⟨a,d,Zr _ u,z,B⟩
theorem Nl(k:J8 h){i:Int}{c:Vm}(d:h.at i=some c):Xk h i≤8:=by rw[V7 d];exact(k.dep c (Qm.aE d).1).2
theorem Dv{i y:Int}:y∈h.aM i↔∃c∈h,c.sp.id=y∧c.sp.par=i:=by grind [Yk.aM,Qm.aM,Vm.id]
theorem Np(z:J8 h){id:Int}(U:∀c,h.at id=some c→c.sp.leaf=false){x:Int}:x∈h.aI id↔∃a∈h.aM id,x∈h.aI a:=by
 rw[Y8];constructor
 ·rintro⟨c,B,rfl,q,u⟩;have k:=Da z.sorted B;have key:∃a d,a∈h.path 9 c.sp.id∧h.at a=some d∧d.sp.par=id:=by
   rcases u with rfl|u;·exact Qdc z k (by have:=Nl z k;omega)
   ·refine P7 u ?_;rintro rfl;have:=U c k;rw[q]at this;cases this
  obtain⟨a,d,ha,E,I⟩:=key;obtain⟨K,J⟩:=Qm.aE E;exact⟨a,Dv.2 ⟨d,K,J,I⟩,Y8.2 ⟨c,B,rfl,q,.inr ha⟩⟩
 ·rintro⟨a,ha,V⟩;obtain⟨d,E,rfl,I⟩:=Dv.1 ha;obtain⟨c,B,rfl,q,u⟩:=Y8.1 V;have k:=Da z.sorted B;refine⟨c,B,rfl,q,?_⟩;by_cases R:id=0;·exact .inl R
  ·right;rcases u with u|u;·have:=(Cq (z.may d E)).1;omega
   ·have:=Qhj z (Nat.lt_succ_of_le (Nl z k)) u (Da z.sorted E) (by rw[I];exact R);rwa[I]at this
theorem No(k:J8 h){id a b x:Int}(ha:a∈h.aM id)(hb:b∈h.aM id)(K:x∈h.aI a)(R:x∈h.aI b):a=b:=by
 obtain⟨d,V,rfl,hp⟩:=Dv.1 ha;obtain⟨d',z,rfl,J⟩:=Dv.1 hb;obtain⟨c,hc,rfl,ab,E⟩:=Y8.1 K;obtain⟨c',aa,e,_,I⟩:=Y8.1 R;have i1:=(Cq (k.may d V)).1;have i2:=(Cq (k.may d' z)).1;have E:=E.resolve_left (by omega);have I:=I.resolve_left (by omega);refine Qkk k E I ?_;have k1:=Oq k (Da k.sorted V);have U:=Oq k (Da k.sorted z);rw[hp]at k1;rw[J]at U;rcases k1 with⟨e1,e2⟩|⟨q,Z,_,e2⟩
 ·rcases U with⟨_,B⟩|⟨q',u,_,B⟩;·omega
  ·rw[e1,k.zero (by decide)]at u;cases u
 ·rcases U with⟨e3,B⟩|⟨q',u,_,B⟩;·rw[e3,k.zero (by decide)]at Z;cases Z
  ·omega
theorem Pe:∀{a b:List Int},a.Pairwise (· < ·)→b.Pairwise (· < ·)→(∀x,x∈a↔x∈b)→a=b
 |[],[],_,_,_=>rfl
 |[],y::b,_,_,h=>by have:=(h y).2 List.mem_cons_self;cases this
 |x::a,[],_,_,h=>by have:=(h x).1 List.mem_cons_self;cases this
 |x::a,y::b,ha,hb,h=>by
  obtain⟨d,q⟩:=List.pairwise_cons.1 ha;obtain⟨k,u⟩:=List.pairwise_cons.1 hb;have e:x=y:=by
   rcases Zu.1 ((h x).1 List.mem_cons_self)with e|B;·exact e
   ·rcases Zu.1 ((h y).2 List.mem_cons_self)with e|E;·exact e.symm
    ·have:=k x B;have:=d y E;omega
  subst e;congr 1;refine Pe q u fun z=>⟨fun c=>?_,fun c=>?_⟩
  ·rcases Zu.1 ((h z).1 (Zr _ c))with rfl|h';·have:=d z c;omega
   ·exact h'
  ·rcases Zu.1 ((h z).2 (Zr _ c))with rfl|h';·have:=k z c;omega
   ·exact h'
theorem Qhp(k:J8 h){id:Int}(K:∀c,h.at id=some c→c.sp.leaf=false):((h.aM id).flatMap h.aI).mergeSort (fun x y=>decide (x≤y))=h.aI id:=by
 have B:((h.aM id).flatMap h.aI).Pairwise (· ≠ ·):=by
  refine List.pairwise_flatMap.2 ⟨fun a _=>(Ut k a).imp fun{x y}aa e=>by omega,?_⟩;have V:=Gk k.sorted id;have:∀l:List Int,l.Pairwise (· < ·)→(∀a∈l,a∈h.aM id)→l.Pairwise fun a b=>∀x∈h.aI a,∀y∈h.aI b,x≠y:=by
   intro l;induction l with
   |nil=>intro _ _;exact List.Pairwise.nil
   |cons a l ih=> intro U z;obtain⟨p1,p2⟩:=List.pairwise_cons.1 U;refine List.pairwise_cons.2 ⟨fun b J x Z y hy e=>?_,ih p2 fun a ha=>z a (Zr _ ha)⟩;subst e;have:=No k (z a List.mem_cons_self) (z b (Zr _ J)) Z hy;have:=p1 b J;omega
  exact this _ V fun a ha=>ha
 have d:=List.mergeSort_perm ((h.aM id).flatMap h.aI) (fun x y=>decide (x≤y));have u:=List.pairwise_mergeSort (le:=fun x y:Int=>decide (x≤y)) (fun a b c I q=>by simp only[decide_eq_true_eq]at*;omega) (fun a b=>by simp only[Bool.or_eq_true,decide_eq_true_eq];omega) ((h.aM id).flatMap h.aI);have E:=(d.pairwise_iff (R:=(· ≠ ·)) (fun h e=>h e.symm)).2 B;refine Pe ?_ (Ut k id) fun x=>?_
 ·refine(u.and E).imp fun{a b}⟨I,q⟩=>?_;have:a≤b:=by simpa using I
  have q:a≠b:=q;omega
 ·rw[d.mem_iff,List.mem_flatMap,Np k K]
theorem Rf(I:J8 h){id:Int}{c:Vm}(E:h.at id=some c)(J:c.sp.leaf=true):h.aI id=[id]:=by
 have K:=I.pos E;refine Pe (Ut I id) (by simp) fun x=>?_;rw[Y8];constructor
 ·rintro⟨d,hd,rfl,U,B⟩;have B:=B.resolve_left (by omega);by_cases e:id=d.sp.id;·simp[e]
  ·obtain⟨a,q,ha,V,k⟩:=P7 B e;rcases Oq I V with⟨e1,_⟩|⟨z,R,u,_⟩;·omega
   ·rw[k,E]at R;obtain rfl:=Zs R;rw[J]at u;cases u
 ·intro Z;obtain rfl:x=id:=by simpa using Z
  refine⟨c,K.2.2.2.2.2,K.2.2.2.2.1,J,.inr ?_⟩;rw[Qm.path,E];exact List.mem_cons_self
end
section
variable{N:Nat}{s:Qf}
theorem Qem{c:Yk}(h:s.aO c≠0):s.add c=s:=by unfold Qf.add;rw[if_neg h]
theorem Sj{c:Yk}(h:s.aG c≠0):s.change c=s:=by unfold Qf.change;rw[if_neg h]
theorem I0{i:Int}(h:s.aP i≠0):s.drop i=s:=by unfold Qf.drop;rw[if_neg h]
theorem Qnm{p:Jr}{now:Nat}(h:s.aQ p≠0):s.push p now=s:=by unfold Qf.push;rw[if_neg h]
theorem Qbc{i:Int}(h:s.leaf i=none):s.qOf i=[]:=by unfold Qf.qOf;rw[h];rfl
theorem Xp.leaf_none(h:Xp N s){i:Int}(u:s.tree.at i=none):s.leaf i=none:=by
 cases q:s.leaf i with
 |none=>rfl
 |some l=> obtain⟨k,z,_⟩:=h.at q;obtain⟨c,d,_⟩:=k.sp;rw[z,u]at d;cases d
theorem Xp.leaf_at(h:Xp N s){i:Int}{l:Qw}(u:s.leaf i=some l):∃c,s.tree.at i=some c∧c.sp.leaf=true:=by obtain⟨k,z,_⟩:=h.at u;obtain⟨c,q,d,_⟩:=k.sp;rw[z]at q;exact⟨c,q,d⟩
theorem Qt8(h:Xp N s)(c:Yk)(i:Int):(s.add c).qOf i=s.qOf i:=by
 by_cases d:s.aO c=0
 ·have k:s.tree.aO c=0:=d;have q:=h.leaf_none (Ub k).2.2.1;unfold Qf.add;rw[if_pos d];unfold Qf.qOf Qf.leaf;dsimp only;split
  ·have:=Ix (key:=Qw.id) (l:=s.aI) ⟨c.id,c.pk.toNat,c.bt.toNat,[],Xl c.real⟩ i;unfold Hn at this;rw[this];cases u:s.aI.find? (fun x=>decide (x.id=i))with
   |some x=>rfl
   |none=> dsimp only;split<;>rfl
  ·rfl
 ·rw[Qem d]
theorem Qbb(c:Yk)(i:Int):(s.change c).qOf i=s.qOf i:=by
 by_cases d:s.aG c=0
 ·unfold Qf.change;rw[if_pos d];unfold Qf.qOf Qf.leaf;dsimp only;have:=Qm1 (key:=Qw.id) (l:=s.aI) (f:=fun l=>if l.id=c.id then{l with debt:=Xl c.real}else l) (fun l=>by split<;>rfl) i;unfold Hn at this;rw[this];cases k:s.aI.find? (fun x=>decide (x.id=i))with
  |none=>rfl
  |some x=> simp only[Zn];split<;>rfl
 ·rw[Sj d]
theorem Qsf(h:Xp N s)(d i:Int):(s.drop d).qOf i=s.qOf i:=by
 by_cases c:s.aP d=0
 ·obtain⟨q,_⟩:=Ng c;unfold Qf.drop;rw[if_pos c];unfold Qf.qOf Qf.leaf;dsimp only;have:=Qgi (key:=Qw.id) (l:=s.aI) d i;unfold Hn Kp at this;rw[this];split
  ·rename_i e;cases u:s.aI.find? (fun x=>decide (x.id=i))with
   |none=>rfl
   |some x=>
    have k:s.leaf d=some x:=by rw[←e];exact u
    simp[h.idle k q]
  ·rfl
 ·rw[I0 c]
theorem Qbd{l l':Qw}{row:List Xu}{p:Qe}{i:Int}(d:s.leaf i=some l)(c:l'.id=i)(j:Int):Qf.qOf {s with aI:=Lg Qw.id l' s.aI,row:=row,pick:=p} j=if j=i then l'.q else s.qOf j:=by unfold Qf.qOf Qf.leaf;dsimp only;have:=Qeo (key:=Qw.id) (x:=l') (y:=l) (l:=s.aI) (by rw[c];exact d) j;unfold Hn at this;rw[this,c];split<;>rfl
theorem Qsg(h:Xp N s){p:Jr}(now:Nat)(B:s.aQ p=0)(i:Int):(s.push p now).qOf i=if i=p.cls then s.qOf p.cls++[p]else s.qOf i:=by
 obtain⟨c,l,J,I,E,k,z⟩:=Mk B;have u:=(h.at k).2.1;rw[Ct B k,Ov k];split;·exact Qbd (l:=l) (l':={l with q:=l.q++[p]}) (row:=s.row) (p:=s.pick) k u i
 ·rw[Rm];exact Qbd (l:=l) (l':={l with q:=l.q++[p],debt:=l.debt.map fun d=>d.wake now p.len}) k u i
theorem Qsh(h:Xp N s){id:Int}(c:Nat){l:Qw}(d:s.leaf id=some l)(i:Int):(s.take id c).qOf i=if i=id then l.q.tail else s.qOf i:=by grind [Qf.leaf,Qf.take,Qf.qOf,Jy.at,Tr.at,Xh.at,Ju.serve,Jr.zero,Fd,Rm,Qbd]
theorem Qhw(i:Int):0≤s.many i:=by
 unfold Qf.many;generalize s.tree.aI i=l;induction l with
 |nil=>simp
 |cons x l c=>rw[List.map_cons,List.sum_cons];omega
def G4(f:Nat→Int):Nat→Int
 |0=>0
 |n+1=>G4 f n+f n
theorem Qj1{f:Nat→Int}:∀{n:Nat},(∀k,k<n→f k=0)→G4 f n=0
 |0,_=>rfl
 |n+1,h=>by rw[G4,Qj1 fun k c=>h k (by omega),h n (by omega)];rfl
theorem Pl{f g:Nat→Int}:∀{n:Nat},(∀k,k<n→f k=g k)→G4 f n=G4 g n
 |0,_=>rfl
 |n+1,h=>by rw[G4,G4,Pl fun k c=>h k (by omega),h n (by omega)]
theorem Qwc{f g:Nat→Int}:∀n:Nat,G4 (fun k=>f k+g k) n=G4 f n+G4 g n
 |0=>rfl
 |n+1=>by rw[G4,G4,G4,Qwc n];omega
theorem Qwd{v:Int}{m:Nat}:∀{n:Nat},m<n→G4 (fun k=>if k=m then v else 0) n=v
 |0,h=>by omega
 |n+1,h=>by
  rw[G4];by_cases e:n=m;·rw[Qj1 fun k c=>if_neg (by omega),if_pos e];omega
  ·rw[Qwd (by omega),if_neg e];omega
theorem Qwt{f:Int→Int}{n:Nat}:∀{l:List Int},l.Pairwise (· < ·)→(∀x∈l,0≤x∧x<n)→(l.map f).sum=G4 (fun k=>if(k:Int)∈l then f k else 0) n
 |[],_,_=>by rw[Qj1 fun k _=>by simp];rfl
 |x::l,hp,hb=>by
  obtain⟨B,E⟩:=List.pairwise_cons.1 hp;have I:=hb x List.mem_cons_self;rw[List.map_cons,List.sum_cons,Qwt E fun y z=>hb y (Zr _ z)];have e:(fun k:Nat=>if(k:Int)∈x::l then f k else 0)=fun k:Nat=>(if k=x.toNat then f x else 0)+(if(k:Int)∈l then f k else 0):=funext fun k=>by
   by_cases u:k=x.toNat
   ·have c:(k:Int)=x:=by omega
    have q:x∉l:=fun h=>by have:=B x h;omega
    rw[c,if_pos List.mem_cons_self,if_pos u,if_neg q];omega
   ·have c:(k:Int)≠x:=by omega
    rw[if_neg u];by_cases d:(k:Int)∈l;·rw[if_pos d,if_pos (Zr _ d)];omega
    ·rw[if_neg d,if_neg (fun h=>(Zu.1 h).elim c d)];omega
  rw[e,Qwc,Qwd (by omega)]
theorem G8(h:Xp N s){x:Int}:x∈s.tree.aI 0↔∃l,s.leaf x=some l:=by
 rw[Y8];constructor;·rintro⟨c,d,rfl,q,_⟩;exact h.lv _ c (Da h.tree.sorted d) q
 ·rintro⟨l,q⟩;obtain⟨c,d,k⟩:=h.leaf_at q;obtain⟨z,u⟩:=Qm.aE d;exact⟨c,z,u,k,.inl rfl⟩
theorem Qv8(h:Xp N s){n:Nat}(I:∀c∈s.tree,c.sp.id<n):s.many 0=G4 (fun k=>((s.qOf k).length:Int)) n∧s.bytes 0=G4 (fun k=>Jn (s.qOf k)) n:=by
 have E:=Ut h.tree 0;have q:∀x∈s.tree.aI 0,0≤x∧x<n:=fun x J=>by obtain⟨c,z,rfl,_⟩:=Y8.1 J;have:=(Cq (h.tree.may c z)).1;have:=I c z;omega
 have u:∀k:Nat,(k:Int)∉s.tree.aI 0→s.qOf k=[]:=fun k d=>by
  cases B:s.leaf (k:Int)with
  |none=>exact Qbc B
  |some l=>exact absurd ((G8 h).2 ⟨l,B⟩) d
 unfold Qf.many Qf.bytes;rw[Qwt (f:=fun x=>((s.qOf x).length:Int)) E q,Qwt (f:=fun x=>Jn (s.qOf x)) E q];refine⟨Pl fun k _=>?_,Pl fun k _=>?_⟩
 ·by_cases d:(k:Int)∈s.tree.aI 0;·rw[if_pos d]
  ·rw[if_neg d,u k d];rfl
 ·by_cases d:(k:Int)∈s.tree.aI 0;·rw[if_pos d]
  ·rw[if_neg d,u k d];rfl
theorem Qpn(p:Jr)(now:Nat):(s.push p now).tree=s.tree:=by
 unfold Qf.push;split
 ·cases c:s.leaf p.cls with
  |none=>rfl
  |some l=>
   dsimp only;split;·rfl
   ·rw[Rm]
 ·rfl
theorem Qqk(id:Int)(c:Nat):(s.take id c).tree=s.tree:=by unfold Qf.take;grind [Rm]
end
def quS(b d c:Nat)(q:List Jr):Ya:=fun w F=>∃r,Jz w b r d c q∧F b∧F r∧Bd F w
theorem Lm(b J E:Nat)(q:List Jr):Uy (quS b J E q) where
 bd:=fun⟨r,_,_,_,h⟩=>h
 aB:=fun⟨r,h,c,d,k⟩u z=>⟨r,h.aB u (z _ c) (z _ d),c,d,k.later u⟩
 more:=fun⟨r,h,c,d,k⟩B I=>⟨r,h,B _ c,B _ d,I⟩
def Qrs(b d:Nat)(c:Value)(l:Qw):List Ya:=[Tv b #[ptr d,c] 107,quS d l.pk l.bt l.q,fun w F=>Kv w F c l.debt]
theorem U5(b k:Nat)(d:Value)(l:Qw):∀P∈Qrs b k d l,Uy P:=by
 intro P c;simp only[Qrs,Zu,List.not_mem_nil,or_false]at c;rcases c with rfl|rfl|rfl;·exact Ks _ _ _
 ·exact Lm _ _ _ _
 ·exact Kv.good _ _
def Yj(w:World)(F:Fp)(b:Nat)(l:Qw):Prop:=∃d c,Oh (Qrs b d c l) w F
theorem Yj.obj:Hf Yj where
 bd:=fun⟨qb,dv,h⟩=>(Je (U5 _ _ _ _)).bd h
 own:=fun⟨qb,dv,h⟩=>by obtain⟨G,c,d⟩:=J6 (U5 _ _ _ _) 0 rfl h;exact d _ c.2.1
 aB:=fun⟨qb,dv,h⟩q u=>⟨qb,dv,(Je (U5 _ _ _ _)).aB h q u⟩
 more:=fun⟨qb,dv,h⟩z k=>⟨qb,dv,(Je (U5 _ _ _ _)).more h z k⟩
structure Tb where
 tb:Nat
 m:Nat
 rb:Nat
 pb:Nat
 ad:Int→Nat
def Qfq(A:Tb)(s:Qf):Array Value:=#[ZI s.most,ptr A.tb,.map (some A.m),ptr A.rb,ptr A.pb]
def Lw(A:Tb)(b:Nat)(L:List Qw)(s:Qf):List Ya:=
 [Tv b (Qfq A s) 97,fun w F=>Q9 w F A.tb s.tree,fun w F=>Yn Qw.id Yj w F A.m A.ad L,fun w F=>Yq w F A.rb s.row,fun w F=>Yr w F A.pb s.pick]
theorem Ua(A:Tb)(b:Nat)(L:List Qw)(s:Qf):∀P∈Lw A b L s,Uy P:=by
 intro P c;simp only[Lw,Zu,List.not_mem_nil,or_false]at c;rcases c with rfl|rfl|rfl|rfl|rfl;·exact Ks _ _ _
 ·exact Q9.obj.good _ _
 ·exact Sm Yj.obj _ _ _
 ·exact Yq.obj.good _ _
 ·exact Yr.obj.good _ _
def Qi(A:Tb)(w:World)(F:Fp)(b:Nat)(s:Qf):Prop:=∃L:List Qw,L.Perm s.aI∧Oh (Lw A b L s) w F
theorem Qi.obj(A:Tb):Hf (Qi A) where
 bd:=fun⟨L,_,h⟩=>(Je (Ua A _ L _)).bd h
 own:=fun⟨L,_,h⟩=>by obtain⟨G,d,k⟩:=J6 (Ua A _ L _) 0 rfl h;exact k _ d.2.1
 aB:=fun⟨L,c,h⟩u z=>⟨L,c,(Je (Ua A _ L _)).aB h u z⟩
 more:=fun⟨L,c,h⟩B q=>⟨L,c,(Je (Ua A _ L _)).more h B q⟩
def Qt(w:World)(F:Fp)(b:Nat)(s:Qf):Prop:=∃A,Qi A w F b s
theorem Qt.obj:Hf Qt where
 bd:=fun⟨A,h⟩=>(Qi.obj A).bd h
 own:=fun⟨A,h⟩=>(Qi.obj A).own h
 aB:=fun⟨A,h⟩d k=>⟨A,(Qi.obj A).aB h d k⟩
 more:=fun⟨A,h⟩q c=>⟨A,(Qi.obj A).more h q c⟩
section
variable{A:Tb}{w:World}{F:Fp}{b:Nat}{s:Qf}
theorem Qi.drew(h:Qi A w F b s):Qi A w.drew F b s:=(Qi.obj A).aB h (Zg Qb w).drew (Jl.none F)
theorem Qi.blk(h:Qi A w F b s):Qh w b (Qfq A s) 97:=by obtain⟨L,d,h⟩:=h;obtain⟨G,c,_⟩:=J6 (Ua A b L s) 0 rfl h;exact c.1
theorem Qi.part(h:Qi A w F b s)(i:Nat){R:List Qw→Ya}(E:∀L,(Lw A b L s)[i]? =some (R L)):
  ∃L,L.Perm s.aI∧∃G:Fp,R L w G∧(∀k,G k→F k)∧∀w' d s' Q,d.Perm s'.aI→Lw A b d s'=(Lw A b L s).set i Q→Q w' (Qn G w w')→Qc G w w'→Qi A w' (Qn F w w') b s'∧Qc F w w':=by
 obtain⟨L,I,h⟩:=h;obtain⟨G,z,u,_,B⟩:=Xv i (Ua A b L s) (E L) h;refine⟨L,I,G,z,u,fun w' d s' Q q K J c=>⟨⟨d,q,?_⟩,c.sub u⟩⟩;rw[K];exact B w' Q c J
theorem Qi.treeOf(h:Qi A w F b s):∃G:Fp,Q9 w G A.tb s.tree∧(∀k,G k→F k)∧∀w' t,Q9 w' (Qn G w w') A.tb t→Qc G w w'→Qi A w' (Qn F w w') b {s with tree:=t}∧Qc F w w':=by obtain⟨L,z,G,d,q,u⟩:=h.part 1 (R:=fun _ w F=>Q9 w F A.tb s.tree) (fun _=>rfl);exact⟨G,d,q,fun w' t B c=>u w' L {s with tree:=t} _ z rfl B c⟩
theorem Qi.rowOf(h:Qi A w F b s):∃G:Fp,Yq w G A.rb s.row∧(∀k,G k→F k)∧∀w' t,Yq w' (Qn G w w') A.rb t→Qc G w w'→Qi A w' (Qn F w w') b {s with row:=t}∧Qc F w w':=by obtain⟨L,z,G,d,q,u⟩:=h.part 3 (R:=fun _ w F=>Yq w F A.rb s.row) (fun _=>rfl);exact⟨G,d,q,fun w' t B c=>u w' L {s with row:=t} _ z rfl B c⟩
theorem Qi.pickOf(h:Qi A w F b s):∃G:Fp,Yr w G A.pb s.pick∧(∀k,G k→F k)∧∀w' t,Yr w' (Qn G w w') A.pb t→Qc G w w'→Qi A w' (Qn F w w') b {s with pick:=t}∧Qc F w w':=by obtain⟨L,z,G,d,q,u⟩:=h.part 4 (R:=fun _ w F=>Yr w F A.pb s.pick) (fun _=>rfl);exact⟨G,d,q,fun w' t B c=>u w' L {s with pick:=t} _ z rfl B c⟩
theorem Qi.collOf(h:Qi A w F b s):∃L,L.Perm s.aI∧∃G:Fp,Yn Qw.id Yj w G A.m A.ad L∧(∀k,G k→F k)∧
  ∀w' c s',c.Perm s'.aI→s'.most=s.most→s'.tree=s.tree→s'.row=s.row→s'.pick=s.pick→Yn Qw.id Yj w' (Qn G w w') A.m A.ad c→Qc G w w'→Qi A w' (Qn F w w') b s'∧Qc F w w':=by
 obtain⟨L,V,G,I,J,K⟩:=h.part 2 (R:=fun L w F=>Yn Qw.id Yj w F A.m A.ad L) (fun _=>rfl);refine⟨L,V,G,I,J,fun w' c s' q u z B E U d=>K w' c s' (fun w F=>Yn Qw.id Yj w F A.m A.ad c) q ?_ U d⟩;unfold Lw Qfq;rw[u,z,B,E];rfl
theorem So{L:List Qw}(d:L.Perm s.aI)(c:(L.map Qw.id).Nodup)(i:Int):s.leaf i=Hn Qw.id i L:=(Mz d c i).symm
theorem Qi.leafOf(h:Qi A w F b s){i:Int}{l:Qw}(I:s.leaf i=some l):
  ∃G:Fp,Yj w G (A.ad i) l∧(∀k,G k→F k)∧∀w' d,d.id=i→Yj w' (Qn G w w') (A.ad i) d→Qc G w w'→Qi A w' (Qn F w w') b (s.aR d)∧Qc F w w':=by
 obtain⟨L,J,G,E,U,u⟩:=h.collOf;rw[So J E.nodup]at I;obtain⟨V,c⟩:=Y3 I;subst c;obtain⟨K,Z,R,k3⟩:=E.focus Yj.obj V;refine⟨K,Z,fun k z=>U k (R k z).1,fun w' d c B q=>?_⟩;have:=k3 w' d c B q;exact u w' _ (s.aR d) (J.map _) rfl rfl rfl rfl this (q.sub fun k z=>(R k z).1)
def Qad(A:Tb)(s:Qf)(i:Int):Value:=match s.leaf i with
 |none=>.pointer none
 |some _=>ptr (A.ad i)
theorem Qf7(w):(zeroValue 102).run prog w=.ok (.pointer none) w:=by go_simp
theorem Qi.look1(h:Qi A w F b s)(i:Int):(Instr.lookup 93 (.map (some A.m)) (ZI i) false).run prog w=.ok (Qad A s i) w:=by
 obtain⟨L,k,G,c,_,_⟩:=h.collOf;have d:=Du (P:=prog) c.map underlying93 underlying3 (Qf7 w) i;rw[c.look i,←So k c.nodup]at d;have q:((s.leaf i).map fun _=>ptr (A.ad i)).getD (.pointer none)=Qad A s i:=by unfold Qad;cases s.leaf i<;>rfl
 rw[q]at d;exact d
theorem G7{i:Int}{l:Qw}(c:s.leaf i=some l):Qad A s i=ptr (A.ad i):=by unfold Qad;rw[c]
theorem Qae{i:Int}(c:s.leaf i=none):Qad A s i=.pointer none:=by unfold Qad;rw[c]
theorem Qi.nodup(h:Qi A w F b s):(s.aI.map Qw.id).Nodup:=by obtain⟨L,d,G,c,_⟩:=h.collOf;exact((d.map _).nodup_iff).1 c.nodup
theorem Qi.once(h:Qi A w F b s):∃p G,Qh w A.rb #[ptr p] 185∧Jg w G p s.row:=by obtain⟨G,d,_⟩:=h.rowOf;obtain⟨p,c,q,k,_⟩:=d.ex;exact⟨p,c,q,k⟩
variable{l:Qw}{a:Nat}
theorem Yj.cells(h:Yj w F a l):∃qb dv,Qh w a #[ptr qb,dv] 107∧(∃r,Jz w qb r l.pk l.bt l.q)∧∃G,Kv w G dv l.debt:=by obtain⟨qb,dv,h⟩:=h;obtain⟨u,d,_⟩:=J6 (U5 a qb dv l) 0 rfl h;obtain⟨z,⟨r,k,_⟩,_⟩:=J6 (U5 a qb dv l) 1 rfl h;obtain⟨c,q,_⟩:=J6 (U5 a qb dv l) 2 rfl h;exact⟨qb,dv,d.1,⟨r,k⟩,c,q⟩
theorem Yj.opn(h:Yj w F a l):∃E B,Qh w a #[ptr E,B] 107∧
  (∃G:Fp,quS E l.pk l.bt l.q w G∧(∀k,G k→F k)∧¬G a∧∀w' q',quS E l.pk l.bt q' w' (Qn G w w')→Qc G w w'→Yj w' (Qn F w w') a {l with q:=q'}∧Qc F w w')∧
  (∃G:Fp,Kv w G B l.debt∧(∀k,G k→F k)∧¬G a∧∀w' d',Kv w' (Qn G w w') B d'→Qc G w w'→Yj w' (Qn F w w') a {l with debt:=d'}∧Qc F w w'):=by
 obtain⟨E,B,h⟩:=h;have hh:=h;obtain⟨u,G0,R0,U,⟨ab,I,R1,g1,⟨ac,J,R2,g2,_,_,s4,_⟩,d1,s2,s3⟩,d0,s0,s1⟩:=hh;have n1:¬I a:=fun c=>d0 a U.2.1 (s2 _ c);have n2:¬J a:=fun c=>d0 a U.2.1 (s3 _ (s4 _ c));have Z:∀k,I k→F k:=fun k c=>s1 _ (s2 _ c);have f2:∀k,J k→F k:=fun k c=>s1 _ (s3 _ (s4 _ c));have K:Jl I J:=fun k c aa=>d1 k c (s4 _ aa);have ga:F a:=s0 _ U.2.1;have R:Bd I w:=u.sub Z;have z:Bd J w:=u.sub f2;refine⟨E,B,U.1,⟨I,g1,Z,n1,fun w' q' hq d=>?_⟩,⟨J,g2,f2,n2,fun w' d' hd d=>?_⟩⟩
 ·have V:=d.sub Z;refine⟨⟨E,B,?_⟩,V⟩;have hB:Qh w' a #[ptr E,B] 107:=d.blk U.1 n1;refine Q7 (G:=fun k=>k=a) (H:=fun k=>Qn I w w' k∨J k) ⟨hB,rfl,fun k e=>e▸hB.lt⟩ ?_ ?_ (fun k e=>.inl (e▸ga)) ?_ (u.ext V);·refine Q7 (G:=Qn I w w') (H:=J) hq (Y6 ((Kv.good B l.debt).aB g2 d K.symm) (z.later d)) (Jl.extL K z) (fun k c=>.inl c) (fun k c=>.inr c) ?_;exact fun k c=>c.elim (R.ext d k) (z.later d k)
  ·rintro k rfl(c|c);·exact c.elim n1 fun c=>by have:=u _ ga;omega
   ·exact n2 c
  ·exact fun k c=>c.elim (Qn.mono Z k) fun c=>.inl (f2 k c)
 ·have V:=d.sub f2;refine⟨⟨E,B,?_⟩,V⟩;have hB:Qh w' a #[ptr E,B] 107:=d.blk U.1 n2;refine Q7 (G:=fun k=>k=a) (H:=fun k=>I k∨Qn J w w' k) ⟨hB,rfl,fun k e=>e▸hB.lt⟩ ?_ ?_ (fun k e=>.inl (e▸ga)) ?_ (u.ext V);·refine Q7 (G:=I) (H:=Qn J w w') ((Lm E l.pk l.bt l.q).aB g1 d K) (Y6 hd (z.ext d)) (Jl.extR K R) (fun k c=>.inl c) (fun k c=>.inr c) ?_;exact fun k c=>c.elim (R.later d k) (z.ext d k)
  ·rintro k rfl(c|c);·exact n1 c
   ·exact c.elim n2 fun c=>by have:=u _ ga;omega
  ·exact fun k c=>c.elim (fun c=>.inl (Z k c)) (Qn.mono f2 k)
end
section
variable{A:Tb}{w:World}{F:Fp}{b:Nat}{s:Qf}
theorem Ku(h:Qi A w F b s)(q:1≤s.most):ZW 41 #[ptr b] w (.bool false) fun w'=>w=w':=by
 obtain⟨k,_⟩:=Ym h.blk;have d:(s.most==0)=false:=by
  have:s.most≠0:=by omega
  simpa using this
 have c:decide (s.most=0)=false:=by
  have:s.most≠0:=by omega
  simpa using this
 unfold ptr;clear h;go_enter func41,ntmps41;go_wp2;go_ret;exact⟨rfl,rfl⟩
theorem Qiz(c:Int)(w)(h:c<1∨65536≤c):ZW 30 #[ZI c] w (.tuple #[.pointer none,ZI 2]) fun w'=>Qc Qb w w':=by
 have C:=O (Zg Qb w).drew;by_cases d:c<1
 ·have k:decide (c<1)=true:=by simpa using d
  go_enter func30,ntmps30;go_wp2;go_ret2;refine⟨rfl,?_⟩;(exact Z0)
 ·have q:65536≤c:=h.resolve_left d;have k:decide (c<1)=false:=by simp;omega
  have u:decide (65536≤c)=true:=by simpa using q
  go_enter func30,ntmps30;go_wp2;go_ret2;refine⟨rfl,?_⟩;(exact Z0)
theorem Qeb(c:Int)(h1:1≤c)(h2:c<65536)(w):Cl 30 #[ZI c] w fun e w'=>∃b,e=.returned (.tuple #[ptr b,ZI 0])∧Qt w' (Qn Qb w w') b (Qf.new c)∧Qc Qb w w':=by
 have HN:=O Qos;have EN:=O Qod;have PN:=O Qpk;have ae:=@run_makeMap prog;have d1:decide (c<1)=false:=by simp;omega
 have d2:decide (65536≤c)=false:=by simp;omega
 have aa:Hi (∀w1 w3 d z u q,Qc Qb w w1→Q9 w1 (Qn Qb w w1) z []→Qc Qb (w1.alloc (.map #[] 0)) w3→Yq w3 (Qn Qb (w1.alloc (.map #[] 0)) w3) u []→Qc Qb w3 d→Yr d (Qn Qb w3 d) q Qe.new→
   Qt (d.alloc (.cells #[ZI c,ptr z,.map (some w1.heap.size),ptr u,ptr q] 97)) (Qn Qb w (d.alloc (.cells #[ZI c,ptr z,.map (some w1.heap.size),ptr u,ptr q] 97))) d.heap.size (Qf.new c)∧Qc Qb w (d.alloc (.cells #[ZI c,ptr z,.map (some w1.heap.size),ptr u,ptr q] 97))):=O (by
  intro w1 w3 d z u q J Z I R B V;have c2:Qc Qb w1 (w1.alloc (.map #[] 0)):=(Zg _ _).alloc _;have ac:Xq (w1.alloc (.map #[] 0)) w1.heap.size []:=Xq.new w1;have hz:(w1.alloc (.map #[] 0)).heap.size=w1.heap.size+1:=by simp
  generalize w1.alloc (.map #[] 0)=w2 at*;have K:Qc Qb d (d.alloc (.cells #[ZI c,ptr z,.map (some w1.heap.size),ptr u,ptr q] 97)):=(Zg _ _).alloc _;have hB:Qh (d.alloc (.cells #[ZI c,ptr z,.map (some w1.heap.size),ptr u,ptr q] 97)) d.heap.size #[ZI c,ptr z,.map (some w1.heap.size),ptr u,ptr q] 97:=Qh.new _ _ _;generalize d.alloc (.cells #[ZI c,ptr z,.map (some w1.heap.size),ptr u,ptr q] 97)=E at*;have s1:=J.size;have s3:=I.size;have s4:=B.size;have s5:=hB.lt;refine⟨⟨⟨z,w1.heap.size,u,q,fun _=>0⟩,[],List.Perm.refl _,?_⟩,(((J.aA c2).aA I).aA B).aA K⟩;have t5:Q9 E (Qn Qb w w1) z []:=Q9.obj.aB Z (((c2.aA I).aA B).aA K) (Jl.none _);have m5:Xq E w1.heap.size []:=ac.aB ((I.aA B).aA K) (fun h=>h);have e5:Yq E (Qn Qb w2 w3) u []:=Yq.obj.aB R (B.aA K) (Jl.none _);have p5:Yr E (Qn Qb w3 d) q Qe.new:=Yr.obj.aB V K (Jl.none _);have ab:Bd (Qn Qb w E) E:=fun k hk=>((Qr k).1 hk).2;have bd:∀{U:Fp},(∀k,U k→w.heap.size≤k∧k<E.heap.size)→Bd U E:=fun h k hk=>(h k hk).2;refine Q7 (G:=fun k=>k=d.heap.size) (H:=fun k=>w.heap.size≤k∧k<d.heap.size) ⟨hB,rfl,fun k e=>e▸s5⟩ ?_ (fun k e h=>by omega) (fun k e=>(Qr k).2 (by omega)) (fun k h=>(Qr k).2 (by omega)) ab;refine Q7 (G:=Qn Qb w w1) (H:=fun k=>w1.heap.size≤k∧k<d.heap.size) t5 ?_ (fun k e h=>by have:=(Qr k).1 e;omega) (fun k e=>by have:=(Qr k).1 e;omega) (fun k h=>by omega) (bd fun k h=>by omega);refine Q7 (G:=fun k=>k=w1.heap.size) (H:=fun k=>w2.heap.size≤k∧k<d.heap.size) (Yn.new m5 (fun k e=>by rw[e];exact m5.lt) rfl) ?_ (fun k e h=>by omega) (fun k e=>by omega) (fun k h=>by omega) (bd fun k h=>by omega);refine Q7 (G:=Qn Qb w2 w3) (H:=Qn Qb w3 d) e5 (Y6 p5 (Yr.obj.bd p5)) (fun k e h=>by have:=(Qr k).1 e;have:=(Qr k).1 h;omega) (fun k e=>by have:=(Qr k).1 e;omega) (fun k h=>by have:=(Qr k).1 h;omega) (bd fun k h=>by omega))
 go_enter func30,ntmps30;go_wp2_with fail;refine(HN.o _).mono ?_;rintro e w1⟨z,rfl,Z,J⟩;have T1:=O (Zt J Z);clear J Z;go_wp2_with fail;refine(EN.o _).mono ?_;rintro e w3⟨u,rfl,R,I⟩;have T3:=O (Zt I R);clear I R;go_wp2_with fail;refine(PN.o _).mono ?_;rintro e d⟨q,rfl,V,B⟩;have FF:=O (aa.o w1 w3 d z u q T1.o.1 T1.o.2 T3.o.1 T3.o.2 B V);clear B V;go_wp2;go_ret2;exact⟨_,rfl,FF.o⟩
end
section
variable{h:Qm}
theorem Db(h:Qm)(i:Int):(h.aI i).length≤h.length:=by unfold Qm.aI;rw[List.length_map];exact List.length_filter_le _ _
theorem Qm7(h:Qm)(l:List Int):(l.flatMap h.aI).length≤l.length*h.length:=by
 induction l with
 |nil=>simp
 |cons x l c=> rw[List.flatMap_cons,List.length_append,Zm,Nat.add_mul];have:=Db h x;omega
theorem Ec(h:Qm){i:Int}{c:Vm}(d:h.at i=some c):h.get i=c:=by unfold Qm.get;rw[d];rfl
theorem Ot(ok:J8 h):∀(n:Nat){w}{F:Fp}{b:Nat}(hh:Q9 w F b h)(id:Int),9≤Xk h id+n→
  Cl 47 #[ptr b,ZI id] w fun e w'=>∃v,e=.returned v∧Q6 w' v (h.aI id)∧(∀k,v.ownBlock=some k→w.heap.size≤k)∧Qc Qb w w'
 |0,w,F,b,hh,id,hd=>by
  exfalso;cases z:h.at id with
  |none=>rw[Kr z]at hd;omega
  |some c=>have:=Nl ok z;omega
 |n+1,w,F,b,hh,id,hd=>by
  have IH:=O (fun(w)(F:Fp)(b:Nat)(hh:Q9 w F b h)(id:Int)(hd:9≤Xk h id+n)=>Ot ok n hh id hd);have ab:=O (fun w'(c:Qc Qb w w')=>Q9.obj.aB hh c (Jl.none F));have HG:=O (Ob hh id);have J:=ok.many;have V:Hi (∀i,(h.aM i).length≤64):=O (fun i=>by
   have:(h.aM i).length≤h.length:=by unfold Qm.aM;rw[List.length_map];exact List.length_filter_le _ _
   omega)
  have ST:Hi (∀w1,Qc Qb w w1→∃d,Qc Qb w d∧w1.heap.size<d.heap.size∧d.cell? ⟨w1.heap.size,2,none⟩=some (.bool (h.get id).sp.leaf)∧
    (storeCells ⟨w1.heap.size,0,none⟩ (Es (h.get id).sp).toList 0).run prog (w1.alloc (.cells Z5 29))=.ok () d):=O (by
   intro w1 c1;obtain⟨d,s2,al,C2⟩:=Q0 (P:=prog) (vs:=Es (h.get id).sp) (Qh.new w1 Z5 29) rfl (Hl _);have s1:=c1.size;refine⟨d,c1.aA (((Zg Qb w1).alloc _).trans C2 fun k e=>.inr (by omega)),al.lt,?_,?_⟩;·rw[al.cell];rfl
   ·exact s2)
  by_cases E:∃c,h.at id=some c∧c.sp.leaf=true
  ·obtain⟨c,z,Z⟩:=E;have a1:(h.get id).sp.leaf=true:=by rw[Ec h z];exact Z
   have K:(h.at id).isSome=true:=by rw[z];rfl
   have LV:=O (Rf ok z Z);have U:Hi (∀d,Qc Qb w d→Q6 (d.alloc (.cells #[ZI id] 3)) (.slice (some ⟨d.heap.size,0,none⟩) 1 1) (h.aI id)∧(∀k,(Value.slice (some ⟨d.heap.size,0,none⟩) 1 1).ownBlock=some k→w.heap.size≤k)∧Qc Qb w (d.alloc (.cells #[ZI id] 3))):=O (by
    intro d c2;rw[LV.o];refine⟨Q6.mk (l:=[id]) (Qh.new d #[ZI id] 3) rfl (Zv _) (by decide) (fun k y hk=>?_),fun k hk=>?_,c2.alloc _⟩
    ·cases k with
     |zero=>obtain rfl:=Zs hk;rfl
     |succ k=>cases hk
    ·have e:d.heap.size=k:=Zs hk;have:=c2.size;omega)
   rw[K]at HG;clear z Z hd K hh;go_enter func47,ntmps47;go_wp2_with fail;refine Zy HG ?_;intro w1 c1;obtain⟨d,C2,Xg,B,bb⟩:=ST.o w1 c1;rw[a1]at B;have FF:=O (U.o d C2);clear c1 C2 Xg;go_wp2_with fail;go_ret;exact⟨_,rfl,FF.o⟩
  ·have hl:∀c,h.at id=some c→c.sp.leaf=false:=fun c z=>by
    cases e:c.sp.leaf with
    |false=>rfl
    |true=>exact absurd ⟨c,z,e⟩ E
   have LS:=O (Qhp ok hl);have u:((h.at id).isSome&&(h.get id).sp.leaf)=false:=by
    cases z:h.at id with
    |none=>rfl
    |some c=>rw[Ec h z,hl c z];rfl
   have CH:Hi (∀x∈h.aM id,9≤Xk h x+n):=O (fun x hx=>by
    obtain⟨c,z,rfl,hp⟩:=Dv.1 hx;rcases Oq ok (Da ok.sorted z)with⟨e1,e2⟩|⟨q,hq,_,e2⟩;·have:Xk h id=0:=Kr (ok.zero (by omega));omega
    ·rw[hp]at e2;omega)
   have HU:=O (fun w'(c:Qc Qb w w')=>P8 (ab.o w' c) id (by have:=V.o id;omega));have I:=O J;generalize a8:(h.at id).isSome=ai at HG u;clear hd E hl hh J a8;go_enter func47,ntmps47;go_wp2_with fail;refine Zy HG ?_;intro w1 c1;obtain⟨d,C2,Xg,B,bb⟩:=ST.o w1 c1;have aj:=O C2;generalize a7:(h.get id).sp.leaf=lf at B u;clear c1 C2 Xg;have a9:ai=false∨(ai=true∧lf=false):=by
    cases ai with
    |false=>exact .inl rfl
    |true=>exact .inr ⟨rfl,by simpa using u⟩
   clear u a7;rcases a9 with rfl|⟨rfl,rfl⟩;all_goals
    go_wp2_with fail;refine(HU.o d aj.o).mono ?_;rintro e w3⟨uv,rfl,hI,ap,c3⟩;obtain⟨a,cap,rfl,an,_,_⟩:=hI.row intT.hc;have HI:=O hI;have C3:=O (aj.o.aA c3);obtain⟨n0,ah⟩:=Zx ((h.aM id).length);have ag:=O ah;rw[←ah]at an⊢;clear hI ap c3 ah;go_wp2_with fail;go_loopw [7,9,27] (fun tv _ ti wr=>∃(k:Nat),ti=ZI k∧k≤n0∧Q6 wr tv (((h.aM id).take k).flatMap h.aI)∧(∀j,tv.ownBlock=some j→w3.heap.size≤j)∧Qc Qb w3 wr) (fun _ _ ti _=>n0-(intOf ti).toNat);case atStart=>exact⟨0,rfl,Nat.zero_le _,Q6.nil _,nofun,Zg _ _⟩
    case round=>
     obtain⟨k,rfl,hk,hA,hO,z⟩:=hrel;have HA:=O hA;have HO:=O hO;have HC:=O z;clear hA hO z;by_cases bh:k<n0
     ·have hd:decide ((k:Int)<(n0:Int))=true:=by simp;omega
      have aa:k<(h.aM id).length:=by have:=ag.o;omega
      have ao:h.aM id≠[]:=fun e=>by rw[e]at aa;simp at aa
      obtain⟨g,be,bf,ba,hB,bc,ac,_,_⟩:=HI.o.opn ao;injection ba with h1 h2 h3;subst h1;obtain⟨x,hx⟩:∃x,(h.aM id)[k]? =some x:=⟨_,List.getElem?_eq_getElem aa⟩;have Z:wr.cell? ⟨g,k,none⟩=some (ZI x):=by rw[(HC.o.blk hB (fun h=>h)).cell];exact ac k x hx
      have aw:x∈h.aM id:=List.mem_of_getElem? hx;have HL:=O (IH.o wr F b (ab.o wr (C3.o.aA HC.o)) x (CH.o x aw));have bg:IntKind.i64.wrap ((k:Int)+1)=(k:Int)+1:=by have h4:=V.o id;have h5:=ag.o;rw[IntWalk.i64_in _ (by omega)]
      have TK:=O (show(h.aM id).take (k+1)=(h.aM id).take k++[x] by rw[List.take_add_one,hx];rfl);have LN:Hi ((((h.aM id).take k).flatMap h.aI).length+(h.aI x).length≤4096+64):=O (by
       have h1:=Qm7 h ((h.aM id).take k);have h2:=Db h x;have h3:=I.o;have h4:=V.o id;have h5:((h.aM id).take k).length≤64:=by rw[List.length_take];omega
       have h6:((h.aM id).take k).length*h.length≤64*64:=Nat.mul_le_mul h5 h3;omega)
      clear aa ao hB bc ac hx aw h2 h3;go_wp2_with fail;refine Zo HL ?_;rintro e w4⟨vx,rfl,av,bd,c4⟩;obtain⟨ax,cx,rfl,_,ak,aq⟩:=av.row intT.hc;have az:=O aq;have C4:=O c4;have ay:=O ak;clear av bd c4 aq ak;go_wp2_with (at_builtin;refine Jj intT rfl (.tmp 31) (.tmp 34) rfl _ (((h.aM id).take k).flatMap h.aI) rfl (Q6.aB HA.o C4.o (fun _ _ h=>h)) _ _ (h.aI x) rfl ?a2 ?a3 ?a4 ?a5 ?a6);case a2=>exact ay.o
      case a3=>exact az.o
      case a4=>have:=LN.o;simp only[maxLen];omega
      case a5=>have:=LN.o;omega
      case a6=>
       intro v' w5 af am au;have C5:Hi (Qc Qb w3 w5):=O ((HC.o.aA C4.o).trans am (fun j R=>.inr (HO.o j R)));have O5:Hi (∀j,v'.ownBlock=some j→w3.heap.size≤j):=O (fun j R=>by
        rcases au with e|e;·rw[e]at R;exact HO.o j R
        ·rw[e]at R;have e2:w4.heap.size=j:=Zs R;have:=HC.o.size;have:=C4.o.size;omega)
       have a0:=O af;clear af am au;go_wp2;go_roundw;case measure=>simp only[intOf];omega
       case rel=> refine⟨k+1,by rw[←Int.natCast_one,←Int.natCast_add],by omega,?_,O5.o,C5.o⟩;have:=a0.o;rw[TK.o,List.flatMap_append];simpa using this
     ·have hd:decide ((k:Int)<(n0:Int))=false:=by simp;omega
      have ae:k=(h.aM id).length:=by have:=ag.o;omega
      have HS:=O (N7 HA.o (by
       have h1:=Qm7 h ((h.aM id).take k);have h3:=I.o;have h4:=V.o id;have h5:((h.aM id).take k).length≤64:=by rw[List.length_take];omega
       have h6:((h.aM id).take k).length*h.length≤64*64:=Nat.mul_le_mul h5 h3;omega))
      have TK:=O (show(h.aM id).take k=h.aM id by rw[ae,List.take_length]);clear ae;go_wp2_with fail;refine Zy HS ?_;rintro w4⟨ar,c4⟩;have U:=O (Zt ar c4);clear ar c4;go_wp2;go_ret;refine⟨_,rfl,?_,?_,?_⟩;·have:=U.o.1;rw[TK.o,LS.o]at this;exact this
      ·intro j R;have:=HO.o j R;have:=C3.o.size;omega
      ·exact C3.o.aA (HC.o.trans U.o.2 fun j R=>.inr (HO.o j R))
end
theorem Qjd{f:Int→Int}{l:List Int}{k:Nat}{x:Int}(c:l[k]? =some x):((l.take (k+1)).map f).sum=((l.take k).map f).sum+f x:=by rw[List.take_add_one,c];simp
theorem Qmn{f:Int→Int}{B:Int}:∀{l:List Int},(∀x∈l,0≤f x∧f x≤B)→0≤(l.map f).sum∧(l.map f).sum≤l.length*B
 |[],_=>by simp
 |x::l,h=>by
  have d:=h x (by simp);have k:=Qmn (l:=l) (fun y c=>h y (by simp[c]));rw[List.map_cons,List.sum_cons,Zm];have:((l.length+1:Nat):Int)*B=(l.length:Int)*B+B:=by rw[Int.natCast_add,Int.add_mul];simp
  omega
section
variable{A:Tb}{w:World}{F:Fp}{b:Nat}{s:Qf}{N:Nat}
theorem Qi.leafQ(h:Qi A w F b s){i:Int}{l:Qw}(d:s.leaf i=some l):∃qb dv,Qh w (A.ad i) #[ptr qb,dv] 107∧(∃r,Jz w qb r l.pk l.bt l.q)∧∃G,Kv w G dv l.debt:=by obtain⟨G,c,_⟩:=h.leafOf d;exact c.cells
theorem Qi.bounds(h:Qi A w F b s)(i:Int):(0≤((s.qOf i).length:Int)∧((s.qOf i).length:Int)≤4096)∧0≤Jn (s.qOf i)∧Jn (s.qOf i)≤16777216:=by
 cases d:s.leaf i with
 |none=>rw[Qbc d];exact⟨⟨by simp,by simp⟩,by simp[Jn],by simp[Jn]⟩
 |some l=> rw[Ov d];obtain⟨I,q,_,⟨r,c⟩,_⟩:=h.leafQ d;have u:=c.many;have z:=c.pk2;have B:=c.held;have E:=c.bt2;have k:=Hd _ c.good;exact⟨⟨by omega,by omega⟩,k,by omega⟩
theorem Dn(h:Qi A w F b s)(J:Xp N s)(id:Int):ZW 20 #[ptr b,ZI id] w (.tuple #[ZI (s.many id),ZI (s.bytes id)]) fun w'=>Qc Qb w w':=by
 have K:=O (fun w'(c:Qc Qb w w')=>(Qi.obj A).aB h c (Jl.none F));have HN:=O (Ku h J.most.1);obtain⟨a0,a1,a2,a3,a4⟩:=Ym h.blk;obtain⟨Gt,ht,_⟩:=h.treeOf;have ag:=O (Ot J.tree 9 ht id (by omega));have BD:=O h.bounds;have R:Hi ((s.tree.aI id).length≤64):=O (Zp (Db _ _) J.tree.many);have LF:Hi (∀x∈s.tree.aI id,∃l,s.leaf x=some l):=O (fun x I=>by
  obtain⟨c,hc,rfl,ab,_⟩:=Y8.1 I;exact J.lv _ c (Da J.tree.sorted hc) ab)
 unfold Qf.many Qf.bytes;clear h J ht;go_enter func20,ntmps20;go_wp2_with fail;refine Zy HN ?_;rintro w1 rfl;go_wp2_with fail;refine Zo ag ?_;rintro e w2⟨uv,rfl,hI,_,c2⟩;obtain⟨a,cap,rfl,aa,_,_⟩:=hI.row intT.hc;have HI:=O hI;have C2:=O c2;obtain⟨n0,E⟩:=Zx ((s.tree.aI id).length);have z:=O E;rw[←E]at aa⊢;clear hI c2 E a0 a1 a2 a3 a4;go_wp2_with fail;go_loopw [4,5,7,17] (fun t4 t5 _ ti wr=>∃(k:Nat),ti=ZI k∧k≤n0∧t4=ZI ((((s.tree.aI id).take k).map fun x=>((s.qOf x).length:Int)).sum)∧t5=ZI ((((s.tree.aI id).take k).map fun x=>Jn (s.qOf x)).sum)∧Qc Qb w2 wr) (fun _ _ _ ti _=>n0-(intOf ti).toNat);case atStart=>exact⟨0,rfl,Nat.zero_le _,rfl,rfl,Zg _ _⟩
 case round=>
  obtain⟨k,rfl,hk,rfl,rfl,hc⟩:=hrel;have HC:=O hc;clear hc;by_cases ap:k<n0
  ·have hd:decide ((k:Int)<(n0:Int))=true:=by simp;omega
   have d:k<(s.tree.aI id).length:=by have:=z.o;omega
   have ac:s.tree.aI id≠[]:=fun e=>by rw[e]at d;simp at d
   obtain⟨g,am,an,ak,hB,al,q,_,_⟩:=HI.o.opn ac;injection ak with h1 h2 h3;subst h1;obtain⟨x,I⟩:∃x,(s.tree.aI id)[k]? =some x:=⟨_,List.getElem?_eq_getElem d⟩;have ab:wr.cell? ⟨g,k,none⟩=some (ZI x):=by rw[(HC.o.blk hB (fun h=>h)).cell];exact q k x I
   have ae:x∈s.tree.aI id:=List.mem_of_getElem? I;obtain⟨l,hl⟩:=LF.o x ae;have hS:=K.o wr (C2.o.aA HC.o);obtain⟨b0,b1,b2,b3,b4⟩:=Ym hS.blk;have aj:=hS.look1 x;rw[G7 hl]at aj;obtain⟨qb,dv,Z,⟨r,hq⟩,_⟩:=hS.leafQ hl;obtain⟨l0,l1⟩:=Q4 Z;have QL:=O (Qin hq);have QB:=O (Qls hq);have ao:IntKind.i64.wrap ((k:Int)+1)=(k:Int)+1:=by have h4:=R.o;have h5:=z.o;rw[IntWalk.i64_in _ (by omega)]
   have T1:=O (Qjd (f:=fun x=>((s.qOf x).length:Int)) I);have T2:=O (Qjd (f:=fun x=>Jn (s.qOf x)) I);have QO:=O (Ov hl);have U:=Qmn (f:=fun x=>((s.qOf x).length:Int)) (B:=4096) (l:=(s.tree.aI id).take k) (fun x _=>(BD.o x).1);have V:=Qmn (f:=fun x=>Jn (s.qOf x)) (B:=16777216) (l:=(s.tree.aI id).take k) (fun x _=>(BD.o x).2);have tl:((s.tree.aI id).take k).length≤64:=by have:=R.o;rw[List.length_take];omega
   have bx:=BD.o x;rw[QO.o]at bx;generalize ah:(((s.tree.aI id).take k).map fun x=>((s.qOf x).length:Int)).sum=P1 at*;generalize ai:(((s.tree.aI id).take k).map fun x=>Jn (s.qOf x)).sum=P2 at*;have ew1:IntKind.i64.wrap (P1+(l.q.length:Int))=P1+(l.q.length:Int):=by rw[IntWalk.i64_in _ (by omega)]
   have ew2:IntKind.i64.wrap (P2+Jn l.q)=P2+Jn l.q:=by rw[IntWalk.i64_in _ (by omega)]
   clear d ac hB al q I ae h2 h3 hl hS Z hq U V tl bx ah ai;go_wp2_with fail;refine Zy QL ?_;rintro w4 rfl;go_wp2_with fail;refine Zy QB ?_;rintro w4 rfl;go_wp2_with fail;go_roundw;case measure=>simp only[intOf];omega
   case rel=>
    refine⟨k+1,by rw[←Int.natCast_one,←Int.natCast_add],by omega,?_,?_,HC.o⟩;·have:=T1.o;rw[QO.o]at this;rw[this]
    ·have:=T2.o;rw[QO.o]at this;rw[this]
  ·have hd:decide ((k:Int)<(n0:Int))=false:=by simp;omega
   have u:k=(s.tree.aI id).length:=by have:=z.o;omega
   have TK:=O (show(s.tree.aI id).take k=s.tree.aI id by rw[u,List.take_length]);have af:=O (C2.o.aA HC.o);rw[TK.o];clear u;go_wp2;go_ret2;exact⟨rfl,af.o⟩
end
section
attribute [local go_sem ↓] X8 Yd
section
variable{A:Tb}{w:World}{F:Fp}{b:Nat}{s:Qf}{N:Nat}
theorem Qbl(h:Qi A w F b s)(u:Xp N s)(id:Int):ZW 118 #[ptr b,ZI id] w (.bool (decide (0<s.many id))) fun w'=>Qc Qb w w':=by have d:=O (Dn h u id);generalize s.many id=m at d⊢;generalize s.bytes id=q at d;clear h u;go_enter func118,ntmps118;go_wp2_with fail;refine Zy d ?_;intro w1 k;have c:=O k;clear k;go_wp2;go_ret;exact⟨rfl,c.o⟩
theorem Qbo(h:Qi A w F b s)(k:Xp N s):ZW 17 #[ptr b] w (ZU ((s.tick:Nat):Int)) fun w'=>Qc Qb w w':=by
 have Z:=O (Ku h k.most.1);have q:=O h.blk;obtain⟨Gr,K,_⟩:=h.rowOf;obtain⟨Gp,⟨U,J⟩,_⟩:=h.pickOf;have z:=O (Qkc (Yq.obj.aB K (Zg Qb w).drew (Jl.none _)));have u:=O (fun w'(c:Qc Qb w w')=>Qln ((Qo.obj U).aB J c (Jl.none _)) k.pick);unfold Qf.tick;generalize Hk s.row=x at z⊢;generalize s.pick.tick=y at u⊢;obtain⟨a0,a1,a2,a3,a4⟩:=Ym q.o.drew;clear h k K J;go_enter func17,ntmps17;go_wp2_with fail;refine Zy Z ?_;rintro w1 rfl;go_wp2_with fail;refine ZC [0,1,2,3,105,106,107,108,204,309,10,311] (fun R=>Qc (Qb) (w) R) ?_;simp only[Z8,Zf,Ze,Zd];iterate 4 (refine Xe (h:=?_))
 iterate 3 (refine Qy (h:=?_);try simp only[Act.put,Za,Zc,Zb])
 iterate 1 (refine Qy (by kernel_rfl) (fun R hv=>by(obtain⟨z0,z1,z2,z3,z4⟩:=Ym (hv.blk q.o (fun h=>h)));go_simp;try rfl) ?_;try simp only[Act.put,Za,Zc,Zb])
 clear a0 a1 a2 a3 a4;refine Yb ?_;go_wp2_with fail;refine Zy z ?_;intro w2 B;have d:=O B.aT;clear B;go_wp2_with fail;refine⟨d.o,?_⟩;refine Km ?_;go_wp2_with fail;refine Zz (u.o _ d.o) ?_;intro w3 I;have V:=O (d.o.aA I);have E:=O (show((min x y:Nat):Int)=min (x:Int) (y:Int) by omega);clear I;go_wp2_with fail;refine Xe (h:=?_);refine Km ?_;go_wp2_with fail;refine Ky ?_;go_wp2;go_ret;exact⟨by rw[E.o];rfl,V.o⟩
end
end
section
variable{s:Qf}{N:Nat}
end
section
variable{p:Qe}{N:Nat}{dep:Int→Nat}
theorem Ad{v:Nat}{l:List Xu}{e:Xu}(c:Xf v l=some e):e∈l∧e.2.2≤v:=by unfold Xf at c;exact⟨List.mem_of_find?_eq_some c,by simpa using List.find?_some c⟩
theorem Qug{v:Nat}{l:List Xu}(c:Xf v l=none):∀e∈l,¬e.2.2≤v:=by unfold Xf at c;simpa using List.find?_eq_none.1 c
theorem Ib{l:List Xu}{v:Nat}{x:Nat×Int}(h:low l=some x)(k:x.1≤v):∃e,Xf v l=some e:=by
 obtain⟨a,d⟩:=Sq h;cases c:Xf v l with
 |some e=>exact⟨e,rfl⟩
 |none=>exact absurd k (Qug c _ d)
theorem Qay(U:Qs dep N p)(R:Uz p){now:Nat}(hn:now<Qq):∀(n:Nat)(i:Int),0<i→(∃c,p.at i=some c∧c.fit≤now)→8-dep i<n→∃j,p.next now n i=some j
 |0,_,_,_,h=>by omega
 |n+1,i,hi,⟨c,hc,hf⟩,hd=>by
  rw[Qe.next,hc];dsimp only;by_cases I:c.leaf=true;·exact⟨i,by rw[if_pos I]⟩
  ·rw[if_neg I];unfold Qx.fit at hf;dsimp only at hf;rw[if_neg I]at hf;cases d:low c.tree with
   |none=>rw[d]at hf;dsimp only at hf;omega
   |some x=> rw[d]at hf;dsimp only at hf;obtain⟨e,K⟩:=Ib d (show x.1≤now by omega);rw[K];dsimp only;obtain⟨a,k,b⟩:=e;obtain⟨Z,V⟩:=Ad K;obtain⟨E,hk,_,J,q,z,u⟩:=(R.ent k i c hc a b).1 Z;have B:=(U.up.2 J (Qe.aE q).1 (by rw[(Qe.aE q).2];omega)).2.2;rw[(Qe.aE q).2,z]at B;exact Qay U R hn n k E ⟨J,q,by rw[←u];exact V⟩ (by omega)
theorem Qdx(R:Qs dep N p)(Z:Uz p){now:Nat}(hn:now<Qq):(∃j,p.next now 10 0=some j)↔p.tick≤now:=by
 obtain⟨r,V,K⟩:=R.root;unfold Qe.tick;rw[Qe.next,V];dsimp only;rw[if_neg (by rw[K];exact Bool.false_ne_true)];cases c:low r.tree with
 |none=>
  rw[Ei c];refine⟨fun⟨j,h⟩=>?_,fun h=>?_⟩;·cases h
  ·dsimp only at h;omega
 |some x=>
  dsimp only;constructor
  ·rintro⟨j,h⟩;cases q:Xf now r.tree with
   |none=>rw[q]at h;cases h
   |some e=> obtain⟨J,B⟩:=Ad q;exact Zp (Cn c e J) B
  ·intro hx;obtain⟨e,q⟩:=Ib c hx;rw[q];dsimp only;obtain⟨a,k,b⟩:=e;obtain⟨J,B⟩:=Ad q;obtain⟨I,hk,_,U,d,z,u⟩:=(Z.ent k 0 r V a b).1 J;have E:=(R.up.2 U (Qe.aE d).1 (by rw[(Qe.aE d).2];omega)).2.2;rw[(Qe.aE d).2,z]at E;exact Qay R Z hn 9 k I ⟨U,d,by rw[←u];exact B⟩ (by omega)
end
section
variable{s:Qf}{N:Nat}
end
section
variable{s:Qf}{N:Nat}
theorem Qsl(h:Xp N s)(z:Xd s.row){t:Nat}(E:t<Qq):(∃x,Jt t s.row=some x)↔Hk s.row≤t:=by
 unfold Jt Hk;cases q:s.row with
 |nil=>exact⟨fun⟨x,u⟩=>(by cases u),fun h=>(by dsimp only at h;omega)⟩
 |cons e l=>
  dsimp only;constructor
  ·rintro⟨x,u⟩;obtain⟨a,d⟩:=Sq u;obtain⟨d,c⟩:=List.mem_filter.1 d;have c:a≤t:=by simpa using c
   rcases Zu.1 d with B|d;·rw[←B];exact c
   ·rw[q]at z;have k:=(List.pairwise_cons.1 z).1 _ d;unfold Mv at k;dsimp only at k;omega
  ·intro c;have d:e∈(e::l).filter fun e=>decide (e.1≤t):=List.mem_filter.2 ⟨List.mem_cons_self,by simpa using c⟩;cases u:low ((e::l).filter fun e=>decide (e.1≤t))with
   |none=>rw[Ei u]at d;cases d
   |some x=>exact⟨x,rfl⟩
theorem Qs6(h:Xp N s)(E:Xd s.row){t:Nat}(z:t<Qq):(∃x,s.who t=some x)↔s.tick≤t:=by
 have d:=Qsl h E z;have q:=Qdx h.pick h.pinv z;unfold Qf.who Qf.tick;cases ha:Jt t s.row with
 |some x=> have:=d.1 ⟨x,ha⟩;exact⟨fun _=>by omega,fun _=>⟨_,rfl⟩⟩
 |none=>
  have B:¬Hk s.row≤t:=fun k=>by obtain⟨x,c⟩:=d.2 k;rw[ha]at c;cases c
  dsimp only;cases u:s.pick.next t 10 0 with
  |none=>
   have:¬s.pick.tick≤t:=fun k=>by obtain⟨x,c⟩:=q.2 k;rw[u]at c;cases c
   exact⟨fun⟨x,c⟩=>(by cases c),fun k=>by omega⟩
  |some j=> have:=q.1 ⟨j,u⟩;exact⟨fun _=>by omega,fun _=>⟨_,rfl⟩⟩
end
structure V2 where
 rate:Nat
 taken:Nat
 idles:Bool
def V2.new(c:Nat):V2:=⟨c,0,true⟩
def V2.aU(l:V2):Nat:=(l.taken+l.rate-1)/l.rate
def V2.free(l:V2)(now:Nat):Bool:=decide (l.aU≤now)
def V2.idle(l:V2)(now:Nat):V2:=if l.free now then{l with idles:=true}else l
def V2.sendE(l:V2)(now:Nat)(c:Int):Int:=if 1099511627776<now then 2 else if c<1∨65536≤c then 100 else if l.free now then 0 else 230
def V2.from_(l:V2)(now:Nat):Nat:=if !l.idles&&decide (now=l.aU)then l.taken else now*l.rate
def V2.send(l:V2)(now:Nat)(c:Int):V2:=if l.sendE now c=0 then⟨l.rate,l.from_ now+c.toNat*256,false⟩else l
def V2.til(l:V2)(now:Nat)(c:Int):Nat:=if l.sendE now c=0 then(l.send now c).aU else 0
abbrev Fr:=List Nat
def Qwi:Fr:=[0,0,0,0,0,0,0,0]
structure P5 where
 k:Nat
 n:Nat
 less:Bool
def Qx9(c:Bool)(n x:Nat):Nat:=if c then n-min n x else n+min x (Xw-n)
def Qwa(s:Fr)(x:P5):Fr:=s.set x.k (Qx9 x.less (s.getD x.k 0) x.n)
abbrev V1:=List (Int×Fr)
def V1.new:V1:=[(0,Qwi)]
def V1.at(b:V1)(id:Int):Option Fr:=(b.find? fun x=>decide (x.1=id)).map (·.2)
def V1.get(b:V1)(id:Int):Fr:=(b.at id).getD Qwi
def V1.set(id:Int)(s:Fr):V1→V1
 |[]=>[(id,s)]
 |x::b=>if id=x.1 then(id,s)::b else x::V1.set id s b
def Qx0(n:Int):Nat:=(max n 0).toNat
def V1.upd(b:V1)(id:Int)(l:List P5):V1:=V1.set id (l.foldl Qwa (b.get id)) b
def V1.tell(b:V1)(c:Int)(l:List P5):V1:=if c≤0 then b.upd 0 l else(b.upd 0 l).upd c l
def Qx4(p:Jr):List P5:=[⟨0,1,false⟩,⟨6,1,false⟩,⟨7,Qx0 p.len,false⟩]
def Qwx:List P5:=[⟨1,1,false⟩]
def Qwn(p:Jr)(c:Nat):List P5:=[⟨if c=1 then 4 else 5,Qx0 p.len,false⟩,⟨6,1,true⟩,⟨7,Qx0 p.len,true⟩]
def Qxv(p:Jr):List P5:=[⟨2,1,false⟩,⟨3,Qx0 p.len,false⟩]
def Qx5(s:Fr):List P5:=[⟨6,s.getD 6 0,true⟩,⟨7,s.getD 7 0,true⟩]
def V1.drop(b:V1)(c:Int):V1:=if c<1 then b else(b.tell 0 (Qx5 (b.get c))).filter fun y=>!decide (y.1=c)
structure BOk(b:V1):Prop where
 nd:(b.map (·.1)).Nodup
 eight:∀x∈b,x.2.length=8∧∀n∈x.2,n≤Xw
structure D7 where
 p:Jr
 rule:Nat
 frm:Nat
 til:Nat
 due:Nat
structure Vi where
 rate:Nat
 most:Int
 hor:Nat
 now:Nat
 sched:Qf
 link:V2
 book:V1
 aM:Option D7
 sent:List D7
def Vi.new(d:Nat)(c:Int)(k:Nat):Vi:=⟨d,c,k,0,.new c,.new d,.new,none,[]⟩
def Qxy(d:Nat)(c:Int)(k:Nat):Int:=if d<1∨1048576<d then 240 else if c<1∨65536≤c∨k<1∨1099511627776<k then 2 else 0
def Vi.stopped(e:Vi):Bool:=decide (e.hor≤e.now)
def Vi.aO(e:Vi)(s:Yk):Int:=if e.stopped then 261 else e.sched.aO s
def Vi.add(e:Vi)(s:Yk):Vi:=if e.stopped then e else{e with sched:=e.sched.add s}
def Vi.aG(e:Vi)(s:Yk):Int:=if e.stopped then 261 else e.sched.aG s
def Vi.change(e:Vi)(s:Yk):Vi:=if e.stopped then e else{e with sched:=e.sched.change s}
def Vi.aP(e:Vi)(id:Int):Int:=if e.stopped then 261 else e.sched.aP id
def Vi.drop(e:Vi)(id:Int):Vi:=if e.stopped then e else if e.sched.aP id=0 then{e with sched:=e.sched.drop id,book:=e.book.drop id}else e
structure EvM where
 kind:Nat
 x:D7
def Vi.through(e:Vi)(x:D7):Vi:={e with aM:=none,now:=x.til,sent:=e.sent++[x],book:=e.book.tell x.p.cls (Qxv x.p)}
def Vi.chosen(e:Vi)(c:ChM):D7:=⟨c.p,c.rule,e.now,e.link.til e.now c.p.len,c.due⟩
def Vi.choose(e:Vi):Option EvM×Vi:=match e.sched.next e.now with
 |(none,s)=>(none,{e with sched:=s})
 |(some c,s)=>(some ⟨1,e.chosen c⟩,{e with sched:=s,link:=e.link.send e.now c.p.len,aM:=some (e.chosen c),book:=e.book.tell c.p.cls (Qwn c.p c.rule)})
def Vi.clip(e:Vi)(til:Nat):Nat:=min (max til e.now) e.hor
def Vi.idle(e:Vi)(til:Nat):Vi:={e with link:=if e.now<e.sched.tick then e.link.idle e.now else e.link,now:=min (max e.now e.sched.tick) til}
def Vi.step(e:Vi)(til:Nat):Option EvM×Vi:=if e.stopped then(none,e)else
 match e.aM with
 |some x=>if x.til≤e.clip til then(some ⟨2,x⟩,e.through x)else(none,{e with now:=e.clip til})
 |none=>if e.clip til<max e.now e.sched.tick then(none,e.idle (e.clip til))else(e.idle (e.clip til)).choose
def Vi.all(c:Nat):Nat→Vi→Vi
 |0,e=>e
 |n+1,e=>match(e.step c).1 with
  |none=>(e.step c).2
  |some _=>Vi.all c n (e.step c).2
def Vi.left(e:Vi):Nat:=2*(e.sched.many 0).toNat+(if e.aM.isSome then 1 else 0)
def Vi.run(e:Vi)(til:Nat):Vi:=Vi.all til (e.left+1) e
def Vi.advE(e:Vi)(til:Nat):Int:=if e.stopped then 261 else if til<e.now then 260 else 0
def Vi.adv(e:Vi)(til:Nat):Vi:=if e.advE til=0 then e.run til else e
def Vi.arrP(e:Vi)(p:Jr):Jr:={p with at_:=((e.run e.now).now:Int)}
def Vi.arrE(e:Vi)(p:Jr):Int:=if e.stopped then 261 else(e.run e.now).sched.aQ (e.arrP p)
def Vi.arr(e:Vi)(p:Jr):Vi:=if e.stopped then e else
 let c:=e.run e.now;let q:=e.arrP p
 if c.sched.aQ q=0 then
  let d:={c with sched:=c.sched.push q c.now,book:=c.book.tell q.cls (Qx4 q)}
  d.run d.now
 else{c with book:=c.book.tell q.cls Qwx}
abbrev ZM(x:D7):Array Value:=#[ZU x.p.id,ZI x.p.cls,ZI x.p.len,ZU x.p.at_,.int .u8 x.rule,ZU x.frm,ZU x.til,ZU x.due]
section
variable{N M:Nat}{s s':Qf}
theorem A9:∀l:List Vm,∃n:Nat,∀c∈l,c.sp.id<(n:Int)
 |[]=>⟨0,nofun⟩
 |c::l=>by
  obtain⟨n,h⟩:=A9 l;refine⟨n+c.sp.id.toNat+1,fun x d=>?_⟩;rcases Zu.1 d with rfl|d;·omega
  ·have:=h x d;omega
theorem Qe6(h:Xp N s)(h':Xp M s')(z:∀i,s'.qOf i=s.qOf i):s'.many 0=s.many 0:=by obtain⟨n,u⟩:=A9 s.tree;obtain⟨m,q⟩:=A9 s'.tree;rw[(Qv8 h (n:=n+m) fun c d=>by have:=u c d;omega).1,(Qv8 h' (n:=n+m) fun c d=>by have:=q c d;omega).1];exact Pl fun k _=>by rw[z]
theorem Qwl(h:Xp N s)(h':Xp M s'){i:Int}{v:Int}(J:0≤i)(q:∃c∈s.tree,c.sp.id=i)(I:s'.tree=s.tree)(E:∀j,((s'.qOf j).length:Int)=(s.qOf j).length+if j=i then v else 0):s'.many 0=s.many 0+v:=by
 obtain⟨n,d⟩:=A9 s.tree;obtain⟨c,u,z⟩:=q;have B:=d c u;rw[(Qv8 h d).1,(Qv8 h' (by rw[I];exact d)).1,←Qwd (v:=v) (m:=i.toNat) (n:=n) (by omega),←Qwc];refine Pl fun k _=>?_;rw[E];by_cases e:(k:Int)=i;·rw[if_pos e,if_pos (by omega)]
 ·rw[if_neg e,if_neg (by omega)]
theorem Qw6(h:Xp N s){p:Jr}(now:Nat)(d:s.aQ p=0):(s.push p now).many 0=s.many 0+1:=by
 obtain⟨c,l,k,_⟩:=Mk d;obtain⟨z,_,_,_,q,u⟩:=h.tree.pos k;refine Qwl h (h.push now d) (i:=p.cls) (by omega) ⟨c,u,q⟩ (Qpn p now) fun j=>?_;rw[Qsg h now d];by_cases e:j=p.cls;·rw[if_pos e,if_pos e,e];simp
 ·rw[if_neg e,if_neg e];simp
theorem Qw7{now:Nat}(c:s.who now=none):s.next now=(none,s):=by unfold Qf.next;rw[c]
theorem Qxr(h:Xp N s)(t:Nat):(s.next t=(none,s)∧s.who t=none)∨
  ∃c s',s.next t=(some c,s')∧Xp (N+16) s'∧s'.many 0+1=s.many 0∧Ll c.p∧(c.rule=1∨c.rule=2)∧s.qOf c.p.cls=c.p::s'.qOf c.p.cls∧(∀i,i≠c.p.cls→s'.qOf i=s.qOf i)∧s'.tree=s.tree:=by
 cases U:s.who t with
 |none=>exact .inl ⟨Qw7 U,rfl⟩
 |some x=>
  obtain⟨id,d⟩:=x;obtain⟨l,E,Z,hr⟩:=h.toVl.who U;have I:=h.take d E Z;have B:=Qsh h d E;obtain⟨k,ki,_⟩:=h.at E;obtain⟨c,hc,aa⟩:=h.leaf_at E;obtain⟨p1,_,_,_,p5,p6⟩:=h.tree.pos hc;have R:s.qOf id=l.q:=Ov E;obtain⟨p,q,u⟩:∃p q,l.q=p::q:=by
   cases hx:l.q with
   |nil=>exact absurd hx Z
   |cons a b=>exact⟨a,b,rfl⟩
  have V:=k.good p (by rw[u];exact List.mem_cons_self ..);have J:p.cls=id:=V.2.trans ki;have z:s.aX id d=⟨p,d,(s.aX id d).due⟩:=by unfold Qf.aX;rw[E];simp[u]
  refine .inr ⟨s.aX id d,s.take id d,by unfold Qf.next;rw[U],I,?_,by rw[z];exact V.1,by rw[z];exact hr,?_,?_,Qqk id d⟩
  ·have:=Qwl h I (i:=id) (v:= -1) (by omega) ⟨c,p6,p5⟩ (Qqk id d) fun j=>by
    rw[B];by_cases e:j=id;·rw[if_pos e,if_pos e,e,R,u];show(q.length:Int)=((p::q).length:Int)+ -1;rw[Zm];omega
    ·rw[if_neg e,if_neg e];simp
   omega
  ·rw[z];dsimp only;rw[J,B,if_pos rfl,R,u];rfl
  ·rw[z];dsimp only;intro i hi;rw[B,if_neg (by rw[←J];exact hi)]
end
theorem Qwh(n r:Nat)(k:1≤r):n≤(n+r-1)/r*r∧(n+r-1)/r*r≤n+r-1:=by have c:=Nat.lt_mul_div_succ (n+r-1) (show 0<r by omega);have d:=Nat.div_mul_le_self (n+r-1) r;rw[Nat.mul_succ,Nat.mul_comm]at c;exact⟨by omega,d⟩
theorem Qxu(l:V2){now:Nat}{c:Int}(u:1≤l.rate∧l.rate≤1048576)(E:l.aU≤now)(J:now≤1099511627776)(V:1≤c∧c≤65535):
  l.sendE now c=0∧(l.send now c).rate=l.rate∧(l.send now c).taken≤1152921504623624192∧now≤l.til now c∧(l.send now c).aU=l.til now c∧c.toNat*256+now*l.rate<(l.til now c+1)*l.rate:=by
 have e:l.sendE now c=0:=by unfold V2.sendE V2.free;rw[if_neg (by omega),if_neg (by omega),if_pos (by simpa using E)]
 have B:l.til now c=(l.send now c).aU:=by unfold V2.til;rw[if_pos e]
 have z:l.send now c=⟨l.rate,l.from_ now+c.toNat*256,false⟩:=by unfold V2.send;rw[if_pos e]
 have U:now*l.rate≤1152921504606846976:=Zp (Nat.mul_le_mul J u.2) (by decide);have I:l.from_ now≤now*l.rate∧now*l.rate<l.from_ now+l.rate:=by
  unfold V2.from_;split;·rename_i h;simp only[Zw,decide_eq_true_eq]at h;have d:=Qwh l.taken l.rate u.1;have:(l.taken+l.rate-1)/l.rate=now:=h.2.symm;rw[this]at d;omega
  ·omega
 have d:=Qwh (l.from_ now+c.toNat*256) l.rate u.1;have R:(l.send now c).aU=(l.from_ now+c.toNat*256+l.rate-1)/l.rate:=by rw[z];rfl
 rw[B,R];generalize(l.from_ now+c.toNat*256+l.rate-1)/l.rate=q at d;have k:now≤q:=by
  have:now*l.rate<(q+1)*l.rate:=by rw[Nat.succ_mul];omega
  have:=Nat.lt_of_mul_lt_mul_right this;omega
 refine⟨e,by rw[z],by rw[z];show l.from_ now+c.toNat*256≤_;omega,k,rfl,?_⟩;rw[Nat.succ_mul];omega
theorem Qw4(l:V2)(t:Nat):(l.idle t).aU=l.aU∧(l.idle t).rate=l.rate∧(l.idle t).taken=l.taken:=by unfold V2.idle;split<;>exact⟨rfl,rfl,rfl⟩
theorem Qx3{b:Bool}{n x:Nat}(h:n≤Xw):Qx9 b n x≤Xw:=by unfold Qx9;split<;>omega
def St8(s:Fr):Prop:=s.length=8∧∀n∈s,n≤Xw
theorem Qwz:St8 Qwi:=⟨rfl,fun n c=>(by rw[show n=0 from(by simpa[Qwi]using c)];exact Nat.zero_le _)⟩
theorem St8.step{s:Fr}(h:St8 s)(x:P5):St8 (Qwa s x):=by
 unfold Qwa;refine⟨by rw[List.length_set];exact h.1,fun n d=>?_⟩;rcases List.mem_or_eq_of_mem_set d with c|rfl;·exact h.2 n c
 ·refine Qx3 ?_;rw[List.getD_eq_getElem?_getD];cases k:s[x.k]? with
  |none=>exact Nat.zero_le _
  |some y=>exact h.2 y (List.mem_of_getElem? k)
theorem St8.fold{s:Fr}(h:St8 s):∀l:List P5,St8 (l.foldl Qwa s):=fun l=>by
 induction l generalizing s with
 |nil=>exact h
 |cons x l c=>exact c (h.step x)
theorem V1.aE{b:V1}{id:Int}{s:Fr}(h:b.at id=some s):(id,s)∈b:=by unfold V1.at at h;obtain⟨x,c,rfl⟩:=Option.map_eq_some_iff.1 h;have:=List.find?_some c;simp only[decide_eq_true_eq]at this;rw[←this];exact List.mem_of_find?_eq_some c
theorem BOk.get{b:V1}(h:BOk b)(id:Int):St8 (b.get id):=by
 unfold V1.get;cases c:b.at id with
 |none=>exact Qwz
 |some s=>exact h.eight _ (V1.aE c)
theorem Qwy(id:Int)(s:Fr):∀b:V1,∀k,k∈(V1.set id s b).map (·.1)→k=id∨k∈b.map (·.1)
 |[],k,h=>by simpa[V1.set]using h
 |x::b,k,h=>by
  rw[V1.set]at h;split at h
  ·rename_i e;rw[List.map_cons,Zu]at h⊢;rcases h with h|h;·exact .inl h
   ·exact .inr (.inr h)
  ·rw[List.map_cons,Zu]at h⊢;rcases h with h|h;·exact .inr (.inl h)
   ·exact(Qwy id s b k h).imp (fun e=>e) .inr
theorem Qwm(id:Int)(s:Fr):∀b:V1,(b.map (·.1)).Nodup→((V1.set id s b).map (·.1)).Nodup
 |[],_=>by simp[V1.set]
 |x::b,h=>by
  rw[V1.set];obtain⟨d,k⟩:=List.nodup_cons.1 h;split;·rename_i e;subst e;exact h
  ·rename_i e;refine List.nodup_cons.2 ⟨fun c=>?_,Qwm id s b k⟩;rcases Qwy id s b _ c with c|c;·exact e c.symm
   ·exact d c
theorem Qxf{id:Int}{s:Fr}{x:Int×Fr}:∀{b:V1},x∈V1.set id s b→x=(id,s)∨x∈b
 |[],h=>by simpa[V1.set]using h
 |y::b,h=>by
  rw[V1.set]at h;split at h
  ·rcases Zu.1 h with h|h;·exact .inl h
   ·exact .inr (Zr _ h)
  ·rcases Zu.1 h with h|h;·exact .inr (by rw[h];exact List.mem_cons_self ..)
   ·exact(Qxf h).imp (fun e=>e) (Zr _)
theorem BOk.upd{b:V1}(h:BOk b)(id:Int)(l:List P5):BOk (b.upd id l):=
 ⟨Qwm _ _ _ h.nd,fun x c=>by
  rcases Qxf c with rfl|c;·exact(h.get id).fold l
  ·exact h.eight x c⟩
theorem BOk.tell{b:V1}(h:BOk b)(c:Int)(l:List P5):BOk (b.tell c l):=by unfold V1.tell;grind [Vl.upd,BOk.upd]
theorem BOk.drop{b:V1}(h:BOk b)(c:Int):BOk (b.drop c):=by
 unfold V1.drop;split;·exact h
 ·have:=h.tell 0 (Qx5 (b.get c));exact⟨List.Pairwise.sublist (List.filter_sublist.map _) this.nd,fun x d=>this.eight x (List.mem_filter.1 d).1⟩
theorem BOk.new:BOk V1.new:=⟨by decide,fun x c=>by
 have:x=(0,Qwi):=by simpa[V1.new]using c
 rw[this];exact Qwz⟩
structure V4(K:Nat)(e:Vi):Prop where
 sok:∃N,Xp N e.sched∧N+17*(e.sched.many 0).toNat+(if e.aM.isSome then 1 else 0)+e.sent.length≤K
 rate:1≤e.rate∧e.rate≤1048576
 lrate:e.link.rate=e.rate
 hor:1≤e.hor∧e.hor≤1099511627776
 now:e.now≤e.hor
 taken:e.link.taken≤1152921504623624192
 free:e.aM=none→e.link.aU≤e.now
 und:∀x,e.aM=some x→x.til=e.link.aU∧e.now≤x.til
 book:BOk e.book
section
variable{K:Nat}{e:Vi}
theorem V4.more(h:V4 K e){M:Nat}(R:K≤M):V4 M e:=by obtain⟨⟨N,d,J⟩,k,q,u,z,B,E,I,c⟩:=h;exact⟨⟨N,d,by omega⟩,k,q,u,z,B,E,I,c⟩
theorem V4.new{c:Nat}{k:Int}{d:Nat}(h:Qxy c k d=0):V4 0 (Vi.new c k d):=by
 unfold Qxy at h;split at h;·exact absurd h (by decide)
 split at h;·exact absurd h (by decide)
 rename_i q u;refine⟨⟨0,Xp.new (by omega) (by omega),?_⟩,⟨show 1≤c by omega,show c≤1048576 by omega⟩,rfl,⟨show 1≤d by omega,show d≤1099511627776 by omega⟩,Nat.zero_le _,Nat.zero_le _,fun _=>?_,nofun,BOk.new⟩;·exact Zv 0
 ·show(0+c-1)/c≤0;rw[Nat.div_eq_of_lt (by omega)];exact Zv 0
theorem V4.through(h:V4 K e){x:D7}(q:e.aM=some x)(d:x.til≤e.hor):V4 K (e.through x):=by
 obtain⟨⟨N,u,k⟩,z,B,E,R,I,U,J,c⟩:=h;refine⟨⟨N,u,?_⟩,z,B,E,d,I,fun _=>?_,nofun,c.tell _ _⟩;·rw[q]at k;show N+17*(e.sched.many 0).toNat+0+(e.sent++[x]).length≤K;simp at k⊢;omega
 ·show e.link.aU≤x.til;rw[(J x q).1];exact Zv _
theorem V4.til(h:V4 K e){t:Nat}(d:e.now≤t)(k:t≤e.hor)(u:∀x,e.aM=some x→t≤x.til):V4 K {e with now:=t}:=
 ⟨h.sok,h.rate,h.lrate,h.hor,k,h.taken,fun q=>Zp (h.free q) d,fun x c=>⟨(h.und x c).1,u x c⟩,h.book⟩
theorem V4.idle(h:V4 K e)(c:e.aM=none){t:Nat}(z:e.now≤t)(B:t≤e.hor):V4 K (e.idle t):=by
 obtain⟨l,d,E,q,u⟩:∃l,l=(if e.now<e.sched.tick then e.link.idle e.now else e.link)∧l.aU=e.link.aU∧l.rate=e.link.rate∧l.taken=e.link.taken:=by
  refine⟨_,rfl,?_⟩;split;·exact Qw4 _ _
  ·exact⟨rfl,rfl,rfl⟩
 unfold Vi.idle;rw[←d];refine⟨h.sok,h.rate,q.trans h.lrate,h.hor,?_,by show l.taken≤_;rw[u];exact h.taken,fun _=>?_,fun x k=>(by rw[show e.aM=some x from k]at c;cases c),h.book⟩;·show min (max e.now e.sched.tick) t≤e.hor;omega
 ·show l.aU≤min (max e.now e.sched.tick) t;have:=h.free c;omega
theorem V4.choose(h:V4 K e)(u:e.aM=none):
  (e.choose=(none,e)∧e.sched.who e.now=none)∨
  ∃c s,e.sched.next e.now=(some c,s)∧e.choose=(some ⟨1,e.chosen c⟩,{e with sched:=s,link:=e.link.send e.now c.p.len,aM:=some (e.chosen c),book:=e.book.tell c.p.cls (Qwn c.p c.rule)})∧V4 K e.choose.2∧e.choose.2.left+1=e.left∧
   e.link.sendE e.now c.p.len=0∧Ll c.p∧(c.rule=1∨c.rule=2)∧e.sched.qOf c.p.cls=c.p::s.qOf c.p.cls∧(∀i,i≠c.p.cls→s.qOf i=e.sched.qOf i)∧s.tree=e.sched.tree∧e.now≤(e.chosen c).til∧c.p.len.toNat*256+e.now*e.rate<((e.chosen c).til+1)*e.rate:=by
 obtain⟨N,J,z⟩:=h.sok;rcases Qxr J e.now with⟨k,hw⟩|⟨c,s,k,q,hm,B,Z,V,U,ht⟩;·exact .inl ⟨by unfold Vi.choose;rw[k],hw⟩
 ·have d:e.choose=(some ⟨1,e.chosen c⟩,{e with sched:=s,link:=e.link.send e.now c.p.len,aM:=some (e.chosen c),book:=e.book.tell c.p.cls (Qwn c.p c.rule)}):=by unfold Vi.choose;rw[k]
  obtain⟨s1,s2,s3,E,s5,I⟩:=Qxu e.link (by rw[h.lrate];exact h.rate) (h.free u) (Zp h.now h.hor.2) B;have R:=Qhw (s:=s) 0;rw[h.lrate]at I;refine .inr ⟨c,s,k,d,?_,?_,s1,B,Z,V,U,ht,E,I⟩
  ·rw[d];refine⟨⟨N+16,q,?_⟩,h.rate,s2.trans h.lrate,h.hor,h.now,s3,nofun,fun x hx=>?_,h.book.tell _ _⟩;·show N+16+17*(s.many 0).toNat+1+e.sent.length≤K;rw[u]at z;simp at z;omega
   ·obtain rfl:e.chosen c=x:=Zs hx;exact⟨s5.symm,E⟩
  ·rw[d];unfold Vi.left;rw[u];show 2*(s.many 0).toNat+1+1=2*(e.sched.many 0).toNat+0;omega
theorem Qwo(h:V4 K e)(c:Nat):e.now≤e.clip c∧e.clip c≤e.hor:=by have:=h.now;unfold Vi.clip;omega
theorem V4.tick(h:V4 K e){t:Nat}(d:t≤1099511627776):(∃x,e.sched.who t=some x)↔e.sched.tick≤t:=by obtain⟨N,c,_⟩:=h.sok;exact Qs6 c c.sr.row (Nat.lt_of_le_of_lt d (by decide))
theorem V4.step(h:V4 K e)(til:Nat):
  V4 K (e.step til).2∧(∀x,(e.step til).1=some x→(e.step til).2.left+1=e.left)∧
  ((e.step til).1=none→e.stopped=false→(e.step til).2.now=e.clip til∧(e.step til).2.aM=e.aM∧(e.step til).2.sched=e.sched∧(e.step til).2.sent=e.sent∧(e.step til).2.book=e.book∧
   (∀x,e.aM=some x→e.clip til<x.til∧(e.step til).2.link=e.link)∧(e.aM=none→e.clip til<e.sched.tick)):=by
 obtain⟨I,B⟩:=Qwo h til;unfold Vi.step;split;·rename_i hs;exact⟨h,fun x d=>(by cases d),fun _ u=>(by rw[hs]at u;cases u)⟩
 ·rename_i hs;split
  ·rename_i x d;split;·rename_i z;refine⟨h.through d (Zp z B),fun _ _=>?_,fun q=>(by cases q)⟩;unfold Vi.left Vi.through;rw[d];simp
   ·rename_i z;exact⟨h.til I B (fun y k=>by rw[d]at k;obtain rfl:=Zs k;omega),fun x d=>(by cases d),fun _ _=>⟨rfl,rfl,rfl,rfl,rfl,fun y k=>(by rw[d]at k;obtain rfl:=Zs k;exact⟨by omega,rfl⟩),fun q=>(by rw[d]at q;cases q)⟩⟩
  ·rename_i E;split;·rename_i ht;refine⟨h.idle E I B,fun x d=>(by cases d),fun _ _=>⟨?_,rfl,rfl,rfl,rfl,fun y k=>(by rw[E]at k;cases k),fun _=>by omega⟩⟩;show min (max e.now e.sched.tick) (e.clip til)=e.clip til;omega
   ·rename_i ht;have hi:=h.idle E I B;have R:(e.idle (e.clip til)).now=max e.now e.sched.tick:=by show min (max e.now e.sched.tick) (e.clip til)=_;omega
    have hl:(e.idle (e.clip til)).left=e.left:=rfl;rcases hi.choose E with⟨_,Z⟩|⟨c,s,_,J,V,U,_⟩;·have hb:=h.hor.2;obtain⟨x,d⟩:=(h.tick (t:=max e.now e.sched.tick) (by omega)).2 (by omega);rw[R]at Z;rw[show(e.idle (e.clip til)).sched=e.sched from rfl,d]at Z;cases Z
    ·refine⟨V,fun _ _=>by rw[U,hl],fun q=>?_⟩;rw[J]at q;cases q
theorem V4.all(c:Nat):∀(n:Nat){e:Vi},V4 K e→V4 K (Vi.all c n e)
 |0,_,h=>h
 |n+1,e,h=>by
  rw[Vi.all];split;·exact(h.step c).1
  ·exact V4.all c n (h.step c).1
theorem Qwu(c:Nat):∀(n m:Nat){e:Vi},V4 K e→e.left<n→e.left<m→Vi.all c n e=Vi.all c m e
 |0,_,e,_,h,_=>absurd h (Nat.not_lt_zero _)
 |_+1,0,e,_,_,h=>absurd h (Nat.not_lt_zero _)
 |n+1,m+1,e,ok,h1,h2=>by
  rw[Vi.all,Vi.all];obtain⟨k,q,_⟩:=ok.step c;cases d:(e.step c).1 with
  |none=>rfl
  |some x=> have:=q x d;exact Qwu c n m k (by omega) (by omega)
theorem V4.run(h:V4 K e)(til:Nat):V4 K (e.run til):=h.all til _
theorem P6(h:V4 K e){til:Nat}{x:EvM}(c:(e.step til).1=some x):e.run til=(e.step til).2.run til:=by obtain⟨d,k,_⟩:=h.step til;have:=k x c;unfold Vi.run;rw[Vi.all];simp only[c];exact Qwu til _ _ d (by omega) (by omega)
theorem G9{til:Nat}(c:(e.step til).1=none):e.run til=(e.step til).2:=by unfold Vi.run;rw[Vi.all];simp only[c]
theorem Qwr{P:Vi→Prop}{til:Nat}(k:∀e,V4 K e→P e→(e.step til).1.isSome=true→P (e.step til).2){Q:Vi→Prop}(d:∀e,V4 K e→P e→(e.step til).1=none→Q (e.step til).2):
  ∀(n:Nat){e:Vi},e.left<n→V4 K e→P e→Q (e.run til)
 |0,_,h,_,_=>absurd h (Nat.not_lt_zero _)
 |n+1,e,h,ok,hp=>by
  obtain⟨q,u,_⟩:=ok.step til;cases c:(e.step til).1 with
  |none=>rw[G9 c];exact d e ok hp c
  |some x=> have:=u x c;rw[P6 ok c];exact Qwr k d n (by omega) q (k e ok hp (by rw[c];rfl))
theorem W8(e:Vi)(til:Nat):(e.step til).2.hor=e.hor∧(e.step til).2.rate=e.rate:=by
 unfold Vi.step;split;·exact⟨rfl,rfl⟩
 ·split;·split<;>exact⟨rfl,rfl⟩
  ·split;·exact⟨rfl,rfl⟩
   ·unfold Vi.choose;split<;>exact⟨rfl,rfl⟩
theorem Qwf(c:Nat):∀(n:Nat)(e:Vi),(Vi.all c n e).hor=e.hor∧(Vi.all c n e).rate=e.rate
 |0,_=>⟨rfl,rfl⟩
 |n+1,e=>by
  have h:=W8 e c;rw[Vi.all];split;·exact h
  ·exact⟨(Qwf c n _).1.trans h.1,(Qwf c n _).2.trans h.2⟩
theorem Qv9(e:Vi)(til:Nat):(e.run til).hor=e.hor:=(Qwf til _ e).1
theorem V3(h:e.stopped=true)(til:Nat):e.step til=(none,e):=by unfold Vi.step;rw[if_pos h]
theorem Qxc(h:V4 K e){til:Nat}(J:e.now≤til)(U:e.stopped=false):(e.run til).now=min til e.hor:=by
 refine Qwr (K:=K) (P:=fun x=>x.hor=e.hor∧x.now≤min til e.hor) (til:=til) (fun x u q d=>?_) (Q:=fun x=>x.now=min til e.hor) (fun x u q d=>?_) _ (Nat.lt_succ_self _) h ⟨rfl,by have:=h.now;omega⟩
 ·obtain⟨z,R⟩:=q;refine⟨(W8 x til).1.trans z,?_⟩;have k:x.clip til≤min til e.hor:=by unfold Vi.clip;omega
  unfold Vi.step at d⊢;split;·rename_i B;rw[if_pos B]at d;cases d
  ·split
   ·rename_i y Z;split;·rename_i E;show y.til≤_;omega
    ·show x.clip til≤_;exact k
   ·split;·show min _ (x.clip til)≤_;omega
    ·rename_i V E;have I:(x.idle (x.clip til)).now≤min til e.hor:=by show min _ (x.clip til)≤_;omega
     unfold Vi.choose;split<;>exact I
 ·obtain⟨z,R⟩:=q;by_cases c:x.stopped=true;·rw[V3 c];unfold Vi.stopped at c;simp only[decide_eq_true_eq]at c;show x.now=_;omega
  ·have:=((u.step til).2.2 d (by simpa using c)).1;rw[this];unfold Vi.clip;omega
end
end Go.Proofs.YtigcnnkagkbflaaGreat
