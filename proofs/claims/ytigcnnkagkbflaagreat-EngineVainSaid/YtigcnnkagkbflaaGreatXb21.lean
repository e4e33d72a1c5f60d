/- A part of the proof: no condition. -/
import Derived.Test.YtigcnnkagkbflaaGreatXb20
import Derived.Shelf.Sort.Plain
import Derived.Shelf.Slices.In.SortNone
import Derived.Test.YtigcnnkagkbflaaGreatProg
namespace Go.Proofs.YtigcnnkagkbflaaGreat
set_option linter.unusedVariables false
set_option maxRecDepth 100000
set_option maxHeartbeats 4000000
open Go.RowKit
open Go.Proofs.Tryz
attribute [local go_sem] Qp
attribute [local irreducible] Kl J9 Xo
section
variable{s:Yk}
theorem Cq(h:s.mayE=0):1≤s.id∧s.id≤65535∧0≤s.par∧s.par≤65535∧s.id≠s.par:=by grind [Yk.mayE,Vm.id,Yk.named,inB]
theorem Md(h:s.mayE=0):s.real.May∧s.share.May∧s.aN.May:=by grind [Yk.mayE,Yk.curvesB]
theorem Qam(h:s.mayE=0)(c:s.leaf=true):1≤s.pk∧s.pk≤4096∧1≤s.bt∧s.bt≤16777216:=by grind [Yk.mayE,Qf.leaf,Yk.shapedB,inB]
end
section
variable{h:Qm}
theorem Wu{i:Int}(d:h.at i=none):∀c∈h,c.sp.id≠i:=by simpa[Qm.at]using d
theorem Da(u:Ex h){c:Vm}(k:c∈h):h.at c.sp.id=some c:=by have q:(h.map Vm.id).Nodup:=List.pairwise_map.2 (u.imp fun{a b}d(e:a.sp.id=b.sp.id)=>by omega);exact Ls (key:=Vm.id) q k rfl
theorem Qtm(c:Vm)(z:h.at c.sp.id=none)(k:Int):Qm.at (Mb c h) k=if k=c.sp.id then some c else h.at k:=by
 have q:=Wu z;clear z;unfold Qm.at;induction h with
 |nil=>
  rw[Mb,List.find?_cons];by_cases e:k=c.sp.id;·simp[e]
  ·have:¬c.sp.id=k:=fun d=>e d.symm;simp[e,this]
 |cons x l u=>
  have u:=u fun y E=>q y (Zr _ E);have B:=q x List.mem_cons_self;rw[Mb];split
  ·rw[List.find?_cons];by_cases e:k=c.sp.id;·simp[e]
   ·have:¬c.sp.id=k:=fun d=>e d.symm;simp only[this,decide_false];rw[if_neg e]
  ·rw[List.find?_cons,List.find?_cons];by_cases e:x.sp.id=k;·have:¬k=c.sp.id:=fun d=>B (by rw[e,d]);simp only[e,decide_true];rw[if_neg this]
   ·simp only[e,decide_false];exact u
theorem Qtn(f:Vm→Vm)(u:∀c,(f c).sp.id=c.sp.id)(i k:Int):Qm.at (h.map fun x=>if x.sp.id=i then f x else x) k=if k=i then(h.at i).map f else h.at k:=by
 unfold Qm.at;induction h with
 |nil=>simp
 |cons x l z=>
  rw[List.map_cons,List.find?_cons,List.find?_cons,List.find?_cons];by_cases d:x.sp.id=i
  ·rw[if_pos d];by_cases e:k=i;·simp[u,d,e]
   ·have B:¬(f x).sp.id=k:=fun q=>e (by rw[←q,u,d]);have E:¬x.sp.id=k:=fun q=>e (by rw[←q,d]);simp only[B,E,decide_false];rw[z,if_neg e,if_neg e]
  ·rw[if_neg d];by_cases e:x.sp.id=k;·have:¬k=i:=fun q=>d (by rw[e,q]);simp only[e,decide_true];rw[if_neg this]
   ·simp only[e,d,decide_false];exact z
theorem Qkj(i k:Int):Qm.at (h.filter fun x=>!decide (x.sp.id=i)) k=if k=i then none else h.at k:=by grind [Qm.at,Vm.id,Jy.at,Tr.at,Xh.at]
structure J8(h:Qm):Prop where
 sorted:Ex h
 may:∀c∈h,c.sp.mayE=0
 par:∀c∈h,(c.sp.par=0∧c.d=1)∨∃q,h.at c.sp.par=some q∧q.sp.leaf=false∧c.d=q.d+1
 dep:∀c∈h,1≤c.d∧c.d≤8
 many:h.length≤64
def Xk(h:Qm)(i:Int):Nat:=match h.at i with
 |none=>0
 |some c=>c.d
theorem V7{i:Int}{c:Vm}(d:h.at i=some c):Xk h i=c.d:=by unfold Xk;rw[d]
theorem Kr{i:Int}(c:h.at i=none):Xk h i=0:=by unfold Xk;rw[c]
theorem J8.nil:J8 []:=⟨List.Pairwise.nil,nofun,nofun,nofun,Nat.zero_le _⟩
theorem J8.pos(u:J8 h){i:Int}{c:Vm}(q:h.at i=some c):1≤i∧i≤65535∧0≤c.sp.par∧i≠c.sp.par∧c.sp.id=i∧c∈h:=by obtain⟨k,d⟩:=Qm.aE q;have:=Cq (u.may c k);rw[d]at this;exact⟨this.1,this.2.1,this.2.2.1,this.2.2.2.2,d,k⟩
theorem J8.zero(k:J8 h){i:Int}(q:i<1):h.at i=none:=by
 cases d:h.at i with
 |none=>rfl
 |some c=>have:=(k.pos d).1;omega
theorem J8.nodup(d:J8 h):(h.map Vm.id).Nodup:=List.pairwise_map.2 (d.sorted.imp fun{a b}c(e:a.sp.id=b.sp.id)=>by omega)
theorem Qgy(k:J8 h){c:Int}(d:h.depth c≠0):(c=0∧h.depth c=1)∨∃q,h.at c=some q∧q.sp.leaf=false∧h.depth c=q.d+1∧q.d<8:=by grind [Qm.depth,Jy.at,Tr.at,Xh.at,Qf.leaf]
theorem Ub{s:Yk}(c:h.aO s=0):s.mayE=0∧h.length<64∧h.at s.id=none∧h.depth s.par≠0:=by
 unfold Qm.aO at c;split at c;·cases c
 ·rename_i q;split at c;·cases c
  ·rename_i u;split at c;·cases c
   ·rename_i d;split at c;·cases c
    ·rename_i k;exact⟨by omega,by omega,by simpa using d,k⟩
theorem Bv{s:Yk}(c:h.aO s=0):h.add s=Mb ⟨s,h.depth s.par⟩ h:=by unfold Qm.add;rw[if_pos c]
theorem Qjv{s:Yk}(c:h.aO s=0)(k:Int):(h.add s).at k=if k=s.id then some ⟨s,h.depth s.par⟩else h.at k:=by rw[Bv c];exact Qtm ⟨s,h.depth s.par⟩ (Ub c).2.2.1 k
theorem J8.add(E:J8 h){s:Yk}(I:h.aO s=0):J8 (h.add s):=by
 obtain⟨R,h2,U,Z⟩:=Ub I;have z:=Qjv I;have V:=Qgy E Z;have J:=Wu U;have K:s.par≠s.id:=fun e=>(Cq R).2.2.2.2 e.symm;rw[Bv I]at z⊢;have u:∀x,x∈Mb ⟨s,h.depth s.par⟩ h→x∈h∨x=⟨s,h.depth s.par⟩:=fun x hx=>by have:=(Ef ⟨s,h.depth s.par⟩ h).mem_iff.1 hx;simpa using this
 refine⟨Wz _ E.sorted J,fun c d=>?_,fun c d=>?_,fun c d=>?_,?_⟩
 ·rcases u c d with d|rfl;·exact E.may c d
  ·exact R
 ·rcases u c d with d|rfl
  ·refine(E.par c d).imp id fun⟨q,B,k⟩=>⟨q,?_,k⟩;rw[z,if_neg ?_];·exact B
   ·intro e;rw[e,U]at B;cases B
  ·refine V.imp (fun h=>h) fun⟨q,B,k1,k2,_⟩=>⟨q,?_,k1,k2⟩;show Qm.at _ s.par=_;rw[z,if_neg K];exact B
 ·rcases u c d with d|rfl;·exact E.dep c d
  ·rcases V with⟨_,e⟩|⟨q,B,_,e,h8⟩;·show 1≤h.depth s.par∧h.depth s.par≤8;omega
   ·show 1≤h.depth s.par∧h.depth s.par≤8;omega
 ·have:=(Ef ⟨s,h.depth s.par⟩ h).length_eq;simp only[List.length_append,Zm,List.length_nil]at this;omega
theorem Gb{s:Yk}(d:h.aG s=0):∃c,h.at s.id=some c∧(c.sp.aK s).mayE=0:=by
 unfold Qm.aG at d;cases k:h.at s.id with
 |none=>rw[k]at d;cases d
 |some c=>
  rw[k]at d;dsimp only at d;split at d;·cases d
  ·rename_i e;exact⟨c,rfl,by omega⟩
theorem Si{s:Yk}(c:h.aG s=0)(k:Int):(h.change s).at k=if k=s.id then(h.at s.id).map (fun x=>⟨x.sp.aK s,x.d⟩)else h.at k:=by unfold Qm.change;rw[if_pos c];exact Qtn (fun x=>⟨x.sp.aK s,x.d⟩) (fun _=>rfl) s.id k
theorem J8.change(z:J8 h){s:Yk}(I:h.aG s=0):J8 (h.change s):=by
 obtain⟨c0,K,hm⟩:=Gb I;have k:=Si I;unfold Qm.change at k⊢;rw[if_pos I]at k⊢;have d:∀x,x∈(h.map fun x=>if x.sp.id=s.id then(⟨x.sp.aK s,x.d⟩:Vm)else x)→∃y∈h,x.d=y.d∧x.sp.par=y.sp.par∧x.sp.leaf=y.sp.leaf∧x.sp.mayE=0:=fun x hx=>by
  obtain⟨y,u,rfl⟩:=Z3.1 hx;refine⟨y,u,?_⟩;by_cases e:y.sp.id=s.id
  ·rw[if_pos e];have:y=c0:=by have U:=Da z.sorted u;rw[e,K]at U;exact(Zs U).symm
   rw[this];exact⟨rfl,rfl,rfl,hm⟩
  ·rw[if_neg e];exact⟨rfl,rfl,rfl,z.may y u⟩
 refine⟨?_,fun c B=>(d c B).choose_spec.2.2.2.2,fun c B=>?_,fun c B=>?_,by rw[List.length_map];exact z.many⟩
 ·refine List.pairwise_map.2 (z.sorted.imp fun{a b}J=>?_);have e:∀x:Vm,(if x.sp.id=s.id then(⟨x.sp.aK s,x.d⟩:Vm)else x).sp.id=x.sp.id:=fun x=>by split<;>rfl
  rw[e,e];exact J
 ·obtain⟨y,u,E,e2,e3,_⟩:=d c B;rw[E,e2];refine(z.par y u).imp id fun⟨q,R,V,Z⟩=>?_;rw[k];split;·rename_i e;rw[e]at R;rw[R];exact⟨_,rfl,V,Z⟩
  ·exact⟨q,R,V,Z⟩
 ·obtain⟨y,u,E,_⟩:=d c B;rw[E];exact z.dep y u
theorem Tz{i:Int}(d:h.aP i=0):∃c,h.at i=some c∧h.aM i=[]:=by
 unfold Qm.aP at d;cases k:h.at i with
 |none=>rw[k]at d;cases d
 |some c=>
  rw[k]at d;dsimp only at d;split at d;·cases d
  ·rename_i e;exact⟨c,rfl,by simpa using e⟩
theorem Qby{i:Int}(k:h.aM i=[]):∀c∈h,c.sp.par≠i:=fun c d e=>by have:c.sp.id∈h.aM i:=Z3.2 ⟨c,List.mem_filter.2 ⟨d,by simpa using e⟩,rfl⟩;rw[k]at this;cases this
theorem We{i:Int}(c:h.aP i=0)(k:Int):(h.drop i).at k=if k=i then none else h.at k:=by unfold Qm.drop;rw[if_pos c];exact Qkj i k
theorem J8.drop(B:J8 h){i:Int}(E:h.aP i=0):J8 (h.drop i):=by obtain⟨V,J,R⟩:=Tz E;have u:=We E;have I:=Qby R;unfold Qm.drop at u⊢;rw[if_pos E]at u⊢;have d:∀x,x∈(h.filter fun x=>!decide (x.sp.id=i))→x∈h:=fun x U=>(List.mem_filter.1 U).1;refine⟨B.sorted.filter _,fun c z=>B.may c (d c z),fun c z=>?_,fun c z=>B.dep c (d c z),Zp (List.length_filter_le _ _) B.many⟩;refine(B.par c (d c z)).imp id fun⟨q,K,k⟩=>⟨q,?_,k⟩;rw[u,if_neg (I c (d c z))];exact K
theorem Qhj(z:J8 h):∀{n:Nat}{i j:Int}{c:Vm},Xk h i<n→j∈h.path n i→h.at j=some c→c.sp.par≠0→c.sp.par∈h.path n i
 |0,i,j,c,hd,_,_,_=>by omega
 |n+1,i,j,c,hd,d,hc,hp=>by
  rw[Qm.path]at d⊢;cases u:h.at i with
  |none=>rw[u]at d;cases d
  |some x=>
   rw[u]at d;dsimp only at d⊢;rw[V7 u]at hd;obtain⟨E,R⟩:=Qm.aE u;have key:x.sp.par≠0→∃q,h.at x.sp.par=some q∧x.d=q.d+1∧1≤q.d:=fun B=>by
    rcases z.par x E with J|⟨q,k,_,K⟩;·exact absurd J.1 B
    ·exact⟨q,k,K,(z.dep q (Qm.aE k).1).1⟩
   rcases Zu.1 d with rfl|d;·rw[u]at hc;obtain rfl:=Zs hc;obtain⟨q,k,e,I⟩:=key hp;refine Zr _ ?_;obtain⟨m,rfl⟩:∃m,n=m+1:=⟨n-1,by omega⟩;rw[Qm.path,k];exact List.mem_cons_self
   ·by_cases B:x.sp.par=0
    ·have U:=z.zero (i:=x.sp.par) (by omega);cases n with
     |zero=>rw[Qm.path]at d;cases d
     |succ m=>rw[Qm.path,U]at d;cases d
    ·obtain⟨q,k,e,I⟩:=key B;refine Zr _ (Qhj z ?_ d hc hp);rw[V7 k];omega
theorem Y8{id x:Int}:x∈h.aI id↔∃c∈h,c.sp.id=x∧c.sp.leaf=true∧(id=0∨id∈h.path 9 x):=by grind [Qm.aI,Vm.id,Qf.leaf,Qe.path,Qm.path,Qm.below]
theorem Ut(c:J8 h)(id:Int):(h.aI id).Pairwise (· < ·):=by unfold Qm.aI;exact List.pairwise_map.2 (c.sorted.filter _)
end
structure Vp(h:Qm)(p:Qe):Prop where
 root:∃r,p.at 0=some r∧r.leaf=false∧r.aM=(h.aM 0).length
 cls:∀i,i≠0→(p.at i).map (fun x=>(x.par,x.leaf,x.aJ,x.aM))=(h.at i).map fun c=>(c.sp.par,c.sp.leaf,c.sp.aJ,(h.aM i).length)
section
variable{h:Qm}{p p':Qe}{N M:Nat}{dep:Int→Nat}
theorem Vp.fwd(m:Vp h p)(q:J8 h){i:Int}{c:Vm}(d:h.at i=some c):∃x,p.at i=some x∧x.par=c.sp.par∧x.leaf=c.sp.leaf∧x.aJ=c.sp.aJ∧x.aM=(h.aM i).length:=by
 have u:=(q.pos d).1;have:=m.cls i (by omega);rw[d]at this;cases k:p.at i with
 |none=>rw[k]at this;cases this
 |some x=> rw[k]at this;simp only[Zn,Option.some.injEq,Prod.mk.injEq]at this;exact⟨x,rfl,this⟩
theorem Vp.back(m:Vp h p){i:Int}(k:i≠0){x:Qx}(q:p.at i=some x):∃c,h.at i=some c∧x.par=c.sp.par∧x.leaf=c.sp.leaf∧x.aJ=c.sp.aJ∧x.aM=(h.aM i).length:=by
 have:=m.cls i k;rw[q]at this;cases d:h.at i with
 |none=>rw[d]at this;cases this
 |some c=> rw[d]at this;simp only[Zn,Option.some.injEq,Prod.mk.injEq]at this;exact⟨c,rfl,this⟩
theorem Vp.no(m:Vp h p){i:Int}(c:i≠0)(d:h.at i=none):p.at i=none:=by have:=m.cls i c;rw[d]at this;simpa using this
theorem Vp.path(m:Vp h p)(k:J8 h):∀(n:Nat)(i:Int),p.path n i=h.path n i
 |0,_=>rfl
 |n+1,i=>by
  rw[Qe.path,Qm.path];by_cases d:i<1;·rw[if_pos d,k.zero d]
  ·rw[if_neg d];cases q:h.at i with
   |none=>rw[m.no (by omega) q]
   |some c=> obtain⟨x,u,e,_⟩:=m.fwd k q;rw[u];dsimp only;rw[e,m.path k n]
theorem Vp.par(m:Vp h p)(d:J8 h){c:Vm}(z:c∈h):∃q,p.at c.sp.par=some q∧q.leaf=false∧q.aM=(h.aM c.sp.par).length:=by
 rcases d.par c z with⟨e,_⟩|⟨q,E,B,_⟩;·rw[e];exact m.root
 ·obtain⟨x,I,_,k,_,u⟩:=m.fwd d E;exact⟨x,I,k.trans B,u⟩
theorem Vp.same(m:Vp h p)(k:Jv p p')(U:Hm p p'):Vp h p':=by
 have B:∀i,(p'.at i).map Qx.aM=(p.at i).map Qx.aM:=fun i=>by
  have:=U i 0;cases c:p.at i with
  |none=>rw[k.none c]
  |some x=> obtain⟨y,q,_⟩:=k.get c;rw[c,q]at this;simp only[Zn,Option.some.injEq,Prod.mk.injEq]at this;rw[q];simp[this.2]
 refine⟨?_,fun i K=>?_⟩;·obtain⟨r,z,R,J⟩:=m.root;obtain⟨V,d,_,u,_⟩:=k.get z;have:=B 0;rw[z,d]at this;simp only[Zn,Option.some.injEq]at this;exact⟨V,d,u.trans R,this.trans J⟩
 ·rw[←m.cls i K];have:=B i;cases c:p.at i with
  |none=>rw[k.none c]
  |some x=> obtain⟨y,q,E,u,I⟩:=k.get c;rw[c,q]at this;simp only[Zn,Option.some.injEq]at this;rw[q];simp[this,E,u,I]
theorem Vp.new:Vp [] Qe.new:=by refine⟨⟨_,by rw[Rl,if_pos rfl],rfl,rfl⟩,fun i c=>?_⟩;rw[Rl,if_neg c];rfl
theorem Qwe(h:Qm)(i:Int):(h.aM i).length≤h.length:=by unfold Qm.aM;rw[List.length_map];exact List.length_filter_le _ _
theorem Ra(x:Int):∀l:List Int,(Nm x l).length=l.length+1
 |[]=>rfl
 |y::l=>by
  rw[Nm];split;·rfl
  ·simp[Ra x l]
theorem Qje(E:J8 h){i:Int}(z:i≠0)(B:h.at i=none):h.aM i=[]:=by
 unfold Qm.aM;rw[List.map_eq_nil_iff,List.filter_eq_nil_iff];intro c u e;simp only[decide_eq_true_eq]at e;rcases E.par c u with⟨k,_⟩|⟨q,d,_⟩;·exact z (e.symm.trans k)
 ·rw[e,B]at d;cases d
theorem Vp.add(m:Vp h p)(I:J8 h){s:Yk}(U:h.aO s=0):
  ∃q,p.at s.par=some q∧q.leaf=false∧q.aM≤64∧p.at s.id=none∧1≤s.id∧Vp (h.add s) (p.put s)∧
   Xk (h.add s) 0=0∧Xk (h.add s) s.id=Xk (h.add s) s.par+1∧Xk (h.add s) s.id≤8∧∀i,i≠s.id→Xk (h.add s) i=Xk h i:=by
 obtain⟨h1,h2,h3,h4⟩:=Ub U;obtain⟨i1,i2,i3,i4,i5⟩:=Cq h1;have hn:=m.no (by omega) h3;have z:=Qjv U;have hd:=Qgy I h4;have ae:=I.add U;have u:∃q,p.at s.par=some q∧q.leaf=false∧q.aM=(h.aM s.par).length:=by
  rcases hd with⟨e,_⟩|⟨q,u,K,_⟩;·rw[e];exact m.root
  ·obtain⟨x,Z,_,d,_,e3⟩:=m.fwd I u;exact⟨x,Z,d.trans K,e3⟩
 obtain⟨q,u,K,R⟩:=u;have hu:∀k,(h.add s).aM k=if s.par=k then Nm s.id (h.aM k)else h.aM k:=fun k=>by rw[Bv U];exact Fe ⟨s,h.depth s.par⟩ k I.sorted
 have E:=Qsc i1 hn u K;have J:∀i,i≠s.id→Xk (h.add s) i=Xk h i:=fun i V=>by unfold Xk;rw[z,if_neg V]
 refine⟨q,u,K,by rw[R];exact Zp (Qwe _ _) (by omega),hn,i1,⟨?_,fun i V=>?_⟩,?_,?_,?_,J⟩
 ·by_cases e:s.par=0;·refine⟨{q with mem:=if s.aJ then q.mem.add s.id s.share else q.mem,aM:=q.aM+1},by rw[E,if_pos e.symm],K,?_⟩;rw[hu,if_pos e,Ra,←e,←R]
  ·obtain⟨r,hr,ab,ac⟩:=m.root;refine⟨r,by rw[E,if_neg (Ne.symm e),if_neg (by omega)];exact hr,ab,?_⟩;rw[hu,if_neg e,ac]
 ·rw[E,z,hu];by_cases e:i=s.par
  ·have aa:s.par≠s.id:=fun e=>i5 e.symm;subst e;rw[if_pos rfl,if_neg (c:=s.par=s.id) aa,if_pos rfl,Ra];have B:=m.cls s.par V;rw[u]at B;cases Z:h.at s.par with
   |none=>rw[Z]at B;cases B
   |some c=> rw[Z]at B;simp only[Zn,Option.some.injEq,Prod.mk.injEq]at B;simp[B.1,B.2.1,B.2.2.1,B.2.2.2]
  ·rw[if_neg e,if_neg (Ne.symm e)];by_cases d:i=s.id;·rw[if_pos d,if_pos d,d,Qje I (by omega) h3];rfl
   ·rw[if_neg d,if_neg d];exact m.cls i V
 ·exact Kr (ae.zero (by decide))
 ·rw[V7 (by rw[z,if_pos rfl]),J s.par (fun e=>i5 e.symm)];rcases hd with⟨e,d⟩|⟨q,u,_,d,_⟩;·show h.depth s.par=_;rw[d,e,Kr (I.zero (by decide))]
  ·show h.depth s.par=_;rw[d,V7 u]
 ·rw[V7 (by rw[z,if_pos rfl])];rcases hd with⟨e,d⟩|⟨q,u,_,d,_⟩;·show h.depth s.par≤8;omega
  ·show h.depth s.par≤8;omega
theorem Vp.aK(m:Vp h p)(ok:J8 h)(J:Qs dep N p){s:Yk}(K:h.aG s=0)(ha:p.aL s.id=false):
  ∃c q,p.at s.id=some c∧1≤s.id∧p.at c.par=some q∧Vp (h.change s) (p.aK s)∧∀i,Xk (h.change s) i=Xk h i:=by
 obtain⟨c0,d,hm⟩:=Gb K;obtain⟨i1,_,_,i4,i5,i6⟩:=ok.pos d;obtain⟨c,R,V,e2,e3,e4⟩:=m.fwd ok d;obtain⟨q,u⟩:=J.par R (by omega);have B:=Si K;have z:=Qit J i1 R ha u;have hu:∀k,(h.change s).aM k=h.aM k:=fun k=>by unfold Qm.change;rw[if_pos K];exact Ik h s k
 have aa:c.par≠s.id:=by rw[V];exact fun e=>i4 e.symm
 refine⟨c,q,R,i1,u,⟨?_,fun i hi=>?_⟩,fun i=>?_⟩
 ·obtain⟨r,U,E,I⟩:=m.root;rw[hu];by_cases e:0=c.par
  ·refine⟨{q with mem:=if s.aJ then(q.mem.drop s.id).add s.id s.share else q.mem.drop s.id},by rw[z,if_neg (by omega),if_pos e],?_,?_⟩;·rw[←e,U]at u;obtain rfl:=Zs u;exact E
   ·rw[←e,U]at u;obtain rfl:=Zs u;exact I
  ·exact⟨r,by rw[z,if_neg (by omega),if_neg e];exact U,E,I⟩
 ·rw[z,B,hu];by_cases e:i=s.id;·rw[if_pos e,if_pos e,d,e];simp only[Zn,Option.some.injEq,Prod.mk.injEq];exact⟨V,e2,rfl,e4⟩
  ·rw[if_neg e,if_neg e];split;·rename_i Z;have:=m.cls i hi;rw[Z,u]at this;rw[Z,←this];rfl
   ·exact m.cls i hi
 ·unfold Xk;rw[B];by_cases e:i=s.id;·rw[if_pos e,e,d];rfl
  ·rw[if_neg e]
theorem Qql{i:Int}{c:Vm}(d:c∈h)(k:c.sp.par=i):1≤(h.aM i).length:=by have:c.sp.id∈h.aM i:=Z3.2 ⟨c,List.mem_filter.2 ⟨d,by simpa using k⟩,rfl⟩;exact List.length_pos_of_mem this
theorem Vp.drop(m:Vp h p)(ok:J8 h)(ah:Qs dep N p){i:Int}(h0:h.aP i=0)(ha:p.aL i=false):
  ∃c q,p.at i=some c∧1≤i∧c.aM=0∧p.at c.par=some q∧1≤q.aM∧(∀j d,p.at j=some d→0<j→d.par≠i)∧Vp (h.drop i) (p.drop i)∧∀j,j≠i→Xk (h.drop i) j=Xk h j:=by
 obtain⟨c0,I,ac⟩:=Tz h0;obtain⟨i1,_,_,i4,i5,i6⟩:=ok.pos I;obtain⟨c,hc,e1,e2,e3,e4⟩:=m.fwd ok I;obtain⟨q,K,ag,U⟩:=m.par ok i6;rw[←e1]at K;have aa:c.aM=0:=by rw[e4,ac];rfl
 have E:=We h0;have B:=Iz i1 hc aa ha K;have R:∀j d,p.at j=some d→0<j→d.par≠i:=fun j d hd hj e=>by obtain⟨d0,Eu,k1,_⟩:=m.back (by omega) hd;exact Qby ac d0 (Qm.aE Eu).1 (k1.symm.trans e)
 have hu:∀k,(h.drop i).aM k=(h.aM k).filter fun y=>!decide (y=i):=fun k=>by unfold Qm.drop;rw[if_pos h0];exact Ph h i k
 have J:∀k,k≠c.par→(h.drop i).aM k=h.aM k:=fun k hk=>by rw[hu k];rw[←Ph];exact Ij ok.nodup I (by rw[←e1];exact hk)
 have ab:((h.drop i).aM c.par).length=q.aM-1:=by
  rw[hu,U,e1];have u:i∈h.aM c0.sp.par:=Z3.2 ⟨c0,List.mem_filter.2 ⟨i6,by simp⟩,i5⟩;have hs:=Gk ok.sorted c0.sp.par;generalize h.aM c0.sp.par=l at u hs;clear hu J B E;induction l with
  |nil=>cases u
  |cons y l ih=>
   rw[List.filter_cons];have Z:=List.pairwise_cons.1 hs;by_cases e:y=i
   ·have:l.filter (fun y=>!decide (y=i))=l:=List.filter_eq_self.2 fun z hz=>by
     have:=Z.1 z hz;have:z≠i:=by omega
     simpa using this
    simp[e,this]
   ·have hm:i∈l:=(Zu.1 u).resolve_left (fun e'=>e e'.symm);have:=ih hm Z.2;have hp:1≤l.length:=List.length_pos_of_mem hm;simp only[e,decide_false,Bool.not_false,if_true,Zm];omega
 have ae:1≤q.aM:=by rw[U];exact Qql i6 rfl
 refine⟨c,q,hc,i1,aa,K,ae,R,⟨?_,fun k hk=>?_⟩,fun j hj=>?_⟩
 ·obtain⟨r,hr,V,af⟩:=m.root;by_cases e:0=c.par
  ·refine⟨{q with mem:=q.mem.drop i,aM:=q.aM-1},by rw[B,if_neg (by omega),if_pos e],?_,?_⟩;·rw[←e,hr]at K;obtain rfl:=Zs K;exact V
   ·rw[e];exact ab.symm
  ·exact⟨r,by rw[B,if_neg (by omega),if_neg e];exact hr,V,by rw[J 0 e];exact af⟩
 ·rw[B,E];by_cases e:k=i;·rw[if_pos e,if_pos e];rfl
  ·rw[if_neg e,if_neg e];split
   ·rename_i e5;have:=m.cls k hk;rw[e5,K]at this;rw[e5,ab];cases hx:h.at c.par with
    |none=>rw[hx]at this;cases this
    |some x=> rw[hx]at this;simp only[Zn,Option.some.injEq,Prod.mk.injEq]at this;simp[this.1,this.2.1,this.2.2.1]
   ·rename_i e5;rw[J k e5];exact m.cls k hk
 ·unfold Xk;rw[E,if_neg hj]
end
section
variable{X:Type}{key:X→Int}{l:List X}
theorem Qeo{x y:X}(h:Hn key (key x) l=some y)(k:Int):Hn key k (Lg key x l)=if k=key x then some x else Hn key k l:=by
 unfold Hn Lg at*;induction l with
 |nil=>cases h
 |cons z l J=>
  rw[List.map_cons,List.find?_cons,List.find?_cons];rw[List.find?_cons]at h;by_cases d:key z=key x
  ·rw[if_pos d];by_cases e:k=key x;·simp[e]
   ·have E:¬key x=k:=fun c=>e c.symm;have K:¬key z=k:=fun c=>e (by rw[←c,d]);simp only[E,K,decide_false];rw[if_neg e];clear h J;induction l with
    |nil=>rfl
    |cons u l q=>
     rw[List.map_cons,List.find?_cons,List.find?_cons];by_cases B:key u=key x;·rw[if_pos B];have R:¬key u=k:=fun c=>e (by rw[←c,B]);simp only[E,R,decide_false];exact q
     ·rw[if_neg B];by_cases I:key u=k;·simp only[I,decide_true]
      ·simp only[I,decide_false];exact q
  ·rw[if_neg d];simp only[d,decide_false]at h;by_cases e:key z=k;·have:¬k=key x:=fun c=>d (by rw[e,c]);simp only[e,decide_true];rw[if_neg this]
   ·simp only[e,decide_false];exact J h
theorem Ix(x:X)(k:Int):Hn key k (l++[x])=(Hn key k l).or (if key x=k then some x else none):=by simp[Hn]
theorem Qgi(i k:Int):Hn key k (Kp key i l)=if k=i then none else Hn key k l:=by grind [Hn,Kp]
theorem Qqa(x:X):(Lg key x l).map key=l.map key:=by
 unfold Lg;rw[List.map_map];refine List.map_congr_left fun y _=>?_;simp only[Function.comp];split;·rename_i h;exact h.symm
 ·rfl
theorem Qm1{f:X→X}(c:∀x,key (f x)=key x)(k:Int):Hn key k (l.map f)=(Hn key k l).map f:=by
 unfold Hn;induction l with
 |nil=>rfl
 |cons z l d=>
  rw[List.map_cons,List.find?_cons,List.find?_cons,c];by_cases h:key z=k;·simp[h]
  ·simp only[h,decide_false];exact d
end
structure Br(N:Nat)(h:Qm)(p:Qe)(l:Qw):Prop where
 sp:∃c,h.at l.id=some c∧c.sp.leaf=true∧(l.pk:Int)=c.sp.pk∧(l.bt:Int)=c.sp.bt∧l.debt.isSome=!c.sp.real.none∧p.aL l.id=(c.sp.aJ&&decide (l.q≠[]))
 many:l.q.length≤l.pk
 held:Jn l.q≤l.bt
 good:∀x∈l.q,Ll x∧x.cls=l.id
 debt:∀d,l.debt=some d→d.got≤Xw∧d.run.l.length≤N∧d.aL=decide (l.q≠[])
def Qvc(aI:List Qw)(c:List Xu):Prop:=∀a i b,(a,i,b)∈c↔∃l d,Hn Qw.id i aI=some l∧l.debt=some d∧d.aL=true∧a=d.elig∧b=d.due
structure Vl(N:Nat)(s:Qf):Prop where
 most:1≤s.most∧s.most<65536
 tree:J8 s.tree
 pick:Qs (Xk s.tree) N s.pick
 pinv:Uz s.pick
 mt:Vp s.tree s.pick
 nd:(s.aI.map Qw.id).Nodup
 lv:∀i c,s.tree.at i=some c→c.sp.leaf=true→∃l,s.leaf i=some l
 ok:∀l∈s.aI,Br N s.tree s.pick l
 row:Qvc s.aI s.row
section
variable{N M:Nat}{s:Qf}
theorem Vl.at(h:Vl N s){i:Int}{l:Qw}(k:s.leaf i=some l):Br N s.tree s.pick l∧l.id=i∧l∈s.aI:=by obtain⟨c,d⟩:=Y3 (key:=Qw.id) k;exact⟨h.ok l c,d,c⟩
theorem Vl.leaf_of(h:Vl N s){l:Qw}(c:l∈s.aI):s.leaf l.id=some l:=Ls (key:=Qw.id) h.nd c rfl
theorem Br.more{h:Qm}{p:Qe}{l:Qw}(k:Br N h p l)(q:N≤M):Br M h p l:=⟨k.sp,k.many,k.held,k.good,fun d c=>⟨(k.debt d c).1,Zp (k.debt d c).2.1 q,(k.debt d c).2.2⟩⟩
theorem Vl.new{k:Int}(q:1≤k)(u:k<65536):Vl N (Qf.new k):=
 ⟨⟨q,u⟩,J8.nil,Qs.new rfl,Uz.new,Vp.new,List.nodup_nil,fun i c z=>(by cases z),nofun,fun a i b=>⟨fun h=>(by cases h),fun⟨l,d,h,_⟩=>(by cases h)⟩⟩
theorem Qnu:∀{l:List Int}{x:Int},(∀y∈l,0≤y)→x∈l→0<x→0<l.sum
 |y::l,x,h,k,h0=>by
  rw[List.sum_cons];have c:=h y List.mem_cons_self;have d:∀{l:List Int},(∀y∈l,0≤y)→0≤l.sum:=fun{l}h=>by
   induction l with
   |nil=>simp
   |cons z l q=>rw[List.sum_cons];have:=h z List.mem_cons_self;have:=q fun y c=>h y (Zr _ c);omega
  rcases Zu.1 k with rfl|k;·have:=d fun y c=>h y (Zr _ c);omega
  ·have:=Qnu (fun y c=>h y (Zr _ c)) k h0;omega
theorem Qhx{id x:Int}(d:x∈s.tree.aI id)(c:s.qOf x≠[]):0<s.many id:=by
 unfold Qf.many;refine Qnu (x:=((s.qOf x).length:Int)) (fun y k=>?_) (Z3.2 ⟨x,d,rfl⟩) ?_;·obtain⟨z,_,rfl⟩:=Z3.1 k;omega
 ·have:=List.length_pos_iff.2 c;omega
theorem Ov{i:Int}{l:Qw}(h:s.leaf i=some l):s.qOf i=l.q:=by unfold Qf.qOf;rw[h];rfl
theorem Vl.busy(h:Vl N s){L:Int}{x:Qx}(z:s.pick.at L=some x)(q:x.leaf=true)(ha:s.pick.aL L=true):∃c l,s.tree.at L=some c∧c.sp.leaf=true∧s.leaf L=some l∧l.q≠[]:=by
 have J:L≠0:=fun e=>by obtain⟨r,R,u,_⟩:=h.mt.root;rw[e,R]at z;obtain rfl:=Zs z;rw[u]at q;cases q
 obtain⟨c,I,_,B,_⟩:=h.mt.back J z;obtain⟨l,d⟩:=h.lv L c I (B.symm.trans q);obtain⟨k,U,_⟩:=h.at d;obtain⟨V,K,_,_,_,_,E⟩:=k.sp;refine⟨c,l,I,B.symm.trans q,d,?_⟩;rw[U,ha]at E;have:=E.symm;simp only[Zw,decide_eq_true_eq]at this;exact this.2
theorem Vl.asleep(h:Vl N s){i:Int}(J:¬0<s.many i):s.pick.aL i=false:=by
 cases ha:s.pick.aL i with
 |false=>rfl
 |true=> obtain⟨L,x,R,I,B,d⟩:=h.pinv.low i ha;obtain⟨c,l,E,q,z,K⟩:=h.busy R I d;rw[h.mt.path h.tree]at B;obtain⟨u,k⟩:=Qm.aE E;exact absurd (Qhx (Y8.2 ⟨c,u,k,q,.inr B⟩) (by rw[Ov z];exact K)) J
theorem Vl.add(h:Vl N s){c:Yk}(h0:s.aO c=0):Vl N (s.add c):=by
 have E:s.tree.aO c=0:=h0;obtain⟨q,hq,ae,aj,hn,i1,mt,d0,d1,d8,dd⟩:=h.mt.add h.tree E;have Z:=Qjv E;have aa:=(Ub E).2.2.1;have ai:=(Ub E).1;have af:Qs (Xk (s.tree.add c)) N (s.pick.put c):=h.pick.put i1 hn hq ae (by omega) d0 (fun x B ak=>dd x.id (Qm2 hn x B)) d1 d8;obtain⟨pv,ag⟩:=h.pinv.put h.pick i1 hn hq ae af;have e:s.add c={s with tree:=s.tree.add c,pick:=s.pick.put c,aI:=if c.leaf then s.aI++[⟨c.id,c.pk.toNat,c.bt.toNat,[],Xl c.real⟩]else s.aI}:=by unfold Qf.add;rw[if_pos h0]
 rw[e];have R:∀l∈s.aI,l.id≠c.id:=fun l u e=>by obtain⟨x,B,_⟩:=(h.ok l u).sp;rw[e,aa]at B;cases B
 have U:∀l∈s.aI,Br N (s.tree.add c) (s.pick.put c) l:=fun l u=>by have k:=h.ok l u;obtain⟨x,B,k2⟩:=k.sp;exact⟨⟨x,by rw[Z,if_neg (R l u)];exact B,by rw[ag];exact k2⟩,k.many,k.held,k.good,k.debt⟩
 have J:∀i,i≠c.id→Hn Qw.id i (if c.leaf then s.aI++[⟨c.id,c.pk.toNat,c.bt.toNat,[],Xl c.real⟩]else s.aI)=s.leaf i:=fun i hi=>by
  split;·rw[Ix,if_neg (fun e=>hi e.symm)];show(s.leaf i).or none=_;cases s.leaf i<;>rfl
  ·rfl
 refine⟨h.most,h.tree.add E,af,pv,mt,?_,fun i x B ab=>?_,fun l u=>?_,fun a i b=>?_⟩
 ·dsimp only;split
  ·rw[List.map_append];refine List.nodup_append.2 ⟨h.nd,by simp,fun a ha b hb=>?_⟩;obtain⟨l,u,rfl⟩:=Z3.1 ha;obtain rfl:b=c.id:=by simpa using hb
   exact R l u
  ·exact h.nd
 ·dsimp only at B;rw[Z]at B;by_cases V:i=c.id
  ·rw[if_pos V]at B;obtain rfl:=Zs B;dsimp only at ab;refine⟨⟨c.id,c.pk.toNat,c.bt.toNat,[],Xl c.real⟩,?_⟩;show Hn Qw.id i (if c.leaf then _ else _)=_;rw[if_pos ab,Ix,V,if_pos rfl];have:Hn Qw.id c.id s.aI=none:=by
    cases K:Hn Qw.id c.id s.aI with
    |none=>rfl
    |some l=>exact absurd (Y3 K).2 (R l (Y3 K).1)
   rw[this];rfl
  ·rw[if_neg V]at B;obtain⟨l,u⟩:=h.lv i x B ab;exact⟨l,(J i V).trans u⟩
 ·dsimp only at u⊢;split at u
  ·rename_i ac;rcases Zl.1 u with u|u;·exact U l u
   ·obtain rfl:l=⟨c.id,c.pk.toNat,c.bt.toNat,[],Xl c.real⟩:=by simpa using u
    obtain⟨b1,b2,b3,b4⟩:=Qam ai ac;refine⟨⟨⟨c,s.tree.depth c.par⟩,by rw[Z,if_pos rfl],ac,?_,?_,?_,?_⟩,Nat.zero_le _,?_,nofun,fun d hd=>?_⟩;·show((c.pk.toNat:Nat):Int)=c.pk;omega
    ·show((c.bt.toNat:Nat):Int)=c.bt;omega
    ·show(Xl c.real).isSome=!c.real.none;unfold Xl;by_cases hr:c.real.none=true;·rw[if_pos hr,hr];rfl
     ·rw[if_neg hr];have:c.real.none=false:=by simpa using hr
      rw[this];rfl
    ·show(s.pick.put c).aL c.id=_;rw[ag,Qe.awake_none hn];simp
    ·show Jn []≤((c.bt.toNat:Nat):Int);simp only[Jn];omega
    ·have z:Xl c.real=some d:=hd;unfold Xl at z;split at z;·cases z
     ·obtain rfl:=Zs z;exact⟨Nat.zero_le _,Nat.zero_le _,rfl⟩
  ·exact U l u
 ·dsimp only;rw[h.row];by_cases V:i=c.id
  ·subst V;have K:s.leaf c.id=none:=by
    cases K:s.leaf c.id with
    |none=>rfl
    |some l=>exact absurd (Y3 (key:=Qw.id) K).2 (R l (Y3 (key:=Qw.id) K).1)
   constructor;·rintro⟨l,d,u,_⟩;have I:s.leaf c.id=some l:=u;rw[K]at I;cases I
   ·rintro⟨l,d,u,hd,ha,_⟩;exfalso;split at u
    ·rw[Ix]at u;have ah:Hn Qw.id c.id s.aI=none:=K;rw[ah,if_pos rfl]at u;obtain rfl:=Zs u;have z:Xl c.real=some d:=hd;unfold Xl at z;split at z;·cases z
     ·obtain rfl:=Zs z;cases ha
    ·have I:s.leaf c.id=some l:=u;rw[K]at I;cases I
  ·rw[J i V];rfl
theorem L8{c:Yk}(d:s.aG c=0):¬0<s.many c.id∧s.tree.aG c=0:=by unfold Qf.aG at*;simp_all;omega
theorem Mh{h:Qm}{i:Int}{c:Vm}(d:h.at i=some c):i∈h.path 9 i:=by rw[Qm.path,d];exact List.mem_cons_self
theorem Vl.idle(h:Vl N s){i:Int}{l:Qw}(B:s.leaf i=some l)(E:¬0<s.many i):l.q=[]:=by
 obtain⟨k,J,_⟩:=h.at B;obtain⟨c,d,u,_⟩:=k.sp;rw[J]at d;obtain⟨z,q⟩:=Qm.aE d;cases I:l.q with
 |nil=>rfl
 |cons x t=>exact absurd (Qhx (Y8.2 ⟨c,z,q,u,.inr (Mh d)⟩) (by rw[Ov B,I];simp)) E
theorem Vl.change(h:Vl N s){c:Yk}(h0:s.aG c=0):Vl N (s.change c):=by
 obtain⟨hm,V⟩:=L8 h0;have ha:=h.asleep hm;obtain⟨x,q,hx,i1,hq,mt,dd⟩:=h.mt.aK h.tree h.pick V ha;have Z:=Si V;have ai:Qs (Xk (s.tree.change c)) N (s.pick.aK c):=(h.pick.aK i1 hx ha hq).redep (by rw[dd,h.pick.up.1]) (fun _ _ _=>dd _);obtain⟨pv,ag⟩:=h.pinv.aK h.pick i1 hx ha hq;have e:s.change c={s with tree:=s.tree.change c,pick:=s.pick.aK c,aI:=s.aI.map fun l=>if l.id=c.id then{l with debt:=Xl c.real}else l}:=by unfold Qf.change;rw[if_pos h0]
 rw[e];have hf:∀l:Qw,(if l.id=c.id then{l with debt:=Xl c.real}else l).id=l.id:=fun l=>by split<;>rfl
 have J:∀i,Hn Qw.id i (s.aI.map fun l=>if l.id=c.id then{l with debt:=Xl c.real}else l)=(s.leaf i).map fun l=>if l.id=c.id then{l with debt:=Xl c.real}else l:=fun i=>Qm1 hf i;refine⟨h.most,h.tree.change V,ai,pv,mt,?_,fun i y E af=>?_,fun l R=>?_,fun a i b=>?_⟩;·dsimp only;rw[List.map_map];have:(Qw.id∘fun l:Qw=>if l.id=c.id then{l with debt:=Xl c.real}else l)=Qw.id:=funext hf;rw[this];exact h.nd
 ·dsimp only at E;rw[Z]at E;have:∃y',s.tree.at i=some y'∧y'.sp.leaf=true:=by
   split at E
   ·rename_i B;cases hz:s.tree.at c.id with
    |none=>rw[hz]at E;cases E
    |some z=> rw[hz]at E;obtain rfl:=Zs E;exact⟨z,by rw[B];exact hz,af⟩
   ·exact⟨y,E,af⟩
  obtain⟨y',ah,I⟩:=this;obtain⟨l,R⟩:=h.lv i y' ah I;exact⟨_,by show Hn Qw.id i _=_;rw[J,R];rfl⟩
 ·obtain⟨U,ac,rfl⟩:=Z3.1 R;have k:=h.ok U ac;obtain⟨y,E,k1,k2,k3,k4,k5⟩:=k.sp;by_cases B:U.id=c.id
  ·rw[if_pos B];have ae:=h.leaf_of ac;rw[B]at ae;have K:=h.idle ae hm;rw[B]at E;refine⟨⟨⟨y.sp.aK c,y.d⟩,?_,k1,k2,k3,?_,?_⟩,k.many,k.held,k.good,fun d hd=>?_⟩;·show(s.tree.change c).at U.id=_;rw[Z,if_pos B,E];rfl
   ·show(Xl c.real).isSome=!c.real.none;unfold Xl;by_cases hr:c.real.none=true;·rw[if_pos hr,hr];rfl
    ·rw[if_neg hr];have:c.real.none=false:=by simpa using hr
     rw[this];rfl
   ·show(s.pick.aK c).aL U.id=_;rw[ag,B,ha];show _=(_&&decide (U.q≠[]));rw[K];simp
   ·have u:Xl c.real=some d:=hd;unfold Xl at u;split at u;·cases u
    ·obtain rfl:=Zs u;exact⟨Nat.zero_le _,Nat.zero_le _,by show false=decide (U.q≠[]);rw[K];rfl⟩
  ·rw[if_neg B];exact⟨⟨y,by show(s.tree.change c).at U.id=_;rw[Z,if_neg B];exact E,k1,k2,k3,k4,by show(s.pick.aK c).aL U.id=_;rw[ag];exact k5⟩,k.many,k.held,k.good,k.debt⟩
 ·dsimp only;rw[h.row,J];have el:Hn Qw.id i s.aI=s.leaf i:=rfl;rw[el];by_cases B:i=c.id
  ·cases R:s.leaf i with
   |none=>simp
   |some l=>
    obtain⟨k,ki,_⟩:=h.at R;have K:l.q=[]:=h.idle (by rw[←B];exact R) hm;constructor;·rintro⟨l',d,I,hd,aa,_⟩;obtain rfl:=Zs I;have:=(k.debt d hd).2.2;rw[aa,K]at this;simp at this
    ·rintro⟨l',d,I,hd,aa,_⟩;obtain rfl:=Zs I;have ab:(if l.id=c.id then{l with debt:=Xl c.real}else l).debt=some d:=hd;rw[if_pos (ki.trans B)]at ab;have u:Xl c.real=some d:=ab;unfold Xl at u;split at u;·cases u
     ·obtain rfl:=Zs u;cases aa
  ·cases R:s.leaf i with
   |none=>simp
   |some l=> have ki:=(h.at R).2.1;rw[Zn,if_neg (by rw[ki];exact B)]
theorem Ng{i:Int}(d:s.aP i=0):¬0<s.many i∧s.tree.aP i=0:=by
 unfold Qf.aP at d;unfold Qm.aP;split at d;·cases d
 ·rename_i k;split at d;·cases d
  ·rename_i q;split at d;·cases d
   ·rename_i u;refine⟨u,?_⟩;cases z:s.tree.at i with
    |none=>rw[z]at k;exact absurd rfl k
    |some c=> dsimp only;rw[if_neg q]
theorem Vl.drop(h:Vl N s){i:Int}(h0:s.aP i=0):Vl N (s.drop i):=by
 obtain⟨hm,B⟩:=Ng h0;have ha:=h.asleep hm;obtain⟨x,q,hx,i1,hu,hq,ag,hk,mt,dd⟩:=h.mt.drop h.tree h.pick B ha;have E:=We B;have K:=h.tree.drop B;have aa:=Iz i1 hx hu ha hq;have J:=h.pick.drop h.pinv i1 hx hu ha hq hk;have ae:Qs (Xk (s.tree.drop i)) N (s.pick.drop i):=J.redep (Kr (K.zero (by decide))) (fun y z _=>by
  have:=Qe.at_of J.nd z;rw[aa]at this;split at this;·cases this
  ·rename_i e;exact dd _ e)
 obtain⟨pv,af⟩:=h.pinv.drop h.pick i1 hx hu ha hq hk;have e:s.drop i={s with tree:=s.tree.drop i,pick:=s.pick.drop i,aI:=Kp Qw.id i s.aI}:=by unfold Qf.drop;rw[if_pos h0];rfl
 rw[e];have c:∀j,Hn Qw.id j (Kp Qw.id i s.aI)=if j=i then none else s.leaf j:=fun j=>Qgi i j;have I:∀l,l∈Kp Qw.id i s.aI→l∈s.aI∧l.id≠i:=fun l u=>by have:=List.mem_filter.1 u;exact⟨this.1,by simpa using this.2⟩
 refine⟨h.most,K,ae,pv,mt,h.nd.sublist (List.filter_sublist.map _),fun j y z ac=>?_,fun l u=>?_,fun a j b=>?_⟩
 ·dsimp only at z;rw[E]at z;split at z;·cases z
  ·rename_i R;obtain⟨l,u⟩:=h.lv j y z ac;exact⟨l,by show Hn Qw.id j _=_;rw[c,if_neg R];exact u⟩
 ·obtain⟨V,Z⟩:=I l u;have k:=h.ok l V;obtain⟨y,z,k2⟩:=k.sp;exact⟨⟨y,by show(s.tree.drop i).at l.id=_;rw[E,if_neg Z];exact z,by show _∧_∧_∧_∧(s.pick.drop i).aL l.id=_;rw[af];exact k2⟩,k.many,k.held,k.good,k.debt⟩
 ·dsimp only;rw[h.row,c];have el:Hn Qw.id j s.aI=s.leaf j:=rfl;rw[el];split;·rename_i R;refine⟨fun⟨l,d,u,hd,U,_⟩=>?_,fun⟨l,d,u,_⟩=>(by cases u)⟩;exfalso;obtain⟨k,ki,_⟩:=h.at u;have ab:l.q=[]:=h.idle (by rw[←R];exact u) hm;have:=(k.debt d hd).2.2;rw[U,ab]at this;simp at this
  ·exact Iff.rfl
theorem If{c:List Xu}{i:Int}{d:Ju}{a:Nat}{j:Int}{b:Nat}:(a,j,b)∈Hj c i d↔if j=i then d.aL=true∧a=d.elig∧b=d.due else(a,j,b)∈c:=by unfold Hj Vf Xa;grind [Lb]
theorem Vl.upd(h:Vl N s)(U:N≤M){i:Int}{l l':Qw}{row':List Xu}{p':Qe}(hl:s.leaf i=some l)(q:l'.id=i)(ag:l'.pk=l.pk)(aa:l'.bt=l.bt)(ab:l'.debt.isSome=l.debt.isSome)
  (h1:l'.q.length≤l'.pk)(h2:Jn l'.q≤l'.bt)(h3:∀x∈l'.q,Ll x∧x.cls=i)(h4:∀d,l'.debt=some d→d.got≤Xw∧d.run.l.length≤M∧d.aL=decide (l'.q≠[]))
  (ae:Qs (Xk s.tree) M p') (af:Uz p') (ac:Vp s.tree p') (Z:∀j x,s.pick.at j=some x→x.leaf=true→j≠i→p'.aL j=s.pick.aL j)
  (V:∀c,s.tree.at i=some c→p'.aL i=(c.sp.aJ&&decide (l'.q≠[])))
  (E:∀a j b,(a,j,b)∈row'↔if j=i then∃d,l'.debt=some d∧d.aL=true∧a=d.elig∧b=d.due else(a,j,b)∈s.row):
  Vl M {s with aI:=Lg Qw.id l' s.aI,row:=row',pick:=p'}:=by
 have u:∀j,Hn Qw.id j (Lg Qw.id l' s.aI)=if j=i then some l' else s.leaf j:=fun j=>by have:=Qeo (key:=Qw.id) (x:=l') (y:=l) (l:=s.aI) (by rw[q];exact hl) j;rw[this,q];rfl
 obtain⟨k,ki,_⟩:=h.at hl;obtain⟨c,hc,c1,c2,c3,c4,c5⟩:=k.sp;rw[ki]at hc;refine⟨h.most,h.tree,ae,af,ac,by show(List.map Qw.id (Lg Qw.id l' s.aI)).Nodup;rw[Qqa];exact h.nd,fun j y I ah=>?_,fun y I=>?_,fun a j b=>?_⟩
 ·by_cases e:j=i;·exact⟨l',by show Hn Qw.id j _=_;rw[u,if_pos e]⟩
  ·obtain⟨z,R⟩:=h.lv j y I ah;exact⟨z,by show Hn Qw.id j _=_;rw[u,if_neg e];exact R⟩
 ·rcases Qao (x:=l) h.nd I with rfl|⟨I,B⟩;·refine⟨⟨c,by show s.tree.at y.id=_;rw[q];exact hc,c1,by rw[ag];exact c2,by rw[aa];exact c3,ab.trans c4,by show p'.aL y.id=_;rw[q];exact V c hc⟩,h1,h2,fun x K=>⟨(h3 x K).1,(h3 x K).2.trans q.symm⟩,h4⟩
  ·have J:=(h.ok y I).more U;rw[q]at B;obtain⟨z,R,z1,z2⟩:=J.sp;obtain⟨x,K,_,e2,_⟩:=h.mt.fwd h.tree R;exact⟨⟨z,R,z1,by show _∧_∧_∧p'.aL y.id=_;rw[Z y.id x K (e2.trans z1) B];exact z2⟩,J.many,J.held,J.good,J.debt⟩
 ·show(a,j,b)∈row'↔_;rw[E];show _↔∃l d,Hn Qw.id j (Lg Qw.id l' s.aI)=some l∧_;rw[u];by_cases e:j=i;·rw[if_pos e,if_pos e];exact⟨fun⟨d,h⟩=>⟨l',d,rfl,h⟩,fun⟨l0,d,e0,h⟩=>by obtain rfl:=Zs e0;exact⟨d,h⟩⟩
  ·rw[if_neg e,if_neg e];exact h.row a j b
end
section
variable{N M:Nat}{s:Qf}
theorem Qjb(l:List Jr)(p:Jr):Jn (l++[p])=Jn l+p.len:=by rw[Tk];simp[Jn]
theorem Qlk{n c:Int}(h:Eo n c=0):1≤n∧n≤c∧c≤65535:=by grind [Eo]
theorem Mk{p:Jr}(d:s.aQ p=0):∃c l,s.tree.at p.cls=some c∧c.sp.leaf=true∧(1≤p.len∧p.len≤s.most∧s.most≤65535)∧s.leaf p.cls=some l∧¬(l.q.length=l.pk∨(l.bt:Int)-Jn l.q<p.len):=by
 unfold Qf.aQ at d;cases q:s.tree.at p.cls with
 |none=>rw[q]at d;cases d
 |some c=>
  rw[q]at d;dsimp only at d;split at d;·cases d
  ·rename_i z;split at d;·rename_i k;exact absurd d k
   ·rename_i k;cases u:s.leaf p.cls with
    |none=>rw[u]at d;cases d
    |some l=>
     rw[u]at d;dsimp only at d;split at d;·cases d
     ·rename_i B;exact⟨c,l,rfl,by simpa using z,Qlk (by simpa using k),rfl,B⟩
theorem Qmg(l:Qw):s.aR l={s with aI:=Lg Qw.id l s.aI}:=rfl
theorem Rm(l:Qw)(f:Ju→Ju):s.owe l f={s with aI:=Lg Qw.id {l with debt:=l.debt.map f} s.aI,row:=match l.debt with
  |none=>s.row
  |some d=>Hj s.row l.id (f d)}:=by
 obtain⟨i,k,c,q,debt⟩:=l;unfold Qf.owe;cases debt with
 |none=>rfl
 |some d=>rfl
theorem Ct{p:Jr}{now:Nat}{l:Qw}(c:s.aQ p=0)(k:s.leaf p.cls=some l):
  s.push p now=if l.q≠[]then s.aR {l with q:=l.q++[p]}else{s.owe {l with q:=l.q++[p]} (fun d=>d.wake now p.len)with pick:=s.pick.wake p.cls now}:=by unfold Qf.push;grind [Rm]
theorem Vl.offpath(h:Vl N s){i j:Int}{x:Qx}(B:s.pick.at j=some x)(z:x.leaf=true)(k:j≠i):j∉s.pick.path 9 i:=fun u=>by obtain⟨c,q,d⟩:=Mi h.pick h.pinv.inn u k;rw[B]at q;obtain rfl:=Zs q;rw[z]at d;cases d
theorem Qgq{a b:Bool}(h:a=true↔b=true):a=b:=by cases a<;>cases b<;>simp_all
theorem Vl.push(h:Vl N s){p:Jr}(now:Nat)(h0:s.aQ p=0):Vl (N+16) (s.push p now):=by
 obtain⟨c,l,V,af,Z,J,aj⟩:=Mk h0;obtain⟨k,ki,_⟩:=h.at J;obtain⟨c',I,_,c2,c3,c4,c5⟩:=k.sp;rw[ki]at I c5;rw[V]at I;obtain rfl:=Zs I;have ai:=k.many;have ah:=k.held;have h1:(l.q++[p]).length≤l.pk:=by simp;omega
 have h2:Jn (l.q++[p])≤l.bt:=by rw[Qjb];omega
 have h3:∀x∈l.q++[p],Ll x∧x.cls=p.cls:=fun x B=>by
  rcases Zl.1 B with B|B;·have:=k.good x B;exact⟨this.1,this.2.trans ki⟩
  ·obtain rfl:x=p:=by simpa using B
   exact⟨⟨Z.1,by omega⟩,rfl⟩
 rw[Ct h0 J];by_cases hq:l.q=[]
 ·rw[if_neg (by simpa using hq),Rm];have aa:=h.pick.wake p.cls now;obtain⟨pv,pm,ae⟩:=h.pinv.wake h.pick p.cls now;have am:=h.tree.pos V;obtain⟨x,B,_,x2,x3,_⟩:=h.mt.fwd h.tree V;refine Vl.upd (l:=l) (l':={l with q:=l.q++[p],debt:=l.debt.map fun d=>d.wake now p.len}) h (by omega) J ki rfl rfl (by simp) h1 h2 h3 (fun d z=>?_) aa.1 pv (h.mt.same aa.2 pm) (fun j y E ak hj=>?_) (fun y E=>?_) (fun a j b=>?_)
  ·dsimp only at z;cases Eu:l.debt with
   |none=>rw[Eu]at z;cases z
   |some d0=>
    rw[Eu]at z;have ag:d0.wake now p.len=d:=Zs z;subst ag;obtain⟨g1,g2,R⟩:=k.debt d0 Eu;rw[hq]at R;have R:d0.aL=false:=by simpa using R
    unfold Ju.wake;rw[if_neg (by simp[R])];refine⟨g1,?_,by simp⟩;dsimp only;rw[Gj];omega
  ·refine Qgq ((ae j).trans ⟨fun U=>U.elim id fun hh=>absurd hh.1 ?_,.inl⟩);exact h.offpath E ak hj
  ·rw[V]at E;obtain rfl:=Zs E;have e0:s.pick.aL p.cls=false:=by rw[c5,hq];simp
   have:decide (l.q++[p]≠[])=true:=by simp
   dsimp only;rw[this,Bool.and_true];refine Qgq ((ae p.cls).trans ⟨fun U=>?_,fun hs=>.inr ⟨Sv B (by omega),⟨x,B,x3.trans hs⟩,x,B,by omega,x2.trans af,x3.trans hs⟩⟩);rcases U with U|⟨_,⟨y,E,al⟩,_⟩;·rw[e0]at U;cases U
   ·rw[B]at E;obtain rfl:=Zs E;exact x3.symm.trans al
  ·dsimp only;cases Eu:l.debt with
   |none=>
    dsimp only;rw[h.row];by_cases e:j=p.cls;·rw[if_pos e,e];refine⟨fun⟨l0,d,K,z,_⟩=>?_,fun⟨d,z,_⟩=>(by cases z)⟩;have u:s.leaf p.cls=some l0:=K;rw[J]at u;obtain rfl:=Zs u;rw[Eu]at z;cases z
    ·rw[if_neg e]
   |some d0=>
    dsimp only;rw[If];rw[ki];by_cases e:j=p.cls;·rw[if_pos e,if_pos e];simp
    ·rw[if_neg e,if_neg e]
 ·rw[if_pos (by simpa using hq),Qmg];have ab:decide (l.q++[p]≠[])=true:=by simp
  have ac:decide (l.q≠[])=true:=by simpa using hq
  refine Vl.upd (l:=l) (l':={l with q:=l.q++[p]}) (row':=s.row) (p':=s.pick) h (by omega) J ki rfl rfl rfl h1 h2 h3 (fun d z=>?_) (h.pick.more (by omega)) h.pinv h.mt (fun _ _ _ _ _=>rfl) (fun y E=>?_) (fun a j b=>?_);·obtain⟨g1,g2,R⟩:=k.debt d z;exact⟨g1,by omega,by dsimp only;rw[R,ab,ac]⟩
  ·rw[V]at E;obtain rfl:=Zs E;dsimp only;rw[c5,ab,ac]
  ·rw[h.row];by_cases e:j=p.cls;·rw[if_pos e,e];refine⟨fun⟨l0,d,K,z⟩=>?_,fun⟨d,z⟩=>⟨l,d,J,z⟩⟩;have u:s.leaf p.cls=some l0:=K;rw[J]at u;obtain rfl:=Zs u;exact⟨d,z⟩
   ·rw[if_neg e]
theorem Qax{p:Qe}{dep:Int→Nat}(K:Qs dep N p)(B:Uz p)(now:Nat):∀(n:Nat)(i j:Int),p.next now n i=some j→(∃c,p.at j=some c∧c.leaf=true)∧(j=i∨p.aL j=true)
 |0,i,j,h=>by rw[Qe.next]at h;cases h
 |n+1,i,j,h=>by
  rw[Qe.next]at h;cases d:p.at i with
  |none=>rw[d]at h;cases h
  |some c=>
   rw[d]at h;dsimp only at h;by_cases z:c.leaf=true;·rw[if_pos z]at h;obtain rfl:=Zs h;exact⟨⟨c,d,z⟩,.inl rfl⟩
   ·rw[if_neg z]at h;cases u:Xf now c.tree with
    |none=>rw[u]at h;cases h
    |some e=>
     rw[u]at h;dsimp only at h;obtain⟨a,k,b⟩:=e;have J:(a,k,b)∈c.tree:=List.mem_of_find?_eq_some u;have I:=((B.ent k i c d a b).1 J).2.1;obtain⟨E,q⟩:=Qax K B now n k j h;refine⟨E,.inr ?_⟩;rcases q with rfl|q;·exact I
     ·exact q
theorem Sq{l:List Xu}{x:Nat×Int}(h:low l=some x):∃a,(a,x.2,x.1)∈l:=by obtain⟨⟨a,i,b⟩,c,e⟩:=Qe9 h;exact⟨a,by rw[e];exact c⟩
theorem Vl.who(h:Vl N s){now:Nat}{id:Int}{k:Nat}(q:s.who now=some (id,k)):
  ∃l,s.leaf id=some l∧l.q≠[]∧(k=1∨k=2):=by
 unfold Qf.who at q;cases ha:Jt now s.row with
 |some x=>
  rw[ha]at q;obtain⟨B,E⟩:=Prod.mk.inj (Zs q);unfold Jt at ha;obtain⟨a,hm⟩:=Sq ha;obtain⟨l,d,U,hd,R,_⟩:=(h.row a x.2 x.1).1 (List.mem_filter.1 hm).1;have z:s.leaf id=some l:=by rw[←B];exact U
  refine⟨l,z,?_,.inl E.symm⟩;have:=((h.at z).1.debt d hd).2.2;rw[R]at this;exact of_decide_eq_true this.symm
 |none=>
  rw[ha]at q;dsimp only at q;cases V:s.pick.next now 10 0 with
  |none=>rw[V]at q;cases q
  |some j=>
   rw[V]at q;obtain⟨B,E⟩:=Prod.mk.inj (Zs q);obtain⟨⟨c,K,u⟩,I⟩:=Qax h.pick h.pinv now 10 0 j V;have J:s.pick.aL j=true:=by
    rcases I with rfl|I;·obtain⟨r,hr,Z,_⟩:=h.mt.root;rw[hr]at K;obtain rfl:=Zs K;rw[Z]at u;cases u
    ·exact I
   obtain⟨_,l,_,_,U,hq⟩:=h.busy K u J;exact⟨l,by rw[←B];exact U,hq,.inr E.symm⟩
theorem Fd{id:Int}{rule:Nat}{l:Qw}(c:s.leaf id=some l):
  s.take id rule={s.owe {l with q:=l.q.tail} (fun d=>d.serve rule (l.q.headD Jr.zero).len (l.q.tail.headD Jr.zero).len)with pick:=s.pick.sent id ((l.q.headD Jr.zero).len*256).toNat (decide (l.q.tail≠[]))}:=by
 unfold Qf.take;rw[c];dsimp only;rw[Rm]
theorem Vl.take(h:Vl N s){id:Int}(rule:Nat){l:Qw}(hl:s.leaf id=some l)(hq:l.q≠[]):Vl (N+16) (s.take id rule):=by
 obtain⟨k,ki,_⟩:=h.at hl;obtain⟨c,hc,ac,c2,c3,c4,c5⟩:=k.sp;rw[ki]at hc c5;rw[Fd hl,Rm];obtain⟨x,t,E⟩:∃x t,l.q=x::t:=by
  cases ag:l.q with
  |nil=>exact absurd ag hq
  |cons x t=>exact⟨x,t,rfl⟩
 have u:=k.good;rw[E]at u;have K:=k.many;have J:=k.held;rw[E]at K J;simp only[Zm,Jn]at K J;have aj:=(u x (by simp)).1.1;have aa:=h.pick.sent id ((l.q.headD Jr.zero).len*256).toNat (decide (l.q.tail≠[]));obtain⟨pv,pm,ai,B,Z⟩:=h.pinv.sent h.pick id ((l.q.headD Jr.zero).len*256).toNat (decide (l.q.tail≠[]));have ab:decide (l.q≠[])=true:=by simpa using hq
 have U:∀I,l.debt=some I→(I.serve rule (l.q.headD Jr.zero).len (l.q.tail.headD Jr.zero).len).got≤Xw∧(I.serve rule (l.q.headD Jr.zero).len (l.q.tail.headD Jr.zero).len).run.l.length≤N+16∧(I.serve rule (l.q.headD Jr.zero).len (l.q.tail.headD Jr.zero).len).aL=decide (l.q.tail≠[]):=fun I Eu=>by
  obtain⟨g1,g2,g3⟩:=k.debt I Eu;rw[ab]at g3;unfold Ju.serve;rw[if_neg (by simp[g3])];refine⟨?_,by show I.run.l.length≤_;omega,?_⟩
  ·dsimp only;split;·exact Nat.min_le_right _ _
   ·exact g1
  ·show decide (1≤(l.q.tail.headD Jr.zero).len)=_;rw[E];cases t with
   |nil=>rfl
   |cons y t=> have:=(u y (by simp)).1.1;simp[this]
 refine Vl.upd (l:=l) (l':={l with q:=l.q.tail,debt:=l.debt.map fun d=>d.serve rule (l.q.headD Jr.zero).len (l.q.tail.headD Jr.zero).len}) h (by omega) hl ki rfl rfl (by simp) (by simp[E];omega) (by simp[E];omega)
  (fun y hy=>by
   have:=k.good y (by rw[E]at hy⊢;exact Zr _ hy);exact⟨this.1,this.2.trans ki⟩) (fun d R=>?_) aa.1 pv (h.mt.same aa.2 pm) (fun j y hy ah hj=>B j (.inl (h.offpath hy ah hj))) (fun y hy=>?_) (fun a j b=>?_)
 ·dsimp only at R;cases Eu:l.debt with
  |none=>rw[Eu]at R;cases R
  |some I=> rw[Eu]at R;have ae:I.serve rule (l.q.headD Jr.zero).len (l.q.tail.headD Jr.zero).len=d:=Zs R;subst ae;exact U I Eu
 ·rw[hc]at hy;obtain rfl:=Zs hy;obtain⟨z,hz,_,z2,_⟩:=h.mt.fwd h.tree hc;dsimp only;cases ht:decide (l.q.tail≠[])with
  |true=> rw[ht]at B;rw[B id (.inr (.inl rfl)),c5,ab]
  |false=> rw[ht]at Z;rw[Z rfl ⟨z,hz,z2.trans ac⟩,Bool.and_false]
 ·dsimp only;cases Eu:l.debt with
  |none=>
   dsimp only;rw[h.row];by_cases e:j=id;·rw[if_pos e,e];refine⟨fun⟨l0,d,af,R,_⟩=>?_,fun⟨d,R,_⟩=>(by cases R)⟩;have V:s.leaf id=some l0:=af;rw[hl]at V;obtain rfl:=Zs V;rw[Eu]at R;cases R
   ·rw[if_neg e]
  |some I=>
   dsimp only;rw[If];rw[ki];by_cases e:j=id;·rw[if_pos e,if_pos e];simp
   ·rw[if_neg e,if_neg e]
end
def RT(p:Qe):Prop:=∀c∈p,Xd c.tree
section
variable{p:Qe}
theorem Ie{id:Int}{l:List Xu}(h:Xd l):Xd (Xa id l):=h.sublist List.filter_sublist
theorem RT.at(h:RT p){i:Int}{c:Qx}(d:p.at i=some c):Xd c.tree:=h c (Qe.aE d).1
theorem RT.set(h:RT p){x:Qx}(k:Xd x.tree):RT (p.set x):=fun c d=>by
 rcases mem_set d with rfl|⟨d,_⟩;·exact k
 ·exact h c d
theorem RT.fam(h:RT p)(i:Int)(f:Jc→Jc):RT (p.fam i f):=by
 unfold Qe.fam;split;·exact h
 ·split;·exact h
  ·rename_i q c;exact h.set (show Xd q.tree from h.at c)
theorem RT.note(h:RT p)(i:Int):RT (p.note i):=by
 unfold Qe.note;split;·exact h
 ·split;·exact h
  ·rename_i q c;refine h.set ?_;dsimp only;split;·exact Th (show Xd q.tree from h.at c)
   ·exact Ie (show Xd q.tree from h.at c)
theorem RT.up1(h:RT p)(now:Nat)(i:Int):RT (p.up1 now i):=by
 unfold Qe.up1;split;·exact h
 ·rename_i c d;split;·exact h
  ·exact(h.fam i _).set (show Xd c.tree from h.at d)
theorem RT.aV(h:RT p)(g:Nat)(i:Int):RT (p.aV g i):=by
 unfold Qe.aV;split;·exact h
 ·rename_i c d;exact(h.set (x:={c with total:=c.total+min g (Xw-c.total)}) (show Xd c.tree from h.at d)).fam i _
theorem RT.aW(h:RT p)(sl:Bool)(i:Int):RT (p.aW sl i):=by
 unfold Qe.aW;split;·exact h
 ·split;·exact(h.fam i _).note i
  ·exact h.note i
theorem RT.fold{c:Qe→Int→Qe}(d:∀p i,RT p→RT (c p i)):∀(l:List Int)(p:Qe),RT p→RT (l.foldl c p)
 |[],_,h=>h
 |i::l,p,h=>RT.fold d l _ (d p i h)
theorem RT.wake(h:RT p)(i:Int)(now:Nat):RT (p.wake i now):=by unfold Qe.wake;grind [RT.fold,Qs.note,RT.note,Qs.up1,RT.up1]
theorem RT.sent(h:RT p)(i:Int)(g:Nat)(c:Bool):RT (p.sent i g c):=by unfold Qe.sent;grind [RT.fold,Qs.aW,RT.aW,Qs.aV,RT.aV]
theorem RT.put(h:RT p)(s:Yk):RT (p.put s):=by
 unfold Qe.put;split;·exact h
 ·rename_i q k;split;·exact h
  ·refine RT.set (fun c d=>?_) (show Xd q.tree from h.at k);rcases Zl.1 d with d|d;·exact h c d
   ·obtain rfl:=List.mem_singleton.1 d;exact List.Pairwise.nil
theorem RT.drop(h:RT p)(i:Int):RT (p.drop i):=by
 unfold Qe.drop;split;·exact h
 ·split;·exact h
  ·split;·exact h
   ·rename_i q k;exact fun c d=>(h.set (x:={q with mem:=q.mem.drop i,aM:=q.aM-1}) (show Xd q.tree from h.at k)) c (List.mem_filter.1 d).1
theorem RT.aK(h:RT p)(s:Yk):RT (p.aK s):=by
 unfold Qe.aK;split;·exact h
 ·split;·exact h
  ·intro c d;obtain⟨x,k,rfl⟩:=Z3.1 d;have:=(h.fam s.id fun f=>if s.aJ then(f.drop s.id).add s.id s.share else f.drop s.id) x k;split;·exact this
   ·exact this
theorem RT.new:RT Qe.new:=fun c d=>by obtain rfl:=List.mem_singleton.1 d;exact List.Pairwise.nil
end
structure SR(s:Qf):Prop where
 row:Xd s.row
 pick:RT s.pick
 due:∀l∈s.aI,∀d,l.debt=some d→d.elig≤Qq∧d.due≤Qq
theorem Qm5(r:Xh)(y:Nat):r.elig y≤Qq:=by unfold Xh.elig;grind [Pb]
theorem Az{c:Jy}{d:Ju}(h:Xl c=some d):d.elig≤Qq∧d.due≤Qq:=by
 unfold Xl at h;split at h;·cases h
 ·obtain rfl:=Zs h;exact⟨Nat.zero_le _,Nat.zero_le _⟩
theorem Qs3{d:Ju}(h:d.elig≤Qq∧d.due≤Qq)(now:Nat)(c:Int):(d.wake now c).elig≤Qq∧(d.wake now c).due≤Qq:=by unfold Ju.wake;grind [Qm5,reach_le]
theorem Qp8{d:Ju}(h:d.elig≤Qq∧d.due≤Qq)(c:Nat)(k q:Int):(d.serve c k q).elig≤Qq∧(d.serve c k q).due≤Qq:=by unfold Ju.serve;grind [reach_le,Qm5]
section
variable{s:Qf}
theorem SR.new(c:Int):SR (.new c):=⟨List.Pairwise.nil,RT.new,nofun⟩
theorem SR.add(h:SR s)(c:Yk):SR (s.add c):=by
 unfold Qf.add;split
 ·refine⟨h.row,h.pick.put c,fun l k d q=>?_⟩;dsimp only at k;split at k
  ·rcases Zl.1 k with k|k;·exact h.due l k d q
   ·obtain rfl:=List.mem_singleton.1 k;exact Az q
  ·exact h.due l k d q
 ·exact h
theorem SR.change(h:SR s)(c:Yk):SR (s.change c):=by
 unfold Qf.change;split
 ·refine⟨h.row,h.pick.aK c,fun l q d k=>?_⟩;obtain⟨x,u,rfl⟩:=Z3.1 q;split at k;·exact Az k
  ·exact h.due x u d k
 ·exact h
theorem SR.drop(h:SR s)(i:Int):SR (s.drop i):=by
 unfold Qf.drop;split;·exact⟨h.row,h.pick.drop i,fun l c=>h.due l (List.mem_filter.1 c).1⟩
 ·exact h
theorem Qiu{c:List Xu}(h:Xd c)(i:Int)(d:Ju):Xd (Hj c i d):=by
 unfold Hj;split;·exact Th h
 ·exact Ie h
theorem SR.aR(h:SR s){l:Qw}(k:∀d,l.debt=some d→d.elig≤Qq∧d.due≤Qq):SR (s.aR l):=by
 refine⟨h.row,h.pick,fun y u d c=>?_⟩;obtain⟨x,q,rfl⟩:=Z3.1 u;split at c;·exact k d c
 ·exact h.due x q d c
theorem SR.owe(h:SR s)(l:Qw)(f:Ju→Ju)(k:∀d,l.debt=some d→(f d).elig≤Qq∧(f d).due≤Qq):SR (s.owe l f):=by
 unfold Qf.owe;split;·rename_i q;exact h.aR fun d c=>by rw[q]at c;cases c
 ·rename_i d c;have:=h.aR (l:={l with debt:=some (f d)}) fun u e=>by obtain rfl:=Zs e;exact k d c
  exact⟨Qiu h.row _ _,h.pick,this.due⟩
theorem I8{i:Int}{l:Qw}(c:s.leaf i=some l):l∈s.aI:=List.mem_of_find?_eq_some c
theorem SR.push(h:SR s)(p:Jr)(now:Nat):SR (s.push p now):=by
 unfold Qf.push;split
 ·split;·exact h
  ·rename_i l k;have c:=h.due l (I8 k);dsimp only;split;·exact h.aR c
   ·have:=h.owe {l with q:=l.q++[p]} (fun d=>d.wake now p.len) fun d e=>Qs3 (c d e) _ _;exact⟨this.row,this.pick.wake p.cls now,this.due⟩
 ·exact h
theorem SR.take(h:SR s)(i:Int)(rule:Nat):SR (s.take i rule):=by
 unfold Qf.take;split;·exact h
 ·rename_i l k;have c:=h.due l (I8 k);have:=h.owe {l with q:=l.q.tail} (fun d=>d.serve rule (l.q.headD Jr.zero).len (l.q.tail.headD Jr.zero).len) fun d e=>Qp8 (c d e) _ _ _;exact⟨this.row,this.pick.sent i _ _,this.due⟩
end
structure Xp(N:Nat)(s:Qf):Prop extends Vl N s where
 sr:SR s
section
variable{N M:Nat}{s:Qf}
theorem Xp.new{c:Int}(d:1≤c)(k:c<65536):Xp N (Qf.new c):=⟨Vl.new d k,SR.new c⟩
theorem Xp.add(h:Xp N s){c:Yk}(d:s.aO c=0):Xp N (s.add c):=⟨h.toVl.add d,h.sr.add c⟩
theorem Xp.change(h:Xp N s){c:Yk}(d:s.aG c=0):Xp N (s.change c):=⟨h.toVl.change d,h.sr.change c⟩
theorem Xp.drop(h:Xp N s){i:Int}(c:s.aP i=0):Xp N (s.drop i):=⟨h.toVl.drop c,h.sr.drop i⟩
theorem Xp.push(h:Xp N s){p:Jr}(now:Nat)(c:s.aQ p=0):Xp (N+16) (s.push p now):=⟨h.toVl.push now c,h.sr.push p now⟩
theorem Xp.take(h:Xp N s){id:Int}(rule:Nat){l:Qw}(c:s.leaf id=some l)(d:l.q≠[]):Xp (N+16) (s.take id rule):=⟨h.toVl.take rule c d,h.sr.take id rule⟩
end
section
variable{h:Qm}
theorem Oq(z:J8 h){i:Int}{c:Vm}(d:h.at i=some c):(c.sp.par=0∧Xk h i=1)∨∃q,h.at c.sp.par=some q∧q.sp.leaf=false∧Xk h i=Xk h c.sp.par+1:=by rw[V7 d];refine(z.par c (Qm.aE d).1).imp id fun⟨q,k,u,e⟩=>⟨q,k,u,?_⟩;rw[V7 k];exact e
theorem Qhi(u:J8 h):∀{n:Nat}{i j:Int},j∈h.path n i→Xk h j≤Xk h i∧∃c,h.at j=some c
 |0,i,j,d=>by rw[Qm.path]at d;cases d
 |n+1,i,j,d=>by
  rw[Qm.path]at d;cases k:h.at i with
  |none=>rw[k]at d;cases d
  |some c=>
   rw[k]at d;dsimp only at d;rcases Zu.1 d with rfl|d;·exact⟨Zv _,c,k⟩
   ·obtain⟨B,z⟩:=Qhi u d;refine⟨?_,z⟩;rcases Oq u k with⟨e,_⟩|⟨q,_,_,e⟩;·have:Xk h c.sp.par=0:=Kr (u.zero (by omega));omega
    ·omega
theorem Fx(d:J8 h):∀(n:Nat)(i:Int),(h.path n i).Pairwise fun a b=>Xk h b<Xk h a
 |0,i=>by rw[Qm.path];exact List.Pairwise.nil
 |n+1,i=>by
  rw[Qm.path];cases k:h.at i with
  |none=>exact List.Pairwise.nil
  |some c=>
   dsimp only;refine List.pairwise_cons.2 ⟨fun j u=>?_,Fx d n _⟩;have B:=(Qhi d u).1;rcases Oq d k with⟨e,z⟩|⟨q,_,_,e⟩;·have:Xk h c.sp.par=0:=Kr (d.zero (by omega));omega
   ·omega
theorem Qkk(J:J8 h){n:Nat}{i a b:Int}(ha:a∈h.path n i)(q:b∈h.path n i)(e:Xk h a=Xk h b):a=b:=by
 have B:=Fx J n i;generalize h.path n i=l at ha q B;induction l with
 |nil=>cases ha
 |cons x l I=>
  obtain⟨z,E⟩:=List.pairwise_cons.1 B;rcases Zu.1 ha with u|d
  ·rcases Zu.1 q with k|c;·exact u.trans k.symm
   ·have:=z b c;rw[←u]at this;omega
  ·rcases Zu.1 q with k|c;·have:=z a d;rw[←k]at this;omega
   ·exact I d c E
theorem P7:∀{n:Nat}{i k:Int},k∈h.path n i→k≠i→∃a c,a∈h.path n i∧h.at a=some c∧c.sp.par=k
 |0,i,k,q,_=>by rw[Qm.path]at q;cases q
 |n+1,i,k,q,hne=>by
  rw[Qm.path]at q⊢;cases u:h.at i with
  |none=>rw[u]at q;cases q
  |some c=>
   rw[u]at q;dsimp only at q⊢;rcases Zu.1 q with rfl|q;·exact absurd rfl hne
   ·by_cases e:k=c.sp.par;·exact⟨i,c,List.mem_cons_self,u,e.symm⟩
    ·obtain⟨a,d,z,B,E⟩:=P7 q e;exact⟨a,d,Zr _ z,B,E⟩
theorem Qdc(k:J8 h):∀{n:Nat}{i:Int}{c:Vm},h.at i=some c→Xk h i≤n→∃a d,a∈h.path n i∧h.at a=some d∧d.sp.par=0
 |0,i,c,hc,hd=>by have:=(k.dep c (Qm.aE hc).1).1;rw[V7 hc]at hd;omega
 |n+1,i,c,hc,hd=>by
  rw[Qm.path,hc];dsimp only;rcases Oq k hc with⟨e,_⟩|⟨q,E,_,e⟩;·exact⟨i,c,List.mem_cons_self,hc,e⟩
  ·obtain⟨a,d,u,z,B⟩:=Qdc k (n:=n) E (by omega);exact⟨a,d,Zr _ u,z,B⟩
theorem Nl(k:J8 h){i:Int}{c:Vm}(d:h.at i=some c):Xk h i≤8:=by rw[V7 d];exact(k.dep c (Qm.aE d).1).2
theorem Dv{i y:Int}:y∈h.aM i↔∃c∈h,c.sp.id=y∧c.sp.par=i:=by grind [Yk.aM,Qm.aM,Vm.id]
theorem Np(z:J8 h){id:Int}(U:∀c,h.at id=some c→c.sp.leaf=false){x:Int}:x∈h.aI id↔∃a∈h.aM id,x∈h.aI a:=by
 rw[Y8];constructor
 ·rintro⟨c,B,rfl,q,u⟩;have k:=Da z.sorted B;have key:∃a d,a∈h.path 9 c.sp.id∧h.at a=some d∧d.sp.par=id:=by
   rcases u with rfl|u;·exact Qdc z k (by have:=Nl z k;omega)
   ·refine P7 u ?_;rintro rfl;have:=U c k;rw[q]at this;cases this
  obtain⟨a,d,ha,E,I⟩:=key;obtain⟨K,J⟩:=Qm.aE E;exact⟨a,Dv.2 ⟨d,K,J,I⟩,Y8.2 ⟨c,B,rfl,q,.inr ha⟩⟩
 ·rintro⟨a,ha,V⟩;obtain⟨d,E,rfl,I⟩:=Dv.1 ha;obtain⟨c,B,rfl,q,u⟩:=Y8.1 V;have k:=Da z.sorted B;refine⟨c,B,rfl,q,?_⟩;by_cases R:id=0;·exact .inl R
  ·right;rcases u with u|u;·have:=(Cq (z.may d E)).1;omega
   ·have:=Qhj z (Nat.lt_succ_of_le (Nl z k)) u (Da z.sorted E) (by rw[I];exact R);rwa[I]at this
theorem No(k:J8 h){id a b x:Int}(ha:a∈h.aM id)(hb:b∈h.aM id)(K:x∈h.aI a)(R:x∈h.aI b):a=b:=by
 obtain⟨d,V,rfl,hp⟩:=Dv.1 ha;obtain⟨d',z,rfl,J⟩:=Dv.1 hb;obtain⟨c,hc,rfl,ab,E⟩:=Y8.1 K;obtain⟨c',aa,e,_,I⟩:=Y8.1 R;have i1:=(Cq (k.may d V)).1;have i2:=(Cq (k.may d' z)).1;have E:=E.resolve_left (by omega);have I:=I.resolve_left (by omega);refine Qkk k E I ?_;have k1:=Oq k (Da k.sorted V);have U:=Oq k (Da k.sorted z);rw[hp]at k1;rw[J]at U;rcases k1 with⟨e1,e2⟩|⟨q,Z,_,e2⟩
 ·rcases U with⟨_,B⟩|⟨q',u,_,B⟩;·omega
  ·rw[e1,k.zero (by decide)]at u;cases u
 ·rcases U with⟨e3,B⟩|⟨q',u,_,B⟩;·rw[e3,k.zero (by decide)]at Z;cases Z
  ·omega
theorem Pe:∀{a b:List Int},a.Pairwise (· < ·)→b.Pairwise (· < ·)→(∀x,x∈a↔x∈b)→a=b
 |[],[],_,_,_=>rfl
 |[],y::b,_,_,h=>by have:=(h y).2 List.mem_cons_self;cases this
 |x::a,[],_,_,h=>by have:=(h x).1 List.mem_cons_self;cases this
 |x::a,y::b,ha,hb,h=>by
  obtain⟨d,q⟩:=List.pairwise_cons.1 ha;obtain⟨k,u⟩:=List.pairwise_cons.1 hb;have e:x=y:=by
   rcases Zu.1 ((h x).1 List.mem_cons_self)with e|B;·exact e
   ·rcases Zu.1 ((h y).2 List.mem_cons_self)with e|E;·exact e.symm
    ·have:=k x B;have:=d y E;omega
  subst e;congr 1;refine Pe q u fun z=>⟨fun c=>?_,fun c=>?_⟩
  ·rcases Zu.1 ((h z).1 (Zr _ c))with rfl|h';·have:=d z c;omega
   ·exact h'
  ·rcases Zu.1 ((h z).2 (Zr _ c))with rfl|h';·have:=k z c;omega
   ·exact h'
theorem Qhp(k:J8 h){id:Int}(K:∀c,h.at id=some c→c.sp.leaf=false):((h.aM id).flatMap h.aI).mergeSort (fun x y=>decide (x≤y))=h.aI id:=by
 have B:((h.aM id).flatMap h.aI).Pairwise (· ≠ ·):=by
  refine List.pairwise_flatMap.2 ⟨fun a _=>(Ut k a).imp fun{x y}aa e=>by omega,?_⟩;have V:=Gk k.sorted id;have:∀l:List Int,l.Pairwise (· < ·)→(∀a∈l,a∈h.aM id)→l.Pairwise fun a b=>∀x∈h.aI a,∀y∈h.aI b,x≠y:=by
   intro l;induction l with
   |nil=>intro _ _;exact List.Pairwise.nil
   |cons a l ih=> intro U z;obtain⟨p1,p2⟩:=List.pairwise_cons.1 U;refine List.pairwise_cons.2 ⟨fun b J x Z y hy e=>?_,ih p2 fun a ha=>z a (Zr _ ha)⟩;subst e;have:=No k (z a List.mem_cons_self) (z b (Zr _ J)) Z hy;have:=p1 b J;omega
  exact this _ V fun a ha=>ha
 have d:=List.mergeSort_perm ((h.aM id).flatMap h.aI) (fun x y=>decide (x≤y));have u:=List.pairwise_mergeSort (le:=fun x y:Int=>decide (x≤y)) (fun a b c I q=>by simp only[decide_eq_true_eq]at*;omega) (fun a b=>by simp only[Bool.or_eq_true,decide_eq_true_eq];omega) ((h.aM id).flatMap h.aI);have E:=(d.pairwise_iff (R:=(· ≠ ·)) (fun h e=>h e.symm)).2 B;refine Pe ?_ (Ut k id) fun x=>?_
 ·refine(u.and E).imp fun{a b}⟨I,q⟩=>?_;have:a≤b:=by simpa using I
  have q:a≠b:=q;omega
 ·rw[d.mem_iff,List.mem_flatMap,Np k K]
theorem Rf(I:J8 h){id:Int}{c:Vm}(E:h.at id=some c)(J:c.sp.leaf=true):h.aI id=[id]:=by
 have K:=I.pos E;refine Pe (Ut I id) (by simp) fun x=>?_;rw[Y8];constructor
 ·rintro⟨d,hd,rfl,U,B⟩;have B:=B.resolve_left (by omega);by_cases e:id=d.sp.id;·simp[e]
  ·obtain⟨a,q,ha,V,k⟩:=P7 B e;rcases Oq I V with⟨e1,_⟩|⟨z,R,u,_⟩;·omega
   ·rw[k,E]at R;obtain rfl:=Zs R;rw[J]at u;cases u
 ·intro Z;obtain rfl:x=id:=by simpa using Z
  refine⟨c,K.2.2.2.2.2,K.2.2.2.2.1,J,.inr ?_⟩;rw[Qm.path,E];exact List.mem_cons_self
end
section
variable{N:Nat}{s:Qf}
theorem Qem{c:Yk}(h:s.aO c≠0):s.add c=s:=by unfold Qf.add;rw[if_neg h]
theorem Sj{c:Yk}(h:s.aG c≠0):s.change c=s:=by unfold Qf.change;rw[if_neg h]
theorem I0{i:Int}(h:s.aP i≠0):s.drop i=s:=by unfold Qf.drop;rw[if_neg h]
theorem Qnm{p:Jr}{now:Nat}(h:s.aQ p≠0):s.push p now=s:=by unfold Qf.push;rw[if_neg h]
theorem Qbc{i:Int}(h:s.leaf i=none):s.qOf i=[]:=by unfold Qf.qOf;rw[h];rfl
theorem Xp.leaf_none(h:Xp N s){i:Int}(u:s.tree.at i=none):s.leaf i=none:=by
 cases q:s.leaf i with
 |none=>rfl
 |some l=> obtain⟨k,z,_⟩:=h.at q;obtain⟨c,d,_⟩:=k.sp;rw[z,u]at d;cases d
theorem Xp.leaf_at(h:Xp N s){i:Int}{l:Qw}(u:s.leaf i=some l):∃c,s.tree.at i=some c∧c.sp.leaf=true:=by obtain⟨k,z,_⟩:=h.at u;obtain⟨c,q,d,_⟩:=k.sp;rw[z]at q;exact⟨c,q,d⟩
theorem Qt8(h:Xp N s)(c:Yk)(i:Int):(s.add c).qOf i=s.qOf i:=by
 by_cases d:s.aO c=0
 ·have k:s.tree.aO c=0:=d;have q:=h.leaf_none (Ub k).2.2.1;unfold Qf.add;rw[if_pos d];unfold Qf.qOf Qf.leaf;dsimp only;split
  ·have:=Ix (key:=Qw.id) (l:=s.aI) ⟨c.id,c.pk.toNat,c.bt.toNat,[],Xl c.real⟩ i;unfold Hn at this;rw[this];cases u:s.aI.find? (fun x=>decide (x.id=i))with
   |some x=>rfl
   |none=> dsimp only;split<;>rfl
  ·rfl
 ·rw[Qem d]
theorem Qbb(c:Yk)(i:Int):(s.change c).qOf i=s.qOf i:=by
 by_cases d:s.aG c=0
 ·unfold Qf.change;rw[if_pos d];unfold Qf.qOf Qf.leaf;dsimp only;have:=Qm1 (key:=Qw.id) (l:=s.aI) (f:=fun l=>if l.id=c.id then{l with debt:=Xl c.real}else l) (fun l=>by split<;>rfl) i;unfold Hn at this;rw[this];cases k:s.aI.find? (fun x=>decide (x.id=i))with
  |none=>rfl
  |some x=> simp only[Zn];split<;>rfl
 ·rw[Sj d]
theorem Qsf(h:Xp N s)(d i:Int):(s.drop d).qOf i=s.qOf i:=by
 by_cases c:s.aP d=0
 ·obtain⟨q,_⟩:=Ng c;unfold Qf.drop;rw[if_pos c];unfold Qf.qOf Qf.leaf;dsimp only;have:=Qgi (key:=Qw.id) (l:=s.aI) d i;unfold Hn Kp at this;rw[this];split
  ·rename_i e;cases u:s.aI.find? (fun x=>decide (x.id=i))with
   |none=>rfl
   |some x=>
    have k:s.leaf d=some x:=by rw[←e];exact u
    simp[h.idle k q]
  ·rfl
 ·rw[I0 c]
theorem Qbd{l l':Qw}{row:List Xu}{p:Qe}{i:Int}(d:s.leaf i=some l)(c:l'.id=i)(j:Int):Qf.qOf {s with aI:=Lg Qw.id l' s.aI,row:=row,pick:=p} j=if j=i then l'.q else s.qOf j:=by unfold Qf.qOf Qf.leaf;dsimp only;have:=Qeo (key:=Qw.id) (x:=l') (y:=l) (l:=s.aI) (by rw[c];exact d) j;unfold Hn at this;rw[this,c];split<;>rfl
theorem Qsg(h:Xp N s){p:Jr}(now:Nat)(B:s.aQ p=0)(i:Int):(s.push p now).qOf i=if i=p.cls then s.qOf p.cls++[p]else s.qOf i:=by
 obtain⟨c,l,J,I,E,k,z⟩:=Mk B;have u:=(h.at k).2.1;rw[Ct B k,Ov k];split;·exact Qbd (l:=l) (l':={l with q:=l.q++[p]}) (row:=s.row) (p:=s.pick) k u i
 ·rw[Rm];exact Qbd (l:=l) (l':={l with q:=l.q++[p],debt:=l.debt.map fun d=>d.wake now p.len}) k u i
theorem Qsh(h:Xp N s){id:Int}(c:Nat){l:Qw}(d:s.leaf id=some l)(i:Int):(s.take id c).qOf i=if i=id then l.q.tail else s.qOf i:=by grind [Qf.leaf,Qf.take,Qf.qOf,Jy.at,Tr.at,Xh.at,Ju.serve,Jr.zero,Fd,Rm,Qbd]
theorem Qhw(i:Int):0≤s.many i:=by
 unfold Qf.many;generalize s.tree.aI i=l;induction l with
 |nil=>simp
 |cons x l c=>rw[List.map_cons,List.sum_cons];omega
theorem Qdq(h:Xp N s){i:Int}{c:Vm}(k:s.tree.at i=some c)(d:c.sp.leaf=true):s.many i=((s.qOf i).length:Int)∧s.bytes i=Jn (s.qOf i):=by unfold Qf.many Qf.bytes;rw[Rf h.tree k d];simp
def G4(f:Nat→Int):Nat→Int
 |0=>0
 |n+1=>G4 f n+f n
theorem Qj1{f:Nat→Int}:∀{n:Nat},(∀k,k<n→f k=0)→G4 f n=0
 |0,_=>rfl
 |n+1,h=>by rw[G4,Qj1 fun k c=>h k (by omega),h n (by omega)];rfl
theorem Pl{f g:Nat→Int}:∀{n:Nat},(∀k,k<n→f k=g k)→G4 f n=G4 g n
 |0,_=>rfl
 |n+1,h=>by rw[G4,G4,Pl fun k c=>h k (by omega),h n (by omega)]
theorem Qwc{f g:Nat→Int}:∀n:Nat,G4 (fun k=>f k+g k) n=G4 f n+G4 g n
 |0=>rfl
 |n+1=>by rw[G4,G4,G4,Qwc n];omega
theorem Qwd{v:Int}{m:Nat}:∀{n:Nat},m<n→G4 (fun k=>if k=m then v else 0) n=v
 |0,h=>by omega
 |n+1,h=>by
  rw[G4];by_cases e:n=m;·rw[Qj1 fun k c=>if_neg (by omega),if_pos e];omega
  ·rw[Qwd (by omega),if_neg e];omega
theorem Qwt{f:Int→Int}{n:Nat}:∀{l:List Int},l.Pairwise (· < ·)→(∀x∈l,0≤x∧x<n)→(l.map f).sum=G4 (fun k=>if(k:Int)∈l then f k else 0) n
 |[],_,_=>by rw[Qj1 fun k _=>by simp];rfl
 |x::l,hp,hb=>by
  obtain⟨B,E⟩:=List.pairwise_cons.1 hp;have I:=hb x List.mem_cons_self;rw[List.map_cons,List.sum_cons,Qwt E fun y z=>hb y (Zr _ z)];have e:(fun k:Nat=>if(k:Int)∈x::l then f k else 0)=fun k:Nat=>(if k=x.toNat then f x else 0)+(if(k:Int)∈l then f k else 0):=funext fun k=>by
   by_cases u:k=x.toNat
   ·have c:(k:Int)=x:=by omega
    have q:x∉l:=fun h=>by have:=B x h;omega
    rw[c,if_pos List.mem_cons_self,if_pos u,if_neg q];omega
   ·have c:(k:Int)≠x:=by omega
    rw[if_neg u];by_cases d:(k:Int)∈l;·rw[if_pos d,if_pos (Zr _ d)];omega
    ·rw[if_neg d,if_neg (fun h=>(Zu.1 h).elim c d)];omega
  rw[e,Qwc,Qwd (by omega)]
theorem G8(h:Xp N s){x:Int}:x∈s.tree.aI 0↔∃l,s.leaf x=some l:=by
 rw[Y8];constructor;·rintro⟨c,d,rfl,q,_⟩;exact h.lv _ c (Da h.tree.sorted d) q
 ·rintro⟨l,q⟩;obtain⟨c,d,k⟩:=h.leaf_at q;obtain⟨z,u⟩:=Qm.aE d;exact⟨c,z,u,k,.inl rfl⟩
theorem Qv8(h:Xp N s){n:Nat}(I:∀c∈s.tree,c.sp.id<n):s.many 0=G4 (fun k=>((s.qOf k).length:Int)) n∧s.bytes 0=G4 (fun k=>Jn (s.qOf k)) n:=by
 have E:=Ut h.tree 0;have q:∀x∈s.tree.aI 0,0≤x∧x<n:=fun x J=>by obtain⟨c,z,rfl,_⟩:=Y8.1 J;have:=(Cq (h.tree.may c z)).1;have:=I c z;omega
 have u:∀k:Nat,(k:Int)∉s.tree.aI 0→s.qOf k=[]:=fun k d=>by
  cases B:s.leaf (k:Int)with
  |none=>exact Qbc B
  |some l=>exact absurd ((G8 h).2 ⟨l,B⟩) d
 unfold Qf.many Qf.bytes;rw[Qwt (f:=fun x=>((s.qOf x).length:Int)) E q,Qwt (f:=fun x=>Jn (s.qOf x)) E q];refine⟨Pl fun k _=>?_,Pl fun k _=>?_⟩
 ·by_cases d:(k:Int)∈s.tree.aI 0;·rw[if_pos d]
  ·rw[if_neg d,u k d];rfl
 ·by_cases d:(k:Int)∈s.tree.aI 0;·rw[if_pos d]
  ·rw[if_neg d,u k d];rfl
theorem Qpn(p:Jr)(now:Nat):(s.push p now).tree=s.tree:=by
 unfold Qf.push;split
 ·cases c:s.leaf p.cls with
  |none=>rfl
  |some l=>
   dsimp only;split;·rfl
   ·rw[Rm]
 ·rfl
theorem Qqk(id:Int)(c:Nat):(s.take id c).tree=s.tree:=by unfold Qf.take;grind [Rm]
end
def quS(b d c:Nat)(q:List Jr):Ya:=fun w F=>∃r,Jz w b r d c q∧F b∧F r∧Bd F w
theorem Lm(b J E:Nat)(q:List Jr):Uy (quS b J E q) where
 bd:=fun⟨r,_,_,_,h⟩=>h
 aB:=fun⟨r,h,c,d,k⟩u z=>⟨r,h.aB u (z _ c) (z _ d),c,d,k.later u⟩
 more:=fun⟨r,h,c,d,k⟩B I=>⟨r,h,B _ c,B _ d,I⟩
def Qrs(b d:Nat)(c:Value)(l:Qw):List Ya:=[Tv b #[ptr d,c] 107,quS d l.pk l.bt l.q,fun w F=>Kv w F c l.debt]
theorem U5(b k:Nat)(d:Value)(l:Qw):∀P∈Qrs b k d l,Uy P:=by
 intro P c;simp only[Qrs,Zu,List.not_mem_nil,or_false]at c;rcases c with rfl|rfl|rfl;·exact Ks _ _ _
 ·exact Lm _ _ _ _
 ·exact Kv.good _ _
def Yj(w:World)(F:Fp)(b:Nat)(l:Qw):Prop:=∃d c,Oh (Qrs b d c l) w F
theorem Yj.obj:Hf Yj where
 bd:=fun⟨qb,dv,h⟩=>(Je (U5 _ _ _ _)).bd h
 own:=fun⟨qb,dv,h⟩=>by obtain⟨G,c,d⟩:=J6 (U5 _ _ _ _) 0 rfl h;exact d _ c.2.1
 aB:=fun⟨qb,dv,h⟩q u=>⟨qb,dv,(Je (U5 _ _ _ _)).aB h q u⟩
 more:=fun⟨qb,dv,h⟩z k=>⟨qb,dv,(Je (U5 _ _ _ _)).more h z k⟩
structure Tb where
 tb:Nat
 m:Nat
 rb:Nat
 pb:Nat
 ad:Int→Nat
def Qfq(A:Tb)(s:Qf):Array Value:=#[ZI s.most,ptr A.tb,.map (some A.m),ptr A.rb,ptr A.pb]
def Lw(A:Tb)(b:Nat)(L:List Qw)(s:Qf):List Ya:=
 [Tv b (Qfq A s) 97,fun w F=>Q9 w F A.tb s.tree,fun w F=>Yn Qw.id Yj w F A.m A.ad L,fun w F=>Yq w F A.rb s.row,fun w F=>Yr w F A.pb s.pick]
theorem Ua(A:Tb)(b:Nat)(L:List Qw)(s:Qf):∀P∈Lw A b L s,Uy P:=by
 intro P c;simp only[Lw,Zu,List.not_mem_nil,or_false]at c;rcases c with rfl|rfl|rfl|rfl|rfl;·exact Ks _ _ _
 ·exact Q9.obj.good _ _
 ·exact Sm Yj.obj _ _ _
 ·exact Yq.obj.good _ _
 ·exact Yr.obj.good _ _
def Qi(A:Tb)(w:World)(F:Fp)(b:Nat)(s:Qf):Prop:=∃L:List Qw,L.Perm s.aI∧Oh (Lw A b L s) w F
theorem Qi.obj(A:Tb):Hf (Qi A) where
 bd:=fun⟨L,_,h⟩=>(Je (Ua A _ L _)).bd h
 own:=fun⟨L,_,h⟩=>by obtain⟨G,d,k⟩:=J6 (Ua A _ L _) 0 rfl h;exact k _ d.2.1
 aB:=fun⟨L,c,h⟩u z=>⟨L,c,(Je (Ua A _ L _)).aB h u z⟩
 more:=fun⟨L,c,h⟩B q=>⟨L,c,(Je (Ua A _ L _)).more h B q⟩
def Qt(w:World)(F:Fp)(b:Nat)(s:Qf):Prop:=∃A,Qi A w F b s
theorem Qt.obj:Hf Qt where
 bd:=fun⟨A,h⟩=>(Qi.obj A).bd h
 own:=fun⟨A,h⟩=>(Qi.obj A).own h
 aB:=fun⟨A,h⟩d k=>⟨A,(Qi.obj A).aB h d k⟩
 more:=fun⟨A,h⟩q c=>⟨A,(Qi.obj A).more h q c⟩
section
variable{A:Tb}{w:World}{F:Fp}{b:Nat}{s:Qf}
theorem Qi.drew(h:Qi A w F b s):Qi A w.drew F b s:=(Qi.obj A).aB h (Zg Qb w).drew (Jl.none F)
theorem Qi.blk(h:Qi A w F b s):Qh w b (Qfq A s) 97:=by obtain⟨L,d,h⟩:=h;obtain⟨G,c,_⟩:=J6 (Ua A b L s) 0 rfl h;exact c.1
theorem Qi.part(h:Qi A w F b s)(i:Nat){R:List Qw→Ya}(E:∀L,(Lw A b L s)[i]? =some (R L)):
  ∃L,L.Perm s.aI∧∃G:Fp,R L w G∧(∀k,G k→F k)∧∀w' d s' Q,d.Perm s'.aI→Lw A b d s'=(Lw A b L s).set i Q→Q w' (Qn G w w')→Qc G w w'→Qi A w' (Qn F w w') b s'∧Qc F w w':=by
 obtain⟨L,I,h⟩:=h;obtain⟨G,z,u,_,B⟩:=Xv i (Ua A b L s) (E L) h;refine⟨L,I,G,z,u,fun w' d s' Q q K J c=>⟨⟨d,q,?_⟩,c.sub u⟩⟩;rw[K];exact B w' Q c J
theorem Qi.treeOf(h:Qi A w F b s):∃G:Fp,Q9 w G A.tb s.tree∧(∀k,G k→F k)∧∀w' t,Q9 w' (Qn G w w') A.tb t→Qc G w w'→Qi A w' (Qn F w w') b {s with tree:=t}∧Qc F w w':=by obtain⟨L,z,G,d,q,u⟩:=h.part 1 (R:=fun _ w F=>Q9 w F A.tb s.tree) (fun _=>rfl);exact⟨G,d,q,fun w' t B c=>u w' L {s with tree:=t} _ z rfl B c⟩
theorem Qi.rowOf(h:Qi A w F b s):∃G:Fp,Yq w G A.rb s.row∧(∀k,G k→F k)∧∀w' t,Yq w' (Qn G w w') A.rb t→Qc G w w'→Qi A w' (Qn F w w') b {s with row:=t}∧Qc F w w':=by obtain⟨L,z,G,d,q,u⟩:=h.part 3 (R:=fun _ w F=>Yq w F A.rb s.row) (fun _=>rfl);exact⟨G,d,q,fun w' t B c=>u w' L {s with row:=t} _ z rfl B c⟩
theorem Qi.pickOf(h:Qi A w F b s):∃G:Fp,Yr w G A.pb s.pick∧(∀k,G k→F k)∧∀w' t,Yr w' (Qn G w w') A.pb t→Qc G w w'→Qi A w' (Qn F w w') b {s with pick:=t}∧Qc F w w':=by obtain⟨L,z,G,d,q,u⟩:=h.part 4 (R:=fun _ w F=>Yr w F A.pb s.pick) (fun _=>rfl);exact⟨G,d,q,fun w' t B c=>u w' L {s with pick:=t} _ z rfl B c⟩
theorem Qi.collOf(h:Qi A w F b s):∃L,L.Perm s.aI∧∃G:Fp,Yn Qw.id Yj w G A.m A.ad L∧(∀k,G k→F k)∧
  ∀w' c s',c.Perm s'.aI→s'.most=s.most→s'.tree=s.tree→s'.row=s.row→s'.pick=s.pick→Yn Qw.id Yj w' (Qn G w w') A.m A.ad c→Qc G w w'→Qi A w' (Qn F w w') b s'∧Qc F w w':=by
 obtain⟨L,V,G,I,J,K⟩:=h.part 2 (R:=fun L w F=>Yn Qw.id Yj w F A.m A.ad L) (fun _=>rfl);refine⟨L,V,G,I,J,fun w' c s' q u z B E U d=>K w' c s' (fun w F=>Yn Qw.id Yj w F A.m A.ad c) q ?_ U d⟩;unfold Lw Qfq;rw[u,z,B,E];rfl
theorem So{L:List Qw}(d:L.Perm s.aI)(c:(L.map Qw.id).Nodup)(i:Int):s.leaf i=Hn Qw.id i L:=(Mz d c i).symm
theorem Qi.leafOf(h:Qi A w F b s){i:Int}{l:Qw}(I:s.leaf i=some l):
  ∃G:Fp,Yj w G (A.ad i) l∧(∀k,G k→F k)∧∀w' d,d.id=i→Yj w' (Qn G w w') (A.ad i) d→Qc G w w'→Qi A w' (Qn F w w') b (s.aR d)∧Qc F w w':=by
 obtain⟨L,J,G,E,U,u⟩:=h.collOf;rw[So J E.nodup]at I;obtain⟨V,c⟩:=Y3 I;subst c;obtain⟨K,Z,R,k3⟩:=E.focus Yj.obj V;refine⟨K,Z,fun k z=>U k (R k z).1,fun w' d c B q=>?_⟩;have:=k3 w' d c B q;exact u w' _ (s.aR d) (J.map _) rfl rfl rfl rfl this (q.sub fun k z=>(R k z).1)
def Qad(A:Tb)(s:Qf)(i:Int):Value:=match s.leaf i with
 |none=>.pointer none
 |some _=>ptr (A.ad i)
theorem Qf7(w):(zeroValue 102).run prog w=.ok (.pointer none) w:=by go_simp
theorem Qi.look1(h:Qi A w F b s)(i:Int):(Instr.lookup 93 (.map (some A.m)) (ZI i) false).run prog w=.ok (Qad A s i) w:=by
 obtain⟨L,k,G,c,_,_⟩:=h.collOf;have d:=Du (P:=prog) c.map underlying93 underlying3 (Qf7 w) i;rw[c.look i,←So k c.nodup]at d;have q:((s.leaf i).map fun _=>ptr (A.ad i)).getD (.pointer none)=Qad A s i:=by unfold Qad;cases s.leaf i<;>rfl
 rw[q]at d;exact d
theorem G7{i:Int}{l:Qw}(c:s.leaf i=some l):Qad A s i=ptr (A.ad i):=by unfold Qad;rw[c]
theorem Qae{i:Int}(c:s.leaf i=none):Qad A s i=.pointer none:=by unfold Qad;rw[c]
theorem Qi.nodup(h:Qi A w F b s):(s.aI.map Qw.id).Nodup:=by obtain⟨L,d,G,c,_⟩:=h.collOf;exact((d.map _).nodup_iff).1 c.nodup
theorem Qi.once(h:Qi A w F b s):∃p G,Qh w A.rb #[ptr p] 185∧Jg w G p s.row:=by obtain⟨G,d,_⟩:=h.rowOf;obtain⟨p,c,q,k,_⟩:=d.ex;exact⟨p,c,q,k⟩
variable{l:Qw}{a:Nat}
theorem Yj.cells(h:Yj w F a l):∃qb dv,Qh w a #[ptr qb,dv] 107∧(∃r,Jz w qb r l.pk l.bt l.q)∧∃G,Kv w G dv l.debt:=by obtain⟨qb,dv,h⟩:=h;obtain⟨u,d,_⟩:=J6 (U5 a qb dv l) 0 rfl h;obtain⟨z,⟨r,k,_⟩,_⟩:=J6 (U5 a qb dv l) 1 rfl h;obtain⟨c,q,_⟩:=J6 (U5 a qb dv l) 2 rfl h;exact⟨qb,dv,d.1,⟨r,k⟩,c,q⟩
theorem Yj.opn(h:Yj w F a l):∃E B,Qh w a #[ptr E,B] 107∧
  (∃G:Fp,quS E l.pk l.bt l.q w G∧(∀k,G k→F k)∧¬G a∧∀w' q',quS E l.pk l.bt q' w' (Qn G w w')→Qc G w w'→Yj w' (Qn F w w') a {l with q:=q'}∧Qc F w w')∧
  (∃G:Fp,Kv w G B l.debt∧(∀k,G k→F k)∧¬G a∧∀w' d',Kv w' (Qn G w w') B d'→Qc G w w'→Yj w' (Qn F w w') a {l with debt:=d'}∧Qc F w w'):=by
 obtain⟨E,B,h⟩:=h;have hh:=h;obtain⟨u,G0,R0,U,⟨ab,I,R1,g1,⟨ac,J,R2,g2,_,_,s4,_⟩,d1,s2,s3⟩,d0,s0,s1⟩:=hh;have n1:¬I a:=fun c=>d0 a U.2.1 (s2 _ c);have n2:¬J a:=fun c=>d0 a U.2.1 (s3 _ (s4 _ c));have Z:∀k,I k→F k:=fun k c=>s1 _ (s2 _ c);have f2:∀k,J k→F k:=fun k c=>s1 _ (s3 _ (s4 _ c));have K:Jl I J:=fun k c aa=>d1 k c (s4 _ aa);have ga:F a:=s0 _ U.2.1;have R:Bd I w:=u.sub Z;have z:Bd J w:=u.sub f2;refine⟨E,B,U.1,⟨I,g1,Z,n1,fun w' q' hq d=>?_⟩,⟨J,g2,f2,n2,fun w' d' hd d=>?_⟩⟩
 ·have V:=d.sub Z;refine⟨⟨E,B,?_⟩,V⟩;have hB:Qh w' a #[ptr E,B] 107:=d.blk U.1 n1;refine Q7 (G:=fun k=>k=a) (H:=fun k=>Qn I w w' k∨J k) ⟨hB,rfl,fun k e=>e▸hB.lt⟩ ?_ ?_ (fun k e=>.inl (e▸ga)) ?_ (u.ext V);·refine Q7 (G:=Qn I w w') (H:=J) hq (Y6 ((Kv.good B l.debt).aB g2 d K.symm) (z.later d)) (Jl.extL K z) (fun k c=>.inl c) (fun k c=>.inr c) ?_;exact fun k c=>c.elim (R.ext d k) (z.later d k)
  ·rintro k rfl(c|c);·exact c.elim n1 fun c=>by have:=u _ ga;omega
   ·exact n2 c
  ·exact fun k c=>c.elim (Qn.mono Z k) fun c=>.inl (f2 k c)
 ·have V:=d.sub f2;refine⟨⟨E,B,?_⟩,V⟩;have hB:Qh w' a #[ptr E,B] 107:=d.blk U.1 n2;refine Q7 (G:=fun k=>k=a) (H:=fun k=>I k∨Qn J w w' k) ⟨hB,rfl,fun k e=>e▸hB.lt⟩ ?_ ?_ (fun k e=>.inl (e▸ga)) ?_ (u.ext V);·refine Q7 (G:=I) (H:=Qn J w w') ((Lm E l.pk l.bt l.q).aB g1 d K) (Y6 hd (z.ext d)) (Jl.extR K R) (fun k c=>.inl c) (fun k c=>.inr c) ?_;exact fun k c=>c.elim (R.later d k) (z.ext d k)
  ·rintro k rfl(c|c);·exact n1 c
   ·exact c.elim n2 fun c=>by have:=u _ ga;omega
  ·exact fun k c=>c.elim (fun c=>.inl (Z k c)) (Qn.mono f2 k)
end
section
open Go.Shelf
def Tryz.lays189_ren:Go.Shelf.Ren:=⟨fun|189=>86|125=>143|257=>142|128=>201|129=>202|294=>192|295=>193|296=>194|297=>195|298=>196|299=>197|216=>198|300=>199|301=>200|328=>236|329=>237|330=>238|331=>239|332=>240|215=>241|343=>256|n=>n,fun|28=>100|3=>3|46=>215|0=>0|51=>280|53=>22|4=>4|183=>273|182=>272|131=>115|5=>5|9=>9|218=>302|222=>305|228=>326|229=>60|n=>n,fun|n=>n⟩
theorem Tryz.lays189:Go.Proofs.Lays.n189 prog Tryz.lays189_ren:={
 mixed:=by kernel_rfl
 f125:=func143.trans (congrArg some (by kernel_rfl))
 f128:=func201.trans (congrArg some (by kernel_rfl))
 f129:=func202.trans (congrArg some (by kernel_rfl))
 f189:=func86.trans (congrArg some (by kernel_rfl))
 f215:=func241.trans (congrArg some (by kernel_rfl))
 f216:=func198.trans (congrArg some (by kernel_rfl))
 f257:=func142.trans (congrArg some (by kernel_rfl))
 f294:=func192.trans (congrArg some (by kernel_rfl))
 f295:=func193.trans (congrArg some (by kernel_rfl))
 f296:=func194.trans (congrArg some (by kernel_rfl))
 f297:=func195.trans (congrArg some (by kernel_rfl))
 f298:=func196.trans (congrArg some (by kernel_rfl))
 f299:=func197.trans (congrArg some (by kernel_rfl))
 f300:=func199.trans (congrArg some (by kernel_rfl))
 f301:=func200.trans (congrArg some (by kernel_rfl))
 f328:=func236.trans (congrArg some (by kernel_rfl))
 f329:=func237.trans (congrArg some (by kernel_rfl))
 f330:=func238.trans (congrArg some (by kernel_rfl))
 f331:=func239.trans (congrArg some (by kernel_rfl))
 f332:=func240.trans (congrArg some (by kernel_rfl))
 f343:=func256.trans (congrArg some (by kernel_rfl))
 t0:=underlying0
 a0:=Tryz.isAgg0
 z0:=Tryz.sizeOf0
 v0:=Tryz.zeroValue0
 t3:=underlying3
 a3:=Tryz.isAgg3
 z3:=Tryz.sizeOf3
 v3:=Tryz.zeroValue3
 t4:=underlying4
 a4:=Tryz.isAgg4
 z4:=Tryz.sizeOf4
 v4:=Tryz.zeroValue4
 t5:=underlying5
 a5:=Tryz.isAgg5
 z5:=Tryz.sizeOf5
 v5:=Tryz.zeroValue5
 t9:=underlying9
 a9:=Tryz.isAgg9
 z9:=Tryz.sizeOf9
 v9:=Tryz.zeroValue9
 t28:=underlying100
 a28:=Tryz.isAgg100
 z28:=Tryz.sizeOf100
 v28:=Tryz.zeroValue100
 t46:=underlying215
 a46:=Tryz.isAgg215
 z46:=Tryz.sizeOf215
 v46:=Tryz.zeroValue215
 t51:=underlying280
 a51:=Tryz.isAgg280
 z51:=Tryz.sizeOf280
 v51:=Tryz.zeroValue280
 t53:=underlying22
 a53:=Tryz.isAgg22
 z53:=Tryz.sizeOf22
 v53:=Tryz.zeroValue22
 t131:=underlying115
 a131:=Tryz.isAgg115
 z131:=Tryz.sizeOf115
 v131:=Tryz.zeroValue115
 t182:=underlying272
 a182:=Tryz.isAgg272
 z182:=Tryz.sizeOf272
 v182:=Tryz.zeroValue272
 t183:=underlying273
 a183:=Tryz.isAgg273
 z183:=Tryz.sizeOf273
 v183:=Tryz.zeroValue273
 t218:=underlying302
 a218:=Tryz.isAgg302
 z218:=Tryz.sizeOf302
 v218:=Tryz.zeroValue302
 t222:=underlying305
 a222:=Tryz.isAgg305
 z222:=Tryz.sizeOf305
 v222:=Tryz.zeroValue305
 t228:=underlying326
 a228:=Tryz.isAgg326
 z228:=Tryz.sizeOf326
 v228:=Tryz.zeroValue326
 t229:=underlying60
 a229:=Tryz.isAgg60
 z229:=Tryz.sizeOf60
 v229:=Tryz.zeroValue60}
open Go.Sort Go.RowKit in
theorem Tryz.slices_Sort_int(blk off cap:Nat)(zs:List Int)(w:World)(hH:Holds (Value.int .i64) w blk off zs.toArray)(hblk:blk<w.heap.size)(hsz:zs.length<4611686018427387904):
  Cl 86 #[.slice (some ⟨blk,off,none⟩) zs.length cap] w fun e w'=>
   e=.returned (.tuple #[])∧∃n os,w'=grow (putRow (Value.int .i64) (Sort.ahead w n) blk off (zs.mergeSort fun x y=>decide (x≤y)).toArray) os:=Any.slices_Sort_int Tryz.lays189 blk off cap zs w hH hblk hsz
open Go.RowKit Go.Sort in
theorem Tryz.slices_Sort_int_none(p:Option Addr)(cap:Nat)(w:World):
  ZW 86 #[.slice p 0 cap] w (.tuple #[]) fun w'=>w'=w:=Any.slices_Sort_int_none Tryz.lays189 p cap w
end
section
variable{w:World}{g:Nat}
theorem Qt6{cap:Nat}{d:List Int}{q:Array Value}{t:TypeId}(E:Qh w g q t)(K:q.size=cap)(R:d.length≤cap)(n:Nat)(B:Array Obj):
  ∃c,Qh (Sort.grow (Sort.putRow (Value.int .i64) (Sort.ahead w n) g 0 d.toArray) B) g c t∧c.size=cap∧(∀(k:Nat)(y:Int),d[k]? =some y→c[k]? =some (ZI y))∧Qc (fun k=>k=g) w (Sort.grow (Sort.putRow (Value.int .i64) (Sort.ahead w n) g 0 d.toArray) B):=by
 have Xg:=E.lt;have J:∀k,k<w.heap.size→(Sort.grow (Sort.putRow (Value.int .i64) (Sort.ahead w n) g 0 d.toArray) B).heap[k]? =if g=k then(w.heap[k]?).map (Sort.onCells (Sort.putCells (Value.int .i64) 0 d.toArray))else w.heap[k]? :=fun k u=>by show(w.heap.modify g _++B)[k]? =_;rw[Array.getElem?_append_left (by simpa using u),Array.getElem?_modify]
 refine⟨Sort.putCells (Value.int .i64) 0 d.toArray q,?_,?_,fun k y u=>?_,rfl,rfl,rfl,?_,fun k u I=>?_⟩;·unfold Qh at E⊢;rw[J g Xg,if_pos rfl,E];rfl
 ·unfold Sort.putCells;simpa using K
 ·have z:k<d.length:=(Z1.1 u).1;unfold Sort.putCells;rw[Array.getElem?_mapIdx,Array.getElem?_eq_getElem (by omega)];simp only[Zn];rw[if_pos ⟨by omega,by simpa using z⟩];simp only[Nat.sub_zero];have:d.toArray[k]! =y:=by rw[getElem!_pos _ k (by simpa using z)];have:=(Z1.1 u).2;simpa using this
  rw[this]
 ·show w.heap.size≤(w.heap.modify g _++B).size;simp
 ·rw[J k u,if_neg (fun e=>I e.symm)]
theorem N7{v:Value}{l:List Int}(u:Q6 w v l)(hl:l.length<4611686018427387904):
  ZW 86 #[v] w (.tuple #[]) fun w'=>Q6 w' v (l.mergeSort fun x y=>decide (x≤y))∧Qc (fun k=>v.ownBlock=some k) w w':=by
 by_cases E:l=[]
 ·subst E;obtain⟨a,cap,rfl,_⟩:=u.row intT.hc;refine Zz (Tryz.slices_Sort_int_none a cap w) ?_;rintro w' rfl;refine⟨rfl,?_,Zg _ _⟩;have:([]:List Int).mergeSort (fun x y=>decide (x≤y))=[]:=by simp
  rw[this];exact u
 ·obtain⟨g,cap,V,rfl,q,hs,hc,hn,hm⟩:=u.opn E;have Z:Sort.Holds (Value.int .i64) w g 0 l.toArray:=fun j I=>by
   have z:j<l.length:=by simpa using I
   refine⟨?_,q.frozen _⟩;rw[Nat.zero_add,q.cell,hc j _ (List.getElem?_eq_getElem z)];congr 2;rw[getElem!_pos _ j I];simp
  refine Zz (Tryz.slices_Sort_int g 0 cap l w Z q.lt hl) ?_;rintro w'⟨n,os,rfl⟩;have c:(l.mergeSort fun x y=>decide (x≤y)).length=l.length:=List.length_mergeSort _;obtain⟨B,J,K,R,U⟩:=Qt6 (d:=l.mergeSort fun x y=>decide (x≤y)) q hs (by omega) n os;refine⟨rfl,?_,U.mono fun k e=>.inl (by rw[e];rfl)⟩;have:=Q6.mk J K (by omega) hm R;rw[c]at this;exact this
end
section
variable{w:World}{F:Fp}{b:Nat}{h:Qm}
theorem Y7.later{w0 w1}{G:Fp}{m:Nat}{vs:List (Int×Value)}(d:Y7 w1 (Qn G w0 w1) m vs h){w:World}(u:w.heap.size≤w0.heap.size)(q:Bd (Qn G w w1) w1):Y7 w1 (Qn G w w1) m vs h:=
 (Y7.good m vs h).more d (fun k c=>c.elim .inl fun c=>.inr ⟨by omega,c.2⟩) q
theorem Qkl(hh:Q9 w F b h){id:Int}{c:Vm}(ha:h.at id=some c)(hu:h.aM id=[])(ai:(h.aM c.sp.par).length<1099511627776):
  ZW 121 #[ptr b,ZI id] w (ZI 0) fun w'=>Q9 w' (Qn F w w') b (h.drop id)∧Qc F w w':=by
 have a3:=O (fun w'(c:Qc Qb w w')=>Q9.obj.aB hh c (Jl.none F));obtain⟨W,hW⟩:=Zx (w.alloc (.cells #[ZI id] 3));have CW:Qc Qb w W:=by rw[hW];exact(Zg _ _).alloc _
 have hN:=O (Gz (a3.o W CW));have BX:=O (show Qh W w.heap.size #[ZI id] 3 by rw[hW];exact Qh.new _ _ _);obtain⟨ma,mu,l,vs,G,hp,hn,ao,ac,I,fb,fm,fG,ay,J,bg,a7,a4⟩:=hh.opn;obtain⟨ba,a9⟩:=Qm.aE ha;have au:h.aM c.sp.par≠[]:=fun e=>by have:id∈h.aM c.sp.par:=Z3.2 ⟨c,List.mem_filter.2 ⟨ba,by simp⟩,a9⟩;rw[e]at this;cases this
 have b7:c.sp.par≠id:=fun e=>au (by rw[e];exact hu);have b8:Hi (w.heap.size<W.heap.size):=O (BX.o.lt);have aj:Hi (∀w2,Qc Qb w w2→(∃a cap,(Instr.lookup 112 (.map (some mu)) (ZI id) false).run prog w2=.ok (.slice a 0 cap) w2)∧
   ∃w3,(Builtin.delete_ #[111,3] 0 #[.map (some ma),ZI id]).run prog w2.drew=.ok (.tuple #[]) w3∧Qc (fun k=>k=ma) w2 w3∧
   ∃q,(Builtin.delete_ #[112,3] 0 #[.map (some mu),ZI id]).run prog w3.drew=.ok (.tuple #[]) q∧Qc (fun k=>k=ma∨k=mu) w2 q∧
   ∃g cap,(g<w.heap.size∧g≠b∧g≠mu)∧(Instr.lookup 112 (.map (some mu)) (ZI c.sp.par) false).run prog q.drew=.ok (.slice (some ⟨g,0,none⟩) (h.aM c.sp.par).length cap) q.drew∧
   (∀gf z,(∀af w,(callFunc gf af).run prog w=.ok (.enter gf af) w)→(∀w',Qc (fun k=>k=g) q.drew w'→∀y,Cl gf (#[ZI y]++z) w' fun e b5=>e=.returned (.bool (decide (y=id)))∧w'=b5)→
    Cl 183 #[.slice (some ⟨g,0,none⟩) (h.aM c.sp.par).length cap,.func (.func gf) #[] z] q.drew fun e w5=>∃n,e=.returned (.slice (some ⟨g,0,none⟩) n cap)∧Qc (fun k=>k=g) q.drew w5∧
     ∃K,(Instr.mapUpdate 112 (.map (some mu)) (ZI c.sp.par) (.slice (some ⟨g,0,none⟩) n cap)).run prog w5=.ok () K∧Q9 K (Qn F w K) b (h.drop id)∧Qc F w K)):=O (by
  intro w2 aa;have aq:=I.aB aa (Jl.none G);have ar:=aq.at_;refine⟨?_,?_⟩;·obtain⟨v,hr,hI,_⟩:=aq.look id;rw[hu]at hI;obtain⟨a,cap,rfl,_⟩:=hI.row intT.hc;exact⟨a,cap,hr⟩
  ·obtain⟨w3,r3,bu,c3⟩:=Di (P:=prog) ((ac.aB aa (fun h=>h)).aB (Zg Qb w2).drew (fun h=>h)) underlying111 underlying3 3 0 id;have ak:Qc (fun k=>k=ma) w2 w3:=c3.aT;refine⟨w3,r3,ak,?_⟩;have a6:=aq.aB ak (fun k d e=>J (e▸d));obtain⟨q,r4,bv,c4⟩:=Di (P:=prog) (a6.map.aB (Zg Qb w3).drew (fun h=>h)) underlying112 underlying3 3 0 id;have am:Qc (fun k=>k=mu) w3 q:=c4.aT;have b0:=a6.del id hu bv am;have al:Qc (fun k=>k=ma∨k=mu) w2 q:=(ak.mono fun k d=>.inl (.inl d)).trans am fun k d=>.inl (.inr d);refine⟨q,r4,al,?_⟩;have B:=b0.aB (Zg Qb q).drew (Jl.none G);obtain⟨v,hr,hI,hv⟩:=B.look c.sp.par;obtain⟨g,cap,b9,rfl,br,b4,bb,a8,bf⟩:=hI.opn au;have ax:(c.sp.par,Value.slice (some ⟨g,0,none⟩) (h.aM c.sp.par).length cap)∈Vu id vs:=hv.resolve_left fun e=>by cases e.1
   obtain⟨gG,gm⟩:=B.own _ ax g rfl;refine⟨g,cap,⟨a7 g (fG g gG),fun e=>ay (e▸gG),gm⟩,hr,fun gf z eg hT=>?_⟩;refine(Qex br b4 bb a8 bf hI ai gf z eg (fun y=>decide (y=id)) hT).mono ?_;rintro e w5⟨n,rfl,bs,ab⟩;refine⟨n,rfl,ab,?_⟩;have bw:=B.map.aB ab (fun e=>gm e.symm);obtain⟨K,r6,bz,an⟩:=X6 (P:=prog) bw underlying112 underlying3 c.sp.par (.slice (some ⟨g,0,none⟩) n cap);refine⟨K,r6,?_⟩;have hd:=Qm.drop_eq ha hu;have aw:(h.drop id).aM c.sp.par=(h.aM c.sp.par).filter fun y=>!decide (y=id):=by rw[hd];exact Ph h id _
   have av:∀k,k≠c.sp.par→(h.drop id).aM k=h.aM k:=fun k d=>by rw[hd];exact Ij ((hp.map _).nodup_iff.1 hn) ha d
   have bt:Q6 K (.slice (some ⟨g,0,none⟩) n cap) ((h.drop id).aM c.sp.par):=by rw[aw];refine bs.aB an fun k d e=>?_;have:g=k:=Zs d;exact gm (this.trans e)
   have bp:Qc (fun k=>k=mu∨k=g) q.drew K:=(ab.mono fun k d=>.inl (.inr d)).trans an fun k d=>.inl (.inl d);obtain⟨b1,bq⟩:=B.put av bt (fun k d=>.inl ⟨_,ax,d⟩) bz bp (fun k d=>d.elim .inl fun e=>.inr ⟨_,ax,by rw[e];rfl⟩);have cA:Qc (fun k=>k=ma∨G k) w K:=by refine(aa.none.aA (al.mono fun k d=>.inl (d.elim .inl fun e=>.inr (e▸ar)))).aA ?_;exact bq.aT.sub fun k d=>.inr d
   have bo:Bd G w:=I.bd;refine a4 K (l.filter fun x=>!decide (x.sp.id=id)) _ _ (by rw[hd];exact hp.filter _) ?_ ((b1.later (w:=w) (Zp aa.size al.size) ?_)) cA;·rw[←Qj7];exact(((bu.aB am (fun e=>J (e▸ar))).aB (Zg Qb q).drew (fun h=>h)).aB ab (fun e=>J (e▸gG))).aB an (fun e=>J (e▸ar))
   ·exact fun k d=>d.elim (fun d=>Nat.lt_of_lt_of_le (bo k d) cA.size) (fun d=>d.2))
 have LK:=O (fun(w')(cc:Qc Qb w w')=>show(Instr.lookup 111 (.map (some ma)) (ZI id) true).run prog w'=.ok (.tuple #[.agg (P0 c),.bool true]) w' by
  have hL:=Dj (P:=prog) (ac.aB cc (fun h=>h)) underlying111 underlying3 (Sf w') id;rw[Ed id l hn,←Qm.at_perm hp hn,ha]at hL;exact hL)
 have Z:Hi (b≠ma∧b≠mu∧b<w.heap.size∧ma<w.heap.size∧mu<w.heap.size):=O (⟨bg,fun e=>ay (e▸I.at_),ao.lt,ac.lt,I.map.lt⟩);have a2:=O ao;have V:=O CW;clear hh ao CW ac I hp hn ha hu a4 fb fm fG ay J bg a7 au ba a9 ai;go_enter func121,ntmps121;go_wp2_with fail;rw[←hW];clear hW;refine Zz hN.o ?_;rintro w1 rfl;go_wp2_with fail;refine ZC [100,101,102,103,104,105,106,107,108,209,210,311] (fun wv=>Qc (Qb) (W) wv) ?_;simp only[Z8,Zf,Ze,Zd];iterate 3 (refine Qy (h:=?_);try simp only[Act.put,Za,Zc,Zb])
 iterate 3 (refine Qy (by kernel_rfl) (fun wv hv=>by(have zz:=hv.blk (V.o.blk a2.o (fun h=>h)) (fun h=>h);have yy:=hv.blk BX.o (fun h=>h);obtain⟨z0,z1⟩:=Q4 zz;have y0:=Jf yy;have lk:=LK.o wv (V.o.aA hv));go_simp;try rfl) ?_;try simp only[Act.put,Za,Zc,Zb])
 iterate 3 (refine Qy (h:=?_);try simp only[Act.put,Za,Zc,Zb])
 refine Yb ?_;go_wp2_with fail;refine⟨((Zg Qb W).alloc _).drew,?_⟩;have ap:Qh (W.alloc (.cells Z6 109)).drew W.heap.size Z6 109:=(Qh.new _ _ _).drew;have C1:Qc Qb W (W.alloc (.cells Z6 109)).drew:=((Zg Qb W).alloc _).drew;generalize(W.alloc (.cells Z6 109)).drew=W1 at ap C1⊢;obtain⟨W2,s2,a5,C2⟩:=Q0 (P:=prog) (vs:=P0 c) ap rfl (Sn c);have a1:Qc Qb W W2:=C1.trans C2 (fun k e=>.inr (by omega));have E:=O a1;have bl:=O a5;clear ap C1 a5 C2 a1;refine Yb ?_;go_wp2_with fail;refine⟨E.o,?_⟩;refine Km ?_;go_wp2_with fail;refine Ky ?_;go_wp2_with fail;clear s2;have C2:=O (V.o.aA E.o);obtain⟨⟨u,b6,b2⟩,w3,r3,c3,q,r4,c4,g,cap,⟨bc,bd,be⟩,b3,DF⟩:=aj.o W2.drew C2.o.drew;have C3:=O c3.aT;have C4:=O c4.aT;have bm:=O DF;have HG:=O (Zt bc (Zt bd be));have NB:=Z.o;have ae:=O V.o.size;have R:=O (C2.o.blk a2.o (fun h=>h));have U:=O (E.o.blk BX.o (fun h=>h));have bh:=O (C3.o.blk R.o (fun e=>Z.o.1 e));have bi:=O (C3.o.blk U.o (fun e=>by have:=Z.o.2.2.2.1;omega));have az:=O (C4.o.blk R.o (fun e=>e.elim (fun e=>Z.o.1 e) (fun e=>Z.o.2.1 e)));have bj:=O (C4.o.blk U.o (fun e=>by have:=Z.o.2.2.2.1;have:=Z.o.2.2.2.2;rcases e with e|e<;>omega));have a0:=O (C4.o.blk bl.o (fun e=>by have:=Z.o.2.2.2.1;have:=Z.o.2.2.2.2;have:=ae.o;rcases e with e|e<;>omega));clear c3 c4 DF bc bd be NB;obtain⟨z0,z1⟩:=Q4 (R.o.drew);have y0:=Jf (U.o.drew);refine ZB [0,1,2,3,4,5,6,7,208] ?_;simp only[Z8,Zf,Ze,Zd];iterate 8 (refine Jq (h:=?_))
 clear b2 z0 z1 y0;refine J7 ?_;go_wp2_with fail;refine Jo ?_;go_wp2_with fail;obtain⟨z0,z1⟩:=Q4 (R.o.drew.drew);have y0:=Jf (U.o.drew.drew);refine ZB [0,1,2,3,4,205] ?_;simp only[Z8,Zf,Ze,Zd];iterate 5 (refine Jq (h:=?_))
 clear z0 z1 y0;refine J7 ?_;go_wp2_with fail;refine Jo ?_;clear r3;go_wp2_with fail;obtain⟨z0,z1⟩:=Q4 (bh.o.drew);have y0:=Jf (bi.o.drew);refine ZB [0,1,2,3,4,205] ?_;simp only[Z8,Zf,Ze,Zd];iterate 5 (refine Jq (h:=?_))
 clear z0 z1 y0;refine J7 ?_;go_wp2_with fail;refine Jo ?_;clear r4;go_wp2_with fail;obtain⟨z0,z1⟩:=Q4 (az.o.drew);have y1:=(Dm a0.o.drew).2.1;refine ZC [100,101,102,103,104,105,106,7,8,9,10,11,12,13,14,15,216,317] (fun wv=>Qc (fun k=>k=g) (q) wv) ?_;simp only[Z8,Zf,Ze,Zd];iterate 3 (refine Qy (h:=?_);try simp only[Act.put,Za,Zc,Zb])
 iterate 1 (refine Qy (by kernel_rfl) (fun wv hv=>by(obtain⟨cb,cd⟩:=Q4 (hv.blk az.o (fun e=>HG.o.2.1 e.symm)));go_simp;try rfl) ?_;try simp only[Act.put,Za,Zc,Zb])
 iterate 2 (refine Qy (h:=?_);try simp only[Act.put,Za,Zc,Zb])
 iterate 1 (refine Qy (by kernel_rfl) (fun wv hv=>by(have ca:=(Dm (hv.blk a0.o (fun e=>by have:=HG.o.1;have:=ae.o;omega))).2.1);go_simp;try rfl) ?_;try simp only[Act.put,Za,Zc,Zb])
 iterate 9 (refine Xe (h:=?_))
 clear b3 z0 z1 y1;refine Yb ?_;go_wp2_with fail;refine(bm.o 184 #[ZP w.heap.size] (enters_of func184 (by kernel_rfl) rfl) (fun w' cc y=>Qn9 w.heap.size id y w' (Jf (cc.blk bj.o.drew (fun e=>by have:=HG.o.1;omega))))).mono ?_;rintro e w5⟨n,rfl,c5,K,r6,ah,ag⟩;have C5:=O c5.aT;have bk:=O (Zt ah ag);clear c5 ah ag;go_wp2_with fail;refine⟨C5.o,?_⟩;refine Km ?_;go_wp2_with fail;refine Ky ?_;clear r6;go_wp2;go_ret;exact⟨rfl,bk.o⟩
end
theorem Qcw{w}{g:Nat}{cs:Array Value}{t:TypeId}(h:Qh w g cs t):w.shape? g=some (t,cs.size):=by unfold Qh at h;unfold World.shape?;rw[h]
theorem Qsp(w):(sizeOf 3).run prog w=.ok 1 w:=by go_simp
theorem Gg:(prog.info? 3).map (·.size)=some 1:=by kernel_rfl
theorem Wd(b:Nat):∀(vs:List Value)(o:Nat)(w:World),(w.setCells b o vs).drew=w.drew.setCells b o vs
 |[],_,_=>rfl
 |v::vs,o,w=>by show((w.setCell ⟨b,o,none⟩ v).setCells b (o+1) vs).drew=_;rw[Wd b vs];rfl
theorem Qkn{w}{v:Value}{l:List Int}(hI:Q6 w v l)(hl:l.length<1099511627776)(i:Nat)(hi:i≤l.length)(x:Int){vb:Nat}(hV:Qh w vb #[ZI x] 3)(ac:∀k,v.ownBlock=some k→k≠vb):
    Cl 166 #[v,ZI i,.slice (some ⟨vb,0,none⟩) 1 1] w fun e w'=>∃R,e=.returned R∧Q6 w' R (l.take i++x::l.drop i)∧Qc (fun k=>v.ownBlock=some k) w w'∧(R.ownBlock=v.ownBlock∨∃k,R.ownBlock=some k∧w.heap.size≤k):=by
  have ak:Hi (Kb W7 1 w (some ⟨vb,0,none⟩) [x]):=O (fun j c=>by
    obtain rfl:j=0:=by simpa using c
    refine⟨vb,0,rfl,fun k u hu=>?_⟩
    cases k with
    | zero => obtain rfl := Zs hu; exact Jf hV
    | succ k => cases hu)
  by_cases ap:i=l.length
  · subst ap
    have HI:=O hI
    obtain⟨a,cap,rfl,d,h0,_⟩:=hI.row intT.hc
    obtain⟨n,hn⟩:=Zx (l.length)
    have HN:=O hn
    have HE:=O (show l.take l.length++x::l.drop l.length=l++[x] by rw[List.take_length,List.drop_length])
    rw[←hn]at d hl
    rw[HE.o]
    have HL:=O hl
    rw[←hn]at HI⊢
    have af:Hi (∀R w',Q6 w' R (l++[x])→Qc (fun k=>(Value.slice a n cap).ownBlock=some k) w w'→(R.ownBlock=(Value.slice a n cap).ownBlock∨R.ownBlock=some w.heap.size)→
        (∃ aj, Ending.returned R = .returned aj ∧ Q6 w' aj (l ++ [x]) ∧ Qc (fun k => (Value.slice a n cap).ownBlock = some k) w w' ∧ (aj.ownBlock = (Value.slice a n cap).ownBlock ∨ ∃ k, aj.ownBlock = some k ∧ w.heap.size ≤ k))) := O (fun R w' h1 h2 h3 => ⟨R, rfl, h1, h2, h3.imp id fun h => ⟨_, h, Zv _⟩⟩)
    cases a with
    | none =>
      obtain rfl:=h0 rfl
      have br:n=0:=by omega
      clear hI ac hn h0 hl hi
      subst br
      clear d
      go_enter func166,ntmps166
      go_wp2_with (at_builtin;refine Jj intT rfl (.tmp 23) (.tmp 24) rfl _ l rfl HI.o _ _ [x] rfl ?a2 ?a3 ?a4 ?a5 ?a6)
      case a2=>exact nofun
      case a3=>exact ak.o
      case a4=>have:=HL.o;have:=HN.o;simp only[maxLen,Zm,List.length_nil];omega
      case a5=>have:=HL.o;have:=HN.o;simp only[Zm,List.length_nil];omega
      case a6=>
        intro R w' h1 h2 h3
        have FF:=O (af.o R w' h1 h2 h3)
        clear h1 h2 h3
        go_wp2
        go_ret
        exact FF.o
    | some ad =>
      clear hI ac hn h0 hl hi
      have b2:n≤cap:=d
      go_enter func166,ntmps166
      go_wp2_with (at_builtin;refine Jj intT rfl (.tmp 23) (.tmp 24) rfl _ l rfl HI.o _ _ [x] rfl ?a2 ?a3 ?a4 ?a5 ?a6)
      all_goals first
        | exact ak.o
        | (have := HL.o; have := HN.o; simp only [maxLen, Zm, List.length_nil]; omega)
        | (intro R w' h1 h2 h3
           have FF:=O (af.o R w' h1 h2 h3)
           clear h1 h2 h3
           go_wp2
           go_ret
           exact FF.o)
        | (intro h; cases h)
  · have Xg : i < l.length := by omega
    have ae:l≠[]:=fun e=>by rw[e]at Xg;simp at Xg
    obtain⟨g,cap,au,rfl,hB,ar,I,d,ab⟩:=hI.opn ae
    have ai:g≠vb:=ac g rfl
    obtain⟨n,hn⟩:=Zx (l.length)
    have HN:=O hn
    have al:=hB.lt
    have an:=hV.lt
    have aa:((l.drop i).map fun y=>Value.int .i64 y).length=n-i:=by rw[List.length_map,List.length_drop,hn]
    have ag:∀u∈(l.drop i).map fun y=>Value.int .i64 y,u.oneCell'=true:=fun u hu=>by
      obtain⟨y,_,rfl⟩:=Z3.1 hu
      rfl
    have q:∀W:World,(∀k,W.cell? ⟨g,k,none⟩=w.cell? ⟨g,k,none⟩)→∀j u,((l.drop i).map fun y=>Value.int .i64 y)[j]? =some u→W.cell? ⟨g,i+j,none⟩=some u:=fun W hW j u c=>by
      rw[hW,hB.cell]
      rw[List.getElem?_map,List.getElem?_drop]at c
      cases hy:l[i+j]? with
      | none => rw [hy] at c; cases c
      | some y =>
        rw[hy]at c
        obtain rfl:=Zs c
        exact I _ _ hy
    by_cases bu:n+1≤cap
    ·
      have af:=O (show∀W,W=w.drew→_ from fun W hW=>Qou (w:=W) x Xg (hW▸hB.drew) ar (by omega) ab I)
      have bt:∀lb cb,(callFunc 225 #[.slice (some ⟨vb,0,none⟩) 1 1,.slice (some ⟨g,i+1,none⟩) lb cb]).run prog w=.ok (.value (.bool false)) w:=fun lb cb=>by
        rw[run_callFunc_extern func225 (by kernel_rfl) (by kernel_rfl) (by kernel_rfl) (e:=Extern.SlicesOverlaps.overlaps #[100,100] #[4]) (by kernel_rfl),
          Lib.run_overlaps_apart w 100 4 3 underlying100 1 Qsp ⟨vb,0,none⟩ ⟨g,i+1,none⟩ 1 1 lb cb (fun e=>ai e.symm) 3 3 1 au.size (Qcw hV) (Qcw hB) (by omega) (hV.frozen 0) (hV.frozen 1)]
        rfl
      have E:∀ty K sc,(Builtin.copy_ #[100,100] ty #[.slice (some ⟨g,i+1,none⟩) (n-i) K,.slice (some ⟨g,i,none⟩) (n+1-i) sc]).run prog w.drew=.ok (ZI ((n-i:Nat):Int)) (w.drew.setCells g (i+1) ((l.drop i).map fun y=>ZI y)):=fun ty K sc=>by
        have h:=run_copy_cells (P:=prog) w.drew 100 100 ty 3 g (i+1) (n-i) K ⟨g,i,none⟩ (n+1-i) sc ((l.drop i).map fun y=>Value.int .i64 y) underlying100 Gg (by rw[aa];simp only[Nat.min_def];split<;>omega)
          (fun j u c => by rw [Addr.add_lit]; exact q w.drew (fun _ => rfl) j u c) (fun j c => by rw [hB.drew.cell, Array.getElem?_eq_getElem (by omega)]; rfl) (fun j c => hB.drew.frozen _) ag
        rw[aa]at h
        exact h
      obtain⟨W1,B⟩:=Zx (w.drew.setCells g (i+1) ((l.drop i).map fun y=>ZI y))
      obtain⟨c1,b1,s1,_,C1⟩:=Vc ((l.drop i).map fun y=>Value.int .i64 y) (i+1) w.drew au hB.drew (by omega)
      rw[←B]at b1 C1
      have a1:=C1.blk (hV.drew) (fun e=>ai e.symm)
      have V:∀ty K,(Builtin.copy_ #[100,100] ty #[.slice (some ⟨g,i,none⟩) (n+1-i) K,.slice (some ⟨vb,0,none⟩) 1 1]).run prog W1=.ok (ZI 1) (W1.setCells g i [ZI x]):=fun ty K=>
        run_copy_cells (P:=prog) W1 100 100 ty 3 g i (n+1-i) K ⟨vb,0,none⟩ 1 1 [Value.int .i64 x] underlying100 Gg (by simp only[Nat.min_def,Zm,List.length_nil];split<;>omega)
          (fun j u c => by
            cases j with
            | zero => obtain rfl := Zs c; exact Jf a1
            | succ j => cases c)
          (fun j c => by
            have:j=0:=by simpa using c
            subst this
            rw[b1.cell,Array.getElem?_eq_getElem (by omega)];rfl) (fun j c=>b1.frozen _) (fun u hu=>by
            obtain rfl:u=_:=by simpa using hu
            rfl)
      obtain⟨W2,Z⟩:=Zx (W1.setCells g i [ZI x])
      have FF:=O (af.o w.drew rfl)
      rw[←B,←Z]at FF
      rw[←B]at E
      rw[←Z]at V
      have e1:(((i:Int)==(n:Int)))=false:=by
        have:(i:Int)≠(n:Int):=by omega
        simpa using this
      have bg:decide ((i:Int)=(n:Int))=false:=by
        have:(i:Int)≠(n:Int):=by omega
        simpa using this
      have bi:IntKind.i64.wrap ((n:Int)+1)=(n:Int)+1:=by rw[IntWalk.i64_in _ (by omega)]
      have bh:IntKind.i64.wrap ((i:Int)+1)=(i:Int)+1:=by rw[IntWalk.i64_in _ (by omega)]
      have bf:decide ((cap:Int)<(n:Int)+1)=false:=by simp;omega
      rw[←hn]
      have a9:i<n:=by omega
      have bs:n<1099511627776:=by omega
      have bk:(0:Int)≤(i:Int)+1:=by omega
      have bl:¬(cap=i+1):=by omega
      have bm:(i:Int)≤(n:Int)+1:=by omega
      have bo:¬(cap=i):=by omega
      have bv:((i:Int)+1).toNat=i+1:=by omega
      have bb:((n:Int)+1).toNat=n+1:=by omega
      have bp:(i:Int)+1≤(n:Int)+1:=by omega
      have bq:(n:Int)+1≤(cap:Int):=by omega
      clear hI hB ar I d ab hV ac hl hi ap Xg ae al an aa ag q B Z b1 s1 C1 a1 hn ai
      go_enter func166,ntmps166
      go_wp2_with (simp only[bt])
      refine ZB [0,1,2,3,4,5,6,7,208] ?_
      simp only[Z8,Zf,Ze,Zd]
      iterate 8 (refine Jq (h:=?_))
      refine J7 ?_
      go_wp2_with fail
      refine Jo ?_
      clear E
      go_wp2
      go_ret
      have F2:=FF.o
      rw[←HN.o]at F2
      exact⟨_,rfl,F2.1,F2.2.aT.mono (fun k e=>.inl (by rw[e];rfl)),.inl rfl⟩
    ·
      obtain⟨i0,z0,a8,bc,ba,ao,a7⟩:=intT.hi
      obtain⟨r,hr⟩:=Zx (w.heap.size)
      obtain⟨G,hG⟩:=Zx (grownCap w (n+1) cap 3)
      have bj:n+1≤G:=by rw[hG];exact grownCap_ge _ _ _ _
      have ax:G≤maxLen:=by rw[hG];exact grownCap_le_maxLen _ _ _ _ (by simp only[maxLen];omega)
      obtain⟨z,U⟩:∃z:Array Value,z=((l.take i).map fun y=>Value.int .i64 y).toArray++Builtin.zeroCells z0.cells (n+1-i)++Builtin.zeroCells z0.cells (G-(n+1)):=⟨_,rfl⟩
      have bd:z0.cells.size=1:=by rw[a7];rfl
      have be:∀k,(Builtin.zeroCells z0.cells k).size=k:=fun k=>by simp[Builtin.zeroCells,bd]
      have az:z.size=G:=by
        rw[U]
        simp only[Array.size_append,be,List.size_toArray,List.length_map,List.length_take]
        omega
      have am:(Builtin.firstCells i0.size i (.slice (some ⟨g,0,none⟩) i cap)).run prog w.drew=.ok ((l.take i).map fun y=>Value.int .i64 y).toArray w.drew:=by
        rw[ba]
        refine run_firstCells_some w.drew 1 i ⟨g,0,none⟩ i cap ((l.take i).map fun y=>Value.int .i64 y) (by rw[List.length_map,List.length_take];omega) (fun j u c=>?_)
        rw[Addr.add_lit,Nat.zero_add]
        rw[List.getElem?_map,List.getElem?_take]at c
        split at c
        · cases hy : l[j]? with
          | none => rw [hy] at c; cases c
          | some y =>
            rw[hy]at c
            obtain rfl:=Zs c
            rw[hB.drew.cell]
            exact I _ _ hy
        · cases c
      have aq:∀ty,(Builtin.append_ #[100,3] ty #[.slice (some ⟨g,0,none⟩) i cap,ZI ((n:Int)+1-(i:Int))]).run prog w=.ok (.slice (some ⟨r,0,none⟩) (n+1) G) (w.drew.alloc (.cells z 3)):=fun ty=>by
        have h:=Lib.run_append_grow_zeros (P:=prog) w 100 3 ty 3 i0 z0 .i64 .i64 underlying100 underlying3 a8 bc (some ⟨g,0,none⟩) i cap _ am (n+1-i) (by omega) (by omega) (by omega) (by omega) (by rw[ao];omega) (by rw[ao,show i+(n+1-i)=n+1 by omega];exact growslice_fits (by omega) (by omega))
        rw[show i+(n+1-i)=n+1 by omega,show((n+1-i:Nat):Int)=(n:Int)+1-(i:Int) by omega,←hG,←U,←hr]at h
        exact h
      have ay:∀(k:Nat)(y:Int),k<i→l[k]? =some y→z[k]? =some (ZI y):=fun k y hk hy=>by
        have b3:((l.take i).map fun y=>Value.int .i64 y).toArray.size=i:=by simp;omega
        rw[U,Array.append_assoc,Array.getElem?_append_left (by omega)]
        simp only[Zf,List.getElem?_map,List.getElem?_take,if_pos hk,hy]
        rfl
      obtain⟨W0,ah⟩:=Zx (w.drew.alloc (.cells z 3))
      have B0:Qh W0 r z 3:=by rw[ah];exact Qh.new' _ _ hr
      have C0:Qc Qb w W0:=by rw[ah];exact(Zg Qb w).drew.alloc _
      rw[←ah]at aq
      have a0:=C0.blk hV (fun h=>h)
      have av:=C0.blk hB (fun h=>h)
      have E:∀ty K,(Builtin.copy_ #[100,100] ty #[.slice (some ⟨r,i,none⟩) (n+1-i) K,.slice (some ⟨vb,0,none⟩) 1 1]).run prog W0=.ok (ZI 1) (W0.setCells r i [ZI x]):=fun ty K=>
        run_copy_cells (P:=prog) W0 100 100 ty 3 r i (n+1-i) K ⟨vb,0,none⟩ 1 1 [Value.int .i64 x] underlying100 Gg (by simp only[Nat.min_def,Zm,List.length_nil];split<;>omega)
          (fun j u c => by
            cases j with
            | zero => obtain rfl := Zs c; exact Jf a0
            | succ j => cases c)
          (fun j c => by
            have:j=0:=by simpa using c
            subst this
            rw[B0.cell,Array.getElem?_eq_getElem (by omega)];rfl) (fun j c=>B0.frozen _) (fun u hu=>by
            obtain rfl:u=_:=by simpa using hu
            rfl)
      obtain⟨W1,B⟩:=Zx (W0.setCells r i [ZI x])
      obtain⟨c1,b1,s1,_,C1⟩:=Vc [Value.int .i64 x] i W0 z B0 (by simp only[Zm,List.length_nil];omega)
      rw[←B]at b1 C1 E
      have aw:=C1.blk av (fun e=>by omega)
      have V:∀ty K sc,(Builtin.copy_ #[100,100] ty #[.slice (some ⟨r,i+1,none⟩) (n-i) K,.slice (some ⟨g,i,none⟩) (n-i) sc]).run prog W1.drew=.ok (ZI ((n-i:Nat):Int)) (W1.drew.setCells r (i+1) ((l.drop i).map fun y=>ZI y)):=fun ty K sc=>by
        have h:=run_copy_cells (P:=prog) W1.drew 100 100 ty 3 r (i+1) (n-i) K ⟨g,i,none⟩ (n-i) sc ((l.drop i).map fun y=>Value.int .i64 y) underlying100 Gg (by rw[aa];simp only[Nat.min_def];split<;>omega)
          (fun j u c => by rw [Addr.add_lit]; exact q W1.drew (fun k => by rw [aw.drew.cell, hB.cell]) j u c) (fun j c => by rw [b1.drew.cell, Array.getElem?_eq_getElem (by omega)]; rfl) (fun j c => b1.drew.frozen _) ag
        rw[aa]at h
        exact h
      have J:=Qtr (w:=W0.drew) (i:=i) x Xg B0.drew az (by omega) ax (fun k y hk hy=>ay k y hk hy)
      rw[←Wd r [Value.int .i64 x] i W0,←B]at J
      obtain⟨W2,Z⟩:=Zx (W1.drew.setCells r (i+1) ((l.drop i).map fun y=>ZI y))
      rw[←Z]at V J
      have FF:=O (Zt J.1 (C0.trans J.2.aT fun k e=>.inr (by omega):Qc Qb w W2))
      have HR:=O hr
      have e1:(((i:Int)==(n:Int)))=false:=by
        have:(i:Int)≠(n:Int):=by omega
        simpa using this
      have bg:decide ((i:Int)=(n:Int))=false:=by
        have:(i:Int)≠(n:Int):=by omega
        simpa using this
      have bi:IntKind.i64.wrap ((n:Int)+1)=(n:Int)+1:=by rw[IntWalk.i64_in _ (by omega)]
      have bh:IntKind.i64.wrap ((i:Int)+1)=(i:Int)+1:=by rw[IntWalk.i64_in _ (by omega)]
      have bz:IntKind.i64.wrap ((n:Int)+1-(i:Int))=(n:Int)+1-(i:Int):=by rw[IntWalk.i64_in _ (by omega)]
      have bf:decide ((cap:Int)<(n:Int)+1)=true:=by simp;omega
      rw[←hn]
      have a9:i<n:=by omega
      have bs:n<1099511627776:=by omega
      have bk:(0:Int)≤(i:Int)+1:=by omega
      have bl:¬(G=i+1):=by omega
      have bm:(i:Int)≤(n:Int)+1:=by omega
      have bo:¬(G=i):=by omega
      have bw:¬(cap=i):=by omega
      have bv:((i:Int)+1).toNat=i+1:=by omega
      have bb:((n:Int)+1).toNat=n+1:=by omega
      have bp:(i:Int)+1≤(n:Int)+1:=by omega
      have bq:(i:Int)≤(cap:Int):=by omega
      have b0:(i:Int)≤(n:Int):=by omega
      clear hI hB ar I d ab hV ac hl hi ap Xg ae al an aa ag q ah B Z b1 s1 C1 hn ai a8 bc ba ao a7 hr hG bj ax U bd be az am ay B0 C0 a0 av aw J
      go_enter func166,ntmps166
      go_wp2_with (at_builtin;refine Lib.wpList_append_run _ rfl (.tmp 34) (.tmp 39) 100 3 rfl _ _ rfl rfl _ _ (aq _) ?_)
      clear aq
      go_wp2_with fail
      clear E
      refine ZB [0,1,2,3,4,5,6,7,208] ?_
      simp only[Z8,Zf,Ze,Zd]
      iterate 5 (refine Jq (h:=?_))
      iterate 2 (refine Jq (h:=?_))
      refine Jq (by kernel_rfl) (by go_simp;try rfl) ?_
      try simp only[Act.put,Za,Zc,Zb]
      refine J7 ?_
      go_wp2_with fail
      refine Jo ?_
      clear V
      go_wp2
      go_ret
      have F2:=FF.o
      rw[←HN.o]at F2
      exact⟨_,rfl,F2.1,F2.2.none,.inr ⟨_,rfl,Nat.le_of_eq HR.o.symm⟩⟩
section
variable{w:World}{F:Fp}{b:Nat}{h:Qm}
theorem Qgd{s:Yk}(c:h.aO s≠0):h.add s=h:=by unfold Qm.add;rw[if_neg c]
theorem Qny(hh:Q9 w F b h)(ok:J8 h){s:Yk}(h0:h.aO s=0):
  ∃ma mu,Qh w b #[.map (some ma),.map (some mu)] 114∧ma<w.heap.size∧mu<w.heap.size∧b≠ma∧b≠mu∧∀w3,Qc Qb w w3→
   ∃u,(Instr.mapUpdate 111 (.map (some ma)) (ZI s.id) (.agg (P0 ⟨s,h.depth s.par⟩))).run prog w3.drew=.ok () u∧Qc (fun k=>k=ma) w3 u∧
   ∃v,(Instr.lookup 112 (.map (some mu)) (ZI s.par) false).run prog u.drew=.ok v u.drew∧Q6 u v (h.aM s.par)∧(∀k,v.ownBlock=some k→k<w.heap.size∧k≠b∧k≠ma∧k≠mu)∧
   ∀i w5 w6 v',Om s.id (h.aM s.par) i i→Qc Qb u w5→Qc (fun k=>v.ownBlock=some k) w5 w6→Q6 w6 v' ((h.aM s.par).take i++s.id::(h.aM s.par).drop i)→(v'.ownBlock=v.ownBlock∨∃k,v'.ownBlock=some k∧w5.heap.size≤k)→
    ∃B,(Instr.mapUpdate 112 (.map (some mu)) (ZI s.par) v').run prog w6=.ok () B∧Q9 B (Qn F w B) b (h.add s)∧Qc F w B:=by
 obtain⟨ma,mu,l,vs,G,hp,hn,aq,ae,z,fb,fm,fG,al,V,a4,az,am⟩:=hh.opn;have ag:=z.at_;obtain⟨_,_,ab,_⟩:=Ub h0;have ah:=Wu ab;refine⟨ma,mu,aq,ae.lt,z.map.lt,a4,fun e=>al (e▸ag),fun w3 E=>?_⟩;obtain⟨u,r4,av,c4⟩:=X6 (P:=prog) ((ae.aB E (fun h=>h)).aB (Zg Qb w3).drew (fun h=>h)) underlying111 underlying3 s.id (.agg (P0 ⟨s,h.depth s.par⟩));have I:Qc (fun k=>k=ma) w3 u:=c4.aT;refine⟨u,r4,I,?_⟩;have U:=(z.aB E (Jl.none G)).aB I (fun k d e=>V (e▸d));obtain⟨v,hr,hI,hv⟩:=(U.aB (Zg Qb u).drew (Jl.none G)).look s.par;have ar:Q6 u v (h.aM s.par):=hI;have q:∀k,v.ownBlock=some k→(s.par,v)∈vs∧G k∧k≠mu:=fun k d=>by
  rcases hv with⟨e,_⟩|hv;·rw[e]at d;cases d
  ·exact⟨hv,z.own _ hv k d⟩
 refine⟨v,hr,ar,fun k d=>?_,fun i w5 w6 v' a3 J K ac aj=>?_⟩;·obtain⟨_,h1,h2⟩:=q k d;exact⟨az k (fG k h1),fun e=>al (e▸h1),fun e=>V (e▸h1),h2⟩
 ·have aw:=(U.map.aB J (fun h=>h)).aB K (fun d=>(q mu d).2.2 rfl);obtain⟨B,r7,ax,R⟩:=X6 (P:=prog) aw underlying112 underlying3 s.par v';refine⟨B,r7,?_⟩;have a0:(fun k=>Qm.aM (h.add s) k)=fun k=>if s.par=k then Nm s.id (h.aM k)else h.aM k:=funext fun k=>by rw[Bv h0];exact Fe ⟨s,h.depth s.par⟩ k ok.sorted
  have aa:∀k,(h.add s).aM k=if s.par=k then Nm s.id (h.aM k)else h.aM k:=fun k=>congrFun a0 k;have a1:s.id∉h.aM s.par:=fun hx=>by obtain⟨c,hc,e,_⟩:=Sx hx;exact ah c hc e
  have ai:(h.add s).aM s.par=(h.aM s.par).take i++s.id::(h.aM s.par).drop i:=by rw[aa,if_pos rfl,Qm8 a3 a1]
  have s5:=J.size;have s6:=K.size;have s7:=R.size;have ak:∀k,v'.ownBlock=some k→k<w6.heap.size:=ac.lt;have au:Q6 B v' ((h.add s).aM s.par):=by
   rw[ai];refine ac.aB R fun k d e=>?_;rcases aj with Z|⟨k2,Z,h2⟩;·rw[Z]at d;exact(q k d).2.2 e
   ·rw[Z]at d;have e3:k2=k:=Zs d;have:=U.map.lt;omega
  have ao:Qc (fun k=>k=mu∨v.ownBlock=some k) u B:=((J.none.aA (K.mono fun k d=>.inl (.inr d))).trans R fun k d=>.inl (.inl d));obtain⟨ay,ap⟩:=U.put (i:=s.par) (v':=v') (fun k d=>by rw[aa,if_neg (fun e=>d e.symm)]) au (fun k d=>by
   rcases aj with Z|⟨k2,Z,h2⟩;·rw[Z]at d;exact .inl ⟨v,(q k d).1,d⟩
   ·rw[Z]at d;have e3:k2=k:=Zs d;have h3:=ak k (by rw[Z,e3]);exact .inr ⟨by omega,by omega⟩) ax ao (fun k d=>d.imp id fun d=>⟨v,(q k d).1,d⟩)
  have cA:Qc (fun k=>k=ma∨G k) w B:=(E.none.aA (I.mono fun k d=>.inl (.inl d))).aA (ap.sub fun k d=>.inr d);have an:Bd G w:=z.bd;refine am B (l++[⟨s,h.depth s.par⟩]) _ _ ?_ ?_ (ay.later (w:=w) (Zp E.size I.size) ?_) cA;·rw[Bv h0];exact(hp.append_right _).trans (Ef _ h).symm
  ·have af:=((av.aB J (fun h=>h)).aB K (fun d=>by obtain⟨_,h1,_⟩:=q ma d;exact V h1)).aB R (fun e=>V (e▸ag));rw[Gw (fun p a2=>by
    obtain⟨x,hx,rfl⟩:=Z3.1 a2;exact ah x (hp.mem_iff.1 hx))]at af
   have:Us (l++[⟨s,h.depth s.par⟩])=Us l++[(s.id,.agg (P0 ⟨s,h.depth s.par⟩))]:=by unfold Us;rw[List.map_append];rfl
   rw[this];exact af
  ·exact fun k d=>d.elim (fun d=>Nat.lt_of_lt_of_le (an k d) cA.size) (fun d=>d.2)
theorem Am(h:Qm)(s:Yk):h.aO s=if s.mayE≠0 then 130 else if 64≤h.length then 4 else if(h.at s.id).isSome then 80 else if h.depth s.par=0 then 160 else 0:=rfl
end
section
variable{w:World}{F:Fp}{b:Nat}{h:Qm}
theorem Qh.inj{w}{g:Nat}{cs cs':Array Value}{t c:TypeId}(h:Qh w g cs t)(h':Qh w g cs' c):cs=cs':=by unfold Qh at h h';rw[h]at h';injection h' with h';injection h' with h'
theorem Qor(hh:Q9 w F b h)(ok:J8 h)(s:Yk):
  ZW 102 #[ptr b,Fb s] w (ZI (h.aO s)) fun w'=>Q9 w' (Qn F w w') b (h.add s)∧Qc F w w':=by
 have aa:=O (fun w'(c:Qc Qb w w')=>Q9.obj.aB hh c (Jl.none F));have NO:Hi (∀w',Qc Qb w w'→h.aO s≠0→Q9 w' (Qn F w w') b (h.add s)∧Qc F w w'):=O (fun w' c h0=>by rw[Qgd h0];exact Q9.obj.same hh c);obtain⟨W,hW⟩:=Zx (w.alloc (.cells (Z4 s.leaf s) 29));have S0:Hi (Xx W w.heap.size s):=O (by rw[hW];exact Xx.new w s);have C0:Hi (Qc Qb w W):=O (by rw[hW];exact(Zg _ _).alloc _);have HN:=O (Gz (aa.o W C0.o));have I:=O (fun w=>Qef s w);obtain⟨a0,a1,a2,a3,a4,a5,a6,a7,a8,a9,ak,al,am,an⟩:=(show Xx (w.alloc _) _ _ from hW▸S0.o).cells;by_cases hm:s.mayE=0
 ·have hE:h.aO s=if 64≤h.length then 4 else if(h.at s.id).isSome then 80 else if h.depth s.par=0 then 160 else 0:=by rw[Am,if_neg (by omega)]
  have HD:=O (fun w'(c:Qc Qb w w')=>Qhk (aa.o w' c) s.par);obtain⟨ma,mu,l,vs,G,hp,z,ao,ar,bo,fb,fm,fG,bt,bu,bv,bp,_⟩:=hh.opn;have Z:=O ao;have LK:=O (fun(w')(cc:Qc Qb w w')=>show(Instr.lookup 111 (.map (some ma)) (ZI s.id) true).run prog w'=.ok (.tuple #[.agg (P0 (h.get s.id)),.bool (h.at s.id).isSome]) w' by
   have hL:=Dj (P:=prog) (ar.aB cc (fun h=>h)) underlying111 underlying3 (Sf w') s.id;rw[Ed s.id l z,←Qm.at_perm hp z]at hL;rw[hL];unfold Qm.get;cases h.at s.id<;>rfl)
  have ay:=O (fun(w')(cc:Qc Qb w w')=>show(Builtin.len_ #[111] 3 #[.map (some ma)]).run prog w'=.ok (ZI h.length) w' by
   have hL:=Qua (P:=prog) (ar.aB cc (fun h=>h)) underlying111 3;have e:(Us l).length=h.length:=by unfold Us;rw[List.length_map,hp.length_eq]
   rw[e]at hL;exact hL)
  have J:Hi (h.aO s=0→ma<w.heap.size∧mu<w.heap.size∧b≠ma∧b≠mu∧∀w3,Qc Qb w w3→
   ∃q,(Instr.mapUpdate 111 (.map (some ma)) (ZI s.id) (.agg (P0 ⟨s,h.depth s.par⟩))).run prog w3.drew=.ok () q∧Qc (fun k=>k=ma) w3 q∧
   ∃v,(Instr.lookup 112 (.map (some mu)) (ZI s.par) false).run prog q.drew=.ok v q.drew∧Q6 q v (h.aM s.par)∧(∀k,v.ownBlock=some k→k<w.heap.size∧k≠b∧k≠ma∧k≠mu)∧
   ∀i w5 w6 v',Om s.id (h.aM s.par) i i→Qc Qb q w5→Qc (fun k=>v.ownBlock=some k) w5 w6→Q6 w6 v' ((h.aM s.par).take i++s.id::(h.aM s.par).drop i)→(v'.ownBlock=v.ownBlock∨∃k,v'.ownBlock=some k∧w5.heap.size≤k)→
    ∃w7,(Instr.mapUpdate 112 (.map (some mu)) (ZI s.par) v').run prog w6=.ok () w7∧Q9 w7 (Qn F w w7) b (h.add s)∧Qc F w w7):=O (fun h0=>by
   obtain⟨br,bs,bl,k1,k2,k3,k4,k5⟩:=Qny hh ok h0;have e:=ao.inj bl;injection e with e;injection e with R e2;injection R with R;injection e2 with e2 _;injection e2 with e2;have R:ma=br:=Zs R;have e2:mu=bs:=Zs e2;subst R;subst e2;exact⟨k1,k2,k3,k4,k5⟩)
  have aj:=O (Gk ok.sorted s.par);have ab:Hi ((h.aM s.par).length≤64):=O (by
   have:(h.aM s.par).length≤h.length:=by unfold Qm.aM;rw[List.length_map];exact List.length_filter_le _ _
   have:=ok.many;omega)
  have Eu:decide (s.mayE=0)=true:=by simpa using hm
  have bq:(s.mayE==0)=true:=by simpa using hm
  obtain⟨c,hc⟩:=Zx (h.get s.id);rw[←hc]at LK;obtain⟨bw,bd⟩:=Zx ((h.at s.id).isSome);rw[←bd]at LK hE;obtain⟨n,bc⟩:=Zx (h.length);rw[←bc]at ay hE;obtain⟨d,au⟩:=Zx (h.depth s.par);rw[←au]at HD J hE;have b2:Hi (d≤8):=O (by
   rw[au];unfold Qm.depth;split;·omega
   ·split;·omega
    ·split;·omega
     ·rename_i hx;simp only[Bool.or_eq_true,decide_eq_true_eq,not_or]at hx;omega)
  have HE:=O hE;rw[hm]at I;unfold Fb ptr at*;clear hh ok hE hm ao ar bo hp z fb fm fG bt bu bv bp hc bd bc au Eu bq;go_enter func102,ntmps102;go_wp2_with fail;rw[←hW]at a0 a1 a2 a3 a4 a5 a6 a7 a8 a9 ak al am an⊢;clear hW;refine Zy HN ?_;rintro w1 rfl;go_wp2_with fail;refine Zz (I.o _) ?_;intro w1 c1;have C1:=O (C0.o.aA c1);have S1:=O (S0.o.aB c1);have b3:Hi (w.heap.size<w1.heap.size):=O (Nat.lt_of_lt_of_le (Qh.lt S0.o) c1.size);clear c1 a0 a1 a2 a3 a4 a5 a6 a7 a8 a9 ak al am an;go_wp2_with fail;refine ZC [100,101,102,103,104,105,106,107,108,109,210,211,312] (fun U=>Qc (Qb) (w1) U) ?_;simp only[Z8,Zf,Ze,Zd];iterate 3 (refine Qy (h:=?_);try simp only[Act.put,Za,Zc,Zb])
  iterate 1 (refine Qy (by kernel_rfl) (fun U hv=>by(obtain⟨z0,z1⟩:=Q4 (hv.blk (C1.o.blk Z.o (fun h=>h)) (fun h=>h)));go_simp;try rfl) ?_;try simp only[Act.put,Za,Zc,Zb])
  (refine Qy (h:=?_);try simp only[Act.put,Za,Zc,Zb]);iterate 2 (refine Qy (by kernel_rfl) (fun U hv=>by(obtain⟨z0,_⟩:=(show Xx U w.heap.size s from S1.o.aB hv).cells;have lk:=LK.o U (C1.o.aA hv));go_simp;try rfl) ?_;try simp only[Act.put,Za,Zc,Zb])
  iterate 3 (refine Qy (h:=?_);try simp only[Act.put,Za,Zc,Zb])
  refine Yb ?_;go_wp2_with fail;refine⟨((Zg Qb w1).alloc _).drew,?_⟩;have ap:Qh (w1.alloc (.cells Z6 109)).drew w1.heap.size Z6 109:=(Qh.new _ _ _).drew;have D1:Qc Qb w1 (w1.alloc (.cells Z6 109)).drew:=((Zg Qb w1).alloc _).drew;generalize(w1.alloc (.cells Z6 109)).drew=W1 at ap D1⊢;obtain⟨W2,s2,bm,C2⟩:=Q0 (P:=prog) (vs:=P0 c) ap rfl (Sn c);have af:Qc Qb w1 W2:=D1.trans C2 (fun k e=>.inr (by omega));have B:=O af;have av:=O (C1.o.aA af);clear ap D1 bm C2 af;refine Yb ?_;go_wp2_with fail;refine⟨B.o,?_⟩;refine Km ?_;go_wp2_with fail;refine Ky ?_;clear s2;have bz:=(show Xx W2 w.heap.size s from S1.o.aB B.o).cells.2.1;go_wp2_with fail;refine Zz (HD.o W2 av.o) ?_;intro w3 c3;have V:=O (av.o.aA c3);have S3:=O ((S1.o.aB B.o).aB c3);clear c3 bz;obtain⟨b0,b1⟩:=Q4 (V.o.blk Z.o (fun h=>h));have bb:=ay.o w3 V.o;by_cases z:64≤n
  ·have bg:decide (64≤(n:Int))=true:=by simp;omega
   have E:=O (show h.aO s=4 by rw[HE.o,if_pos z]);have u:=O (NO.o w3 V.o (by rw[E.o];decide));clear z;go_wp2_with fail;go_ret;exact⟨by rw[E.o];rfl,u.o⟩
  ·have bg:decide (64≤(n:Int))=false:=by simp;omega
   cases bw with
   |true=> have E:=O (show h.aO s=80 by rw[HE.o,if_neg z,if_pos rfl]);have u:=O (NO.o w3 V.o (by rw[E.o];decide));clear z;go_wp2_with fail;go_ret;exact⟨by rw[E.o];rfl,u.o⟩
   |false=>
    by_cases hd:d=0;·have E:=O (show h.aO s=160 by rw[HE.o,if_neg z,if_neg (by decide),if_pos hd]);have u:=O (NO.o w3 V.o (by rw[E.o];decide));subst hd;clear z;go_wp2_with fail;go_ret;exact⟨by rw[E.o];rfl,u.o⟩
    ·have E:=O (show h.aO s=0 by rw[HE.o,if_neg z,if_neg (by decide),if_neg hd]);have b4:decide ((d:Int)=0)=false:=by simp;omega
     have b5:((d:Int)==0)=false:=by simp;omega
     obtain⟨k1,k2,k3,k4,k5⟩:=J.o E.o;obtain⟨q,r4,c4,v,r5,az,bf,k6⟩:=k5 w3 V.o;have K:=O (Zt k1 (Zt k2 (Zt k3 k4)));have C4:=O c4;have aw:=O az;have ai:=O bf;have K6:=O k6;have S4:=O (c4.blk S3.o (fun e=>by
      have:=K.o.1;omega))
     have ag:=O (c4.blk (V.o.blk Z.o (fun h=>h)) K.o.2.2.1);clear z k1 k2 k3 k4 k5 k6 c4 az bf;go_wp2_with fail;clear b0 b1 bb;obtain⟨e0,R⟩:=Q4 ((V.o.blk Z.o (fun h=>h)).drew);obtain⟨g0,g1,g2,g3,g4,g5,g6,g7,g8,g9,bh,bi,bj,bk⟩:=(show Xx w3.drew w.heap.size s from S3.o.aB (Zg Qb w3).drew).cells;unfold P0 at r4;dsimp only at r4;refine ZB [0,1,2,3,4,5,6,7,8,209] ?_;simp only[Z8,Zf,Ze,Zd];iterate 9 (refine Jq (h:=?_))
     clear e0 R g0 g1 g2 g3 g4 g5 g6 g7 g8 g9 bh bi bj bk;refine J7 ?_;go_wp2_with fail;refine Jo ?_;clear r4;go_wp2_with fail;obtain⟨e0,R⟩:=Q4 ag.o.drew;obtain⟨_,g1,_⟩:=(show Xx q.drew w.heap.size s from Xx.aB S4.o (Zg Qb q).drew).cells;refine ZB [0,1,2,3,4,5,6,207] ?_;simp only[Z8,Zf,Ze,Zd];iterate 7 (refine Jq (h:=?_))
     clear e0 R g1;refine J7 ?_;go_wp2_with fail;refine Jo ?_;clear r5;obtain⟨g0,_⟩:=(show Xx q.drew w.heap.size s from Xx.aB S4.o (Zg Qb q).drew).cells;go_wp2_with fail;refine(Qn7 (Q6.aB aw.o (Zg Qb q).drew (fun _ _ h=>h)) (aj.o.imp fun h=>Int.le_of_lt h) (by have:=ab.o;omega) s.id).mono ?_;rintro e w5⟨i,fb,rfl,rfl,be⟩;have ax:=O be;clear be;go_wp2_with fail;clear g0;have NE:=O (fun k hk=>(ai.o k hk).2.1);obtain⟨g0,_⟩:=(show Xx q.drew.drew w.heap.size s from Xx.aB S4.o (Zg Qb q).drew.drew).cells;obtain⟨e0,R⟩:=Q4 ag.o.drew.drew;refine ZC [100,101,102,103,104,105,106,107,8,9,210,211,312] (fun U=>Qc (fun k=>v.ownBlock=some k) (q) U) ?_;simp only[Z8,Zf,Ze,Zd];iterate 3 (refine Qy (h:=?_);try simp only[Act.put,Za,Zc,Zb])
     iterate 1 (refine Qy (by kernel_rfl) (fun U hv=>by(obtain⟨z0,z1⟩:=Q4 (hv.blk ag.o (fun h=>NE.o _ h rfl)));go_simp;try rfl) ?_;try simp only[Act.put,Za,Zc,Zb])
     (refine Qy (h:=?_);try simp only[Act.put,Za,Zc,Zb]);iterate 1 (refine Qy (by kernel_rfl) (fun U hv=>by(obtain⟨_,z1,_⟩:=(show Xx U w.heap.size s from hv.blk S4.o (fun h=>by have:=(ai.o _ h).1;omega)).cells);go_simp;try rfl) ?_;try simp only[Act.put,Za,Zc,Zb])
     iterate 2 (refine Qy (h:=?_);try simp only[Act.put,Za,Zc,Zb])
     iterate 2 (refine Xe (h:=?_))
     clear e0 R g0;refine Yb ?_;go_wp2_with fail;refine⟨(Zg _ q).drew.drew.alloc _,?_⟩;have hV:Qh ((q.alloc (.cells #[ZI s.id] 3)).drew.drew) q.heap.size #[ZI s.id] 3:=(Qh.new _ _ _).drew.drew;have aq:Qc Qb q ((q.alloc (.cells #[ZI s.id] 3)).drew.drew):=((Zg _ q).alloc _).drew.drew;generalize(q.alloc (.cells #[ZI s.id] 3)).drew.drew=w5 at hV aq⊢;have ah:=O aq;have HV:=O hV;clear hV aq;refine Yb ?_;go_wp2_with fail;refine(Qkn (Q6.aB aw.o ah.o (fun _ _ h=>h)) (by have:=ab.o;omega) i ax.o.len s.id HV.o (fun k hk e=>by
      have h1:=(ai.o k hk).1;have h2:=V.o.size;have h3:=C4.o.size;omega)).mono ?_
     rintro e w6⟨v',rfl,ba,c6,ho⟩;obtain⟨w7,r7,ae,ac⟩:=K6.o i w5 w6 v' ax.o ah.o c6 ba ho;have u:=O (Zt ae ac);have C6:=O (ah.o.none.aA c6);clear ba c6 ho ae ac;go_wp2_with fail;refine⟨C6.o,?_⟩;refine Km ?_;go_wp2_with fail;refine Ky ?_;clear r7;go_wp2;go_ret;exact⟨by rw[E.o];rfl,u.o⟩
 ·have hE:h.aO s=130:=by rw[Am,if_pos hm]
  have hd:decide (s.mayE=0)=false:=by simpa using hm
  have b6:(s.mayE==0)=false:=by simpa using hm
  rw[hE];rw[hE]at NO;unfold Fb ptr at*;clear hh ok hE hm;go_enter func102,ntmps102;go_wp2_with fail;rw[←hW]at a0 a1 a2 a3 a4 a5 a6 a7 a8 a9 ak al am an⊢;clear hW;refine Zy HN ?_;rintro w1 rfl;go_wp2_with fail;refine Zz (I.o _) ?_;intro w1 c1;have u:=O (NO.o w1 (C0.o.aA c1) (by decide));clear c1;go_wp2_with fail;go_ret;exact⟨rfl,u.o⟩
end
end Go.Proofs.YtigcnnkagkbflaaGreat
