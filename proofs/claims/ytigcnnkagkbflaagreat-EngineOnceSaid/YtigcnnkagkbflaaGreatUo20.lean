/- A part of the proof: no condition. -/
import Derived.Test.YtigcnnkagkbflaaGreatUo19
namespace Go.Proofs.YtigcnnkagkbflaaGreat
set_option linter.unusedVariables false
set_option maxRecDepth 100000
set_option maxHeartbeats 4000000
open Go.RowKit
open Go.Proofs.Tryz
attribute [local go_sem] Qp
attribute [local irreducible] Kl J9 Xo
section
variable{s:Yk}
theorem Cq(h:s.mayE=0):1<=s.id/\s.id<=65535/\0<=s.par/\s.par<=65535/\s.id≠s.par:=by grind [Yk.mayE,Vm.id,Yk.named,inB]
theorem Md(h:s.mayE=0):s.real.May/\s.share.May/\s.aN.May:=by grind [Yk.mayE,Yk.curvesB]
theorem Qam(h:s.mayE=0)(c:s.leaf=true):1<=s.pk/\s.pk<=4096/\1<=s.bt/\s.bt<=16777216:=by grind [Yk.mayE,Qf.leaf,Yk.shapedB,inB]
end
section
variable{h:Qm}
theorem Wu{i:Int}(d:h.at i=none):∀c∈h,c.sp.id≠i:=by simpa[Qm.at]using d
theorem Da(u:Ex h){c:Vm}(k:c∈h):h.at c.sp.id=some c:=by have q:(h.map Vm.id).Nodup:=List.pairwise_map.2 (u.imp λ{a b}d(e:a.sp.id=b.sp.id)=>by omega);exact Ls (key:=Vm.id) q k rfl
theorem Qtm(c:Vm)(z:h.at c.sp.id=none)(k:Int):Qm.at (Mb c h) k=if k=c.sp.id then some c else h.at k:=by
 have q:=Wu z;clear z;unfold Qm.at;induction h with
 |nil=>
  rw[Mb,List.find?_cons];by_cases e:k=c.sp.id;·simp[e]
  .have:¬c.sp.id=k:=λd=>e d.symm;simp[e,this]
 |cons x l u=>
  have u:=u λy E=>q y (Zr _ E);have B:=q x List.mem_cons_self;rw[Mb];split
  .rw[List.find?_cons];by_cases e:k=c.sp.id;·simp[e]
   .have:¬c.sp.id=k:=λd=>e d.symm;simp only[this,decide_false];rw[if_neg e]
  .rw[List.find?_cons,List.find?_cons];by_cases e:x.sp.id=k;·have:¬k=c.sp.id:=λd=>B (by rw[e,d]);simp only[e,decide_true];rw[if_neg this]
   .simp only[e,decide_false];exact u
theorem Qtn(f:Vm->Vm)(u:∀c,(f c).sp.id=c.sp.id)(i k:Int):Qm.at (h.map λx=>if x.sp.id=i then f x else x) k=if k=i then(h.at i).map f else h.at k:=by
 unfold Qm.at;induction h with
 |nil=>simp
 |cons x l z=>
  rw[List.map_cons,List.find?_cons,List.find?_cons,List.find?_cons];by_cases d:x.sp.id=i
  .rw[if_pos d];by_cases e:k=i;·simp[u,d,e]
   .have B:¬(f x).sp.id=k:=λq=>e (by rw[<-q,u,d]);have E:¬x.sp.id=k:=λq=>e (by rw[<-q,d]);simp only[B,E,decide_false];rw[z,if_neg e,if_neg e]
  .rw[if_neg d];by_cases e:x.sp.id=k;·have:¬k=i:=λq=>d (by rw[e,q]);simp only[e,decide_true];rw[if_neg this]
   .simp only[e,d,decide_false];exact z
theorem Qkj(i k:Int):Qm.at (h.filter λx=>!decide (x.sp.id=i)) k=if k=i then none else h.at k:=by grind [Qm.at,Vm.id,Jy.at,Tr.at,Xh.at]
structure J8(h:Qm):Prop where
 sorted:Ex h
 may:∀c∈h,c.sp.mayE=0
 par:∀c∈h,(c.sp.par=0/\c.d=1)\/∃q,h.at c.sp.par=some q/\q.sp.leaf=false/\c.d=q.d+1
 dep:∀c∈h,1<=c.d/\c.d<=8
 many:h.length<=64
def Xk(h:Qm)(i:Int):Nat:=match h.at i with
 |none=>0
 |some c=>c.d
theorem V7{i:Int}{c:Vm}(d:h.at i=some c):Xk h i=c.d:=by unfold Xk;rw[d]
theorem Kr{i:Int}(c:h.at i=none):Xk h i=0:=by unfold Xk;rw[c]
theorem J8.nil:J8 []:=⟨List.Pairwise.nil,nofun,nofun,nofun,Nat.zero_le _⟩
theorem J8.pos(u:J8 h){i:Int}{c:Vm}(q:h.at i=some c):1<=i/\i<=65535/\0<=c.sp.par/\i≠c.sp.par/\c.sp.id=i/\c∈h:=by obtain⟨k,d⟩:=Qm.aE q;have:=Cq (u.may c k);rw[d]at this;exact⟨this.1,this.2.1,this.2.2.1,this.2.2.2.2,d,k⟩
theorem J8.zero(k:J8 h){i:Int}(q:i<1):h.at i=none:=by
 cases d:h.at i with
 |none=>rfl
 |some c=>have:=(k.pos d).1;omega
theorem J8.nodup(d:J8 h):(h.map Vm.id).Nodup:=List.pairwise_map.2 (d.sorted.imp λ{a b}c(e:a.sp.id=b.sp.id)=>by omega)
theorem Qgy(k:J8 h){c:Int}(d:h.depth c≠0):(c=0/\h.depth c=1)\/∃q,h.at c=some q/\q.sp.leaf=false/\h.depth c=q.d+1/\q.d<8:=by grind [Qm.depth,Jy.at,Tr.at,Xh.at,Qf.leaf]
theorem Ub{s:Yk}(c:h.aO s=0):s.mayE=0/\h.length<64/\h.at s.id=none/\h.depth s.par≠0:=by
 unfold Qm.aO at c;split at c;·cases c
 .rename_i q;split at c;·cases c
  .rename_i u;split at c;·cases c
   .rename_i d;split at c;·cases c
    .rename_i k;exact⟨by omega,by omega,by simpa using d,k⟩
theorem Bv{s:Yk}(c:h.aO s=0):h.add s=Mb ⟨s,h.depth s.par⟩ h:=by unfold Qm.add;rw[if_pos c]
theorem Qjv{s:Yk}(c:h.aO s=0)(k:Int):(h.add s).at k=if k=s.id then some ⟨s,h.depth s.par⟩else h.at k:=by rw[Bv c];exact Qtm ⟨s,h.depth s.par⟩ (Ub c).2.2.1 k
theorem J8.add(E:J8 h){s:Yk}(I:h.aO s=0):J8 (h.add s):=by
 obtain⟨R,h2,U,Z⟩:=Ub I;have z:=Qjv I;have V:=Qgy E Z;have J:=Wu U;have K:s.par≠s.id:=λe=>(Cq R).2.2.2.2 e.symm;rw[Bv I]at z|-;have u:∀x,x∈Mb ⟨s,h.depth s.par⟩ h->x∈h\/x=⟨s,h.depth s.par⟩:=λx hx=>by have:=(Ef ⟨s,h.depth s.par⟩ h).mem_iff.1 hx;simpa using this
 refine⟨Wz _ E.sorted J,λc d=>?_,λc d=>?_,λc d=>?_,?_⟩
 .rcases u c d with d|rfl;·exact E.may c d
  .exact R
 .rcases u c d with d|rfl
  .refine(E.par c d).imp id λ⟨q,B,k⟩=>⟨q,?_,k⟩;rw[z,if_neg ?_];·exact B
   .intro e;rw[e,U]at B;cases B
  .refine V.imp (λh=>h) λ⟨q,B,k1,k2,_⟩=>⟨q,?_,k1,k2⟩;show Qm.at _ s.par=_;rw[z,if_neg K];exact B
 .rcases u c d with d|rfl;·exact E.dep c d
  .rcases V with⟨_,e⟩|⟨q,B,_,e,h8⟩;·show 1<=h.depth s.par/\h.depth s.par<=8;omega
   .show 1<=h.depth s.par/\h.depth s.par<=8;omega
 .have:=(Ef ⟨s,h.depth s.par⟩ h).length_eq;simp only[List.length_append,Zm,List.length_nil]at this;omega
theorem Gb{s:Yk}(d:h.aG s=0):∃c,h.at s.id=some c/\(c.sp.aK s).mayE=0:=by
 unfold Qm.aG at d;cases k:h.at s.id with
 |none=>rw[k]at d;cases d
 |some c=>
  rw[k]at d;dsimp only at d;split at d;·cases d
  .rename_i e;exact⟨c,rfl,by omega⟩
theorem Si{s:Yk}(c:h.aG s=0)(k:Int):(h.change s).at k=if k=s.id then(h.at s.id).map (λx=>⟨x.sp.aK s,x.d⟩)else h.at k:=by unfold Qm.change;rw[if_pos c];exact Qtn (λx=>⟨x.sp.aK s,x.d⟩) (λ_=>rfl) s.id k
theorem J8.change(z:J8 h){s:Yk}(I:h.aG s=0):J8 (h.change s):=by
 obtain⟨c0,K,hm⟩:=Gb I;have k:=Si I;unfold Qm.change at k|-;rw[if_pos I]at k|-;have d:∀x,x∈(h.map λx=>if x.sp.id=s.id then(⟨x.sp.aK s,x.d⟩:Vm)else x)->∃y∈h,x.d=y.d/\x.sp.par=y.sp.par/\x.sp.leaf=y.sp.leaf/\x.sp.mayE=0:=λx hx=>by
  obtain⟨y,u,rfl⟩:=Z3.1 hx;refine⟨y,u,?_⟩;by_cases e:y.sp.id=s.id
  .rw[if_pos e];have:y=c0:=by have U:=Da z.sorted u;rw[e,K]at U;exact(Zs U).symm
   rw[this];exact⟨rfl,rfl,rfl,hm⟩
  .rw[if_neg e];exact⟨rfl,rfl,rfl,z.may y u⟩
 refine⟨?_,λc B=>(d c B).choose_spec.2.2.2.2,λc B=>?_,λc B=>?_,by rw[List.length_map];exact z.many⟩
 .refine List.pairwise_map.2 (z.sorted.imp λ{a b}J=>?_);have e:∀x:Vm,(if x.sp.id=s.id then(⟨x.sp.aK s,x.d⟩:Vm)else x).sp.id=x.sp.id:=λx=>by split<;>rfl
  rw[e,e];exact J
 .obtain⟨y,u,E,e2,e3,_⟩:=d c B;rw[E,e2];refine(z.par y u).imp id λ⟨q,R,V,Z⟩=>?_;rw[k];split;·rename_i e;rw[e]at R;rw[R];exact⟨_,rfl,V,Z⟩
  .exact⟨q,R,V,Z⟩
 .obtain⟨y,u,E,_⟩:=d c B;rw[E];exact z.dep y u
theorem Tz{i:Int}(d:h.aP i=0):∃c,h.at i=some c/\h.aM i=[]:=by
 unfold Qm.aP at d;cases k:h.at i with
 |none=>rw[k]at d;cases d
 |some c=>
  rw[k]at d;dsimp only at d;split at d;·cases d
  .rename_i e;exact⟨c,rfl,by simpa using e⟩
theorem Qby{i:Int}(k:h.aM i=[]):∀c∈h,c.sp.par≠i:=λc d e=>by have:c.sp.id∈h.aM i:=Z3.2 ⟨c,List.mem_filter.2 ⟨d,by simpa using e⟩,rfl⟩;rw[k]at this;cases this
theorem We{i:Int}(c:h.aP i=0)(k:Int):(h.drop i).at k=if k=i then none else h.at k:=by unfold Qm.drop;rw[if_pos c];exact Qkj i k
theorem J8.drop(B:J8 h){i:Int}(E:h.aP i=0):J8 (h.drop i):=by obtain⟨V,J,R⟩:=Tz E;have u:=We E;have I:=Qby R;unfold Qm.drop at u|-;rw[if_pos E]at u|-;have d:∀x,x∈(h.filter λx=>!decide (x.sp.id=i))->x∈h:=λx U=>(List.mem_filter.1 U).1;refine⟨B.sorted.filter _,λc z=>B.may c (d c z),λc z=>?_,λc z=>B.dep c (d c z),Zp (List.length_filter_le _ _) B.many⟩;refine(B.par c (d c z)).imp id λ⟨q,K,k⟩=>⟨q,?_,k⟩;rw[u,if_neg (I c (d c z))];exact K
theorem Qhj(z:J8 h):∀{n:Nat}{i j:Int}{c:Vm},Xk h i<n->j∈h.path n i->h.at j=some c->c.sp.par≠0->c.sp.par∈h.path n i
 |0,i,j,c,hd,_,_,_=>by omega
 |n+1,i,j,c,hd,d,hc,hp=>by
  rw[Qm.path]at d|-;cases u:h.at i with
  |none=>rw[u]at d;cases d
  |some x=>
   rw[u]at d;dsimp only at d|-;rw[V7 u]at hd;obtain⟨E,R⟩:=Qm.aE u;have key:x.sp.par≠0->∃q,h.at x.sp.par=some q/\x.d=q.d+1/\1<=q.d:=λB=>by
    rcases z.par x E with J|⟨q,k,_,K⟩;·exact absurd J.1 B
    .exact⟨q,k,K,(z.dep q (Qm.aE k).1).1⟩
   rcases Zu.1 d with rfl|d;·rw[u]at hc;obtain rfl:=Zs hc;obtain⟨q,k,e,I⟩:=key hp;refine Zr _ ?_;obtain⟨m,rfl⟩:∃m,n=m+1:=⟨n-1,by omega⟩;rw[Qm.path,k];exact List.mem_cons_self
   .by_cases B:x.sp.par=0
    .have U:=z.zero (i:=x.sp.par) (by omega);cases n with
     |zero=>rw[Qm.path]at d;cases d
     |succ m=>rw[Qm.path,U]at d;cases d
    .obtain⟨q,k,e,I⟩:=key B;refine Zr _ (Qhj z ?_ d hc hp);rw[V7 k];omega
theorem Y8{id x:Int}:x∈h.aI id↔∃c∈h,c.sp.id=x/\c.sp.leaf=true/\(id=0\/id∈h.path 9 x):=by grind [Qm.aI,Vm.id,Qf.leaf,Qe.path,Qm.path,Qm.below]
theorem Ut(c:J8 h)(id:Int):(h.aI id).Pairwise (· < ·):=by unfold Qm.aI;exact List.pairwise_map.2 (c.sorted.filter _)
end
structure Vp(h:Qm)(p:Qe):Prop where
 root:∃r,p.at 0=some r/\r.leaf=false/\r.aM=(h.aM 0).length
 cls:∀i,i≠0->(p.at i).map (λx=>(x.par,x.leaf,x.aJ,x.aM))=(h.at i).map λc=>(c.sp.par,c.sp.leaf,c.sp.aJ,(h.aM i).length)
section
variable{h:Qm}{p p':Qe}{N M:Nat}{dep:Int->Nat}
theorem Vp.fwd(m:Vp h p)(q:J8 h){i:Int}{c:Vm}(d:h.at i=some c):∃x,p.at i=some x/\x.par=c.sp.par/\x.leaf=c.sp.leaf/\x.aJ=c.sp.aJ/\x.aM=(h.aM i).length:=by
 have u:=(q.pos d).1;have:=m.cls i (by omega);rw[d]at this;cases k:p.at i with
 |none=>rw[k]at this;cases this
 |some x=> rw[k]at this;simp only[Zn,Option.some.injEq,Prod.mk.injEq]at this;exact⟨x,rfl,this⟩
theorem Vp.back(m:Vp h p){i:Int}(k:i≠0){x:Qx}(q:p.at i=some x):∃c,h.at i=some c/\x.par=c.sp.par/\x.leaf=c.sp.leaf/\x.aJ=c.sp.aJ/\x.aM=(h.aM i).length:=by
 have:=m.cls i k;rw[q]at this;cases d:h.at i with
 |none=>rw[d]at this;cases this
 |some c=> rw[d]at this;simp only[Zn,Option.some.injEq,Prod.mk.injEq]at this;exact⟨c,rfl,this⟩
theorem Vp.no(m:Vp h p){i:Int}(c:i≠0)(d:h.at i=none):p.at i=none:=by have:=m.cls i c;rw[d]at this;simpa using this
theorem Vp.path(m:Vp h p)(k:J8 h):∀(n:Nat)(i:Int),p.path n i=h.path n i
 |0,_=>rfl
 |n+1,i=>by
  rw[Qe.path,Qm.path];by_cases d:i<1;·rw[if_pos d,k.zero d]
  .rw[if_neg d];cases q:h.at i with
   |none=>rw[m.no (by omega) q]
   |some c=> obtain⟨x,u,e,_⟩:=m.fwd k q;rw[u];dsimp only;rw[e,m.path k n]
theorem Vp.par(m:Vp h p)(d:J8 h){c:Vm}(z:c∈h):∃q,p.at c.sp.par=some q/\q.leaf=false/\q.aM=(h.aM c.sp.par).length:=by
 rcases d.par c z with⟨e,_⟩|⟨q,E,B,_⟩;·rw[e];exact m.root
 .obtain⟨x,I,_,k,_,u⟩:=m.fwd d E;exact⟨x,I,k.trans B,u⟩
theorem Vp.same(m:Vp h p)(k:Jv p p')(U:Hm p p'):Vp h p':=by
 have B:∀i,(p'.at i).map Qx.aM=(p.at i).map Qx.aM:=λi=>by
  have:=U i 0;cases c:p.at i with
  |none=>rw[k.none c]
  |some x=> obtain⟨y,q,_⟩:=k.get c;rw[c,q]at this;simp only[Zn,Option.some.injEq,Prod.mk.injEq]at this;rw[q];simp[this.2]
 refine⟨?_,λi K=>?_⟩;·obtain⟨r,z,R,J⟩:=m.root;obtain⟨V,d,_,u,_⟩:=k.get z;have:=B 0;rw[z,d]at this;simp only[Zn,Option.some.injEq]at this;exact⟨V,d,u.trans R,this.trans J⟩
 .rw[<-m.cls i K];have:=B i;cases c:p.at i with
  |none=>rw[k.none c]
  |some x=> obtain⟨y,q,E,u,I⟩:=k.get c;rw[c,q]at this;simp only[Zn,Option.some.injEq]at this;rw[q];simp[this,E,u,I]
theorem Vp.new:Vp [] Qe.new:=by refine⟨⟨_,by rw[Rl,if_pos rfl],rfl,rfl⟩,λi c=>?_⟩;rw[Rl,if_neg c];rfl
theorem Qwe(h:Qm)(i:Int):(h.aM i).length<=h.length:=by unfold Qm.aM;rw[List.length_map];exact List.length_filter_le _ _
theorem Ra(x:Int):∀l:List Int,(Nm x l).length=l.length+1
 |[]=>rfl
 |y::l=>by
  rw[Nm];split;·rfl
  .simp[Ra x l]
theorem Qje(E:J8 h){i:Int}(z:i≠0)(B:h.at i=none):h.aM i=[]:=by
 unfold Qm.aM;rw[List.map_eq_nil_iff,List.filter_eq_nil_iff];intro c u e;simp only[decide_eq_true_eq]at e;rcases E.par c u with⟨k,_⟩|⟨q,d,_⟩;·exact z (e.symm.trans k)
 .rw[e,B]at d;cases d
theorem Vp.add(m:Vp h p)(I:J8 h){s:Yk}(U:h.aO s=0):
  ∃q,p.at s.par=some q/\q.leaf=false/\q.aM<=64/\p.at s.id=none/\1<=s.id/\Vp (h.add s) (p.put s)/\
   Xk (h.add s) 0=0/\Xk (h.add s) s.id=Xk (h.add s) s.par+1/\Xk (h.add s) s.id<=8/\∀i,i≠s.id->Xk (h.add s) i=Xk h i:=by
 obtain⟨h1,h2,h3,h4⟩:=Ub U;obtain⟨i1,i2,i3,i4,i5⟩:=Cq h1;have hn:=m.no (by omega) h3;have z:=Qjv U;have hd:=Qgy I h4;have ae:=I.add U;have u:∃q,p.at s.par=some q/\q.leaf=false/\q.aM=(h.aM s.par).length:=by
  rcases hd with⟨e,_⟩|⟨q,u,K,_⟩;·rw[e];exact m.root
  .obtain⟨x,Z,_,d,_,e3⟩:=m.fwd I u;exact⟨x,Z,d.trans K,e3⟩
 obtain⟨q,u,K,R⟩:=u;have hu:∀k,(h.add s).aM k=if s.par=k then Nm s.id (h.aM k)else h.aM k:=λk=>by rw[Bv U];exact Fe ⟨s,h.depth s.par⟩ k I.sorted
 have E:=Qsc i1 hn u K;have J:∀i,i≠s.id->Xk (h.add s) i=Xk h i:=λi V=>by unfold Xk;rw[z,if_neg V]
 refine⟨q,u,K,by rw[R];exact Zp (Qwe _ _) (by omega),hn,i1,⟨?_,λi V=>?_⟩,?_,?_,?_,J⟩
 .by_cases e:s.par=0;·refine⟨{q with mem:=if s.aJ then q.mem.add s.id s.share else q.mem,aM:=q.aM+1},by rw[E,if_pos e.symm],K,?_⟩;rw[hu,if_pos e,Ra,<-e,<-R]
  .obtain⟨r,hr,ab,ac⟩:=m.root;refine⟨r,by rw[E,if_neg (Ne.symm e),if_neg (by omega)];exact hr,ab,?_⟩;rw[hu,if_neg e,ac]
 .rw[E,z,hu];by_cases e:i=s.par
  .have aa:s.par≠s.id:=λe=>i5 e.symm;subst e;rw[if_pos rfl,if_neg (c:=s.par=s.id) aa,if_pos rfl,Ra];have B:=m.cls s.par V;rw[u]at B;cases Z:h.at s.par with
   |none=>rw[Z]at B;cases B
   |some c=> rw[Z]at B;simp only[Zn,Option.some.injEq,Prod.mk.injEq]at B;simp[B.1,B.2.1,B.2.2.1,B.2.2.2]
  .rw[if_neg e,if_neg (Ne.symm e)];by_cases d:i=s.id;·rw[if_pos d,if_pos d,d,Qje I (by omega) h3];rfl
   .rw[if_neg d,if_neg d];exact m.cls i V
 .exact Kr (ae.zero (by decide))
 .rw[V7 (by rw[z,if_pos rfl]),J s.par (λe=>i5 e.symm)];rcases hd with⟨e,d⟩|⟨q,u,_,d,_⟩;·show h.depth s.par=_;rw[d,e,Kr (I.zero (by decide))]
  .show h.depth s.par=_;rw[d,V7 u]
 .rw[V7 (by rw[z,if_pos rfl])];rcases hd with⟨e,d⟩|⟨q,u,_,d,_⟩;·show h.depth s.par<=8;omega
  .show h.depth s.par<=8;omega
theorem Vp.aK(m:Vp h p)(ok:J8 h)(J:Qs dep N p){s:Yk}(K:h.aG s=0)(ha:p.aL s.id=false):
  ∃c q,p.at s.id=some c/\1<=s.id/\p.at c.par=some q/\Vp (h.change s) (p.aK s)/\∀i,Xk (h.change s) i=Xk h i:=by
 obtain⟨c0,d,hm⟩:=Gb K;obtain⟨i1,_,_,i4,i5,i6⟩:=ok.pos d;obtain⟨c,R,V,e2,e3,e4⟩:=m.fwd ok d;obtain⟨q,u⟩:=J.par R (by omega);have B:=Si K;have z:=Qit J i1 R ha u;have hu:∀k,(h.change s).aM k=h.aM k:=λk=>by unfold Qm.change;rw[if_pos K];exact Ik h s k
 have aa:c.par≠s.id:=by rw[V];exact λe=>i4 e.symm
 refine⟨c,q,R,i1,u,⟨?_,λi hi=>?_⟩,λi=>?_⟩
 .obtain⟨r,U,E,I⟩:=m.root;rw[hu];by_cases e:0=c.par
  .refine⟨{q with mem:=if s.aJ then(q.mem.drop s.id).add s.id s.share else q.mem.drop s.id},by rw[z,if_neg (by omega),if_pos e],?_,?_⟩;·rw[<-e,U]at u;obtain rfl:=Zs u;exact E
   .rw[<-e,U]at u;obtain rfl:=Zs u;exact I
  .exact⟨r,by rw[z,if_neg (by omega),if_neg e];exact U,E,I⟩
 .rw[z,B,hu];by_cases e:i=s.id;·rw[if_pos e,if_pos e,d,e];simp only[Zn,Option.some.injEq,Prod.mk.injEq];exact⟨V,e2,rfl,e4⟩
  .rw[if_neg e,if_neg e];split;·rename_i Z;have:=m.cls i hi;rw[Z,u]at this;rw[Z,<-this];rfl
   .exact m.cls i hi
 .unfold Xk;rw[B];by_cases e:i=s.id;·rw[if_pos e,e,d];rfl
  .rw[if_neg e]
theorem Qql{i:Int}{c:Vm}(d:c∈h)(k:c.sp.par=i):1<=(h.aM i).length:=by have:c.sp.id∈h.aM i:=Z3.2 ⟨c,List.mem_filter.2 ⟨d,by simpa using k⟩,rfl⟩;exact List.length_pos_of_mem this
theorem Vp.drop(m:Vp h p)(ok:J8 h)(ah:Qs dep N p){i:Int}(h0:h.aP i=0)(ha:p.aL i=false):
  ∃c q,p.at i=some c/\1<=i/\c.aM=0/\p.at c.par=some q/\1<=q.aM/\(∀j d,p.at j=some d->0<j->d.par≠i)/\Vp (h.drop i) (p.drop i)/\∀j,j≠i->Xk (h.drop i) j=Xk h j:=by
 obtain⟨c0,I,ac⟩:=Tz h0;obtain⟨i1,_,_,i4,i5,i6⟩:=ok.pos I;obtain⟨c,hc,e1,e2,e3,e4⟩:=m.fwd ok I;obtain⟨q,K,ag,U⟩:=m.par ok i6;rw[<-e1]at K;have aa:c.aM=0:=by rw[e4,ac];rfl
 have E:=We h0;have B:=Iz i1 hc aa ha K;have R:∀j d,p.at j=some d->0<j->d.par≠i:=λj d hd hj e=>by obtain⟨d0,Eu,k1,_⟩:=m.back (by omega) hd;exact Qby ac d0 (Qm.aE Eu).1 (k1.symm.trans e)
 have hu:∀k,(h.drop i).aM k=(h.aM k).filter λy=>!decide (y=i):=λk=>by unfold Qm.drop;rw[if_pos h0];exact Ph h i k
 have J:∀k,k≠c.par->(h.drop i).aM k=h.aM k:=λk hk=>by rw[hu k];rw[<-Ph];exact Ij ok.nodup I (by rw[<-e1];exact hk)
 have ab:((h.drop i).aM c.par).length=q.aM-1:=by
  rw[hu,U,e1];have u:i∈h.aM c0.sp.par:=Z3.2 ⟨c0,List.mem_filter.2 ⟨i6,by simp⟩,i5⟩;have hs:=Gk ok.sorted c0.sp.par;generalize h.aM c0.sp.par=l at u hs;clear hu J B E;induction l with
  |nil=>cases u
  |cons y l ih=>
   rw[List.filter_cons];have Z:=List.pairwise_cons.1 hs;by_cases e:y=i
   .have:l.filter (λy=>!decide (y=i))=l:=List.filter_eq_self.2 λz hz=>by
     have:=Z.1 z hz;have:z≠i:=by omega
     simpa using this
    simp[e,this]
   .have hm:i∈l:=(Zu.1 u).resolve_left (λe'=>e e'.symm);have:=ih hm Z.2;have hp:1<=l.length:=List.length_pos_of_mem hm;simp only[e,decide_false,Bool.not_false,if_true,Zm];omega
 have ae:1<=q.aM:=by rw[U];exact Qql i6 rfl
 refine⟨c,q,hc,i1,aa,K,ae,R,⟨?_,λk hk=>?_⟩,λj hj=>?_⟩
 .obtain⟨r,hr,V,af⟩:=m.root;by_cases e:0=c.par
  .refine⟨{q with mem:=q.mem.drop i,aM:=q.aM-1},by rw[B,if_neg (by omega),if_pos e],?_,?_⟩;·rw[<-e,hr]at K;obtain rfl:=Zs K;exact V
   .rw[e];exact ab.symm
  .exact⟨r,by rw[B,if_neg (by omega),if_neg e];exact hr,V,by rw[J 0 e];exact af⟩
 .rw[B,E];by_cases e:k=i;·rw[if_pos e,if_pos e];rfl
  .rw[if_neg e,if_neg e];split
   .rename_i e5;have:=m.cls k hk;rw[e5,K]at this;rw[e5,ab];cases hx:h.at c.par with
    |none=>rw[hx]at this;cases this
    |some x=> rw[hx]at this;simp only[Zn,Option.some.injEq,Prod.mk.injEq]at this;simp[this.1,this.2.1,this.2.2.1]
   .rename_i e5;rw[J k e5];exact m.cls k hk
 .unfold Xk;rw[E,if_neg hj]
end
section
variable{X:Type}{key:X->Int}{l:List X}
theorem Qeo{x y:X}(h:Hn key (key x) l=some y)(k:Int):Hn key k (Lg key x l)=if k=key x then some x else Hn key k l:=by
 unfold Hn Lg at*;induction l with
 |nil=>cases h
 |cons z l J=>
  rw[List.map_cons,List.find?_cons,List.find?_cons];rw[List.find?_cons]at h;by_cases d:key z=key x
  .rw[if_pos d];by_cases e:k=key x;·simp[e]
   .have E:¬key x=k:=λc=>e c.symm;have K:¬key z=k:=λc=>e (by rw[<-c,d]);simp only[E,K,decide_false];rw[if_neg e];clear h J;induction l with
    |nil=>rfl
    |cons u l q=>
     rw[List.map_cons,List.find?_cons,List.find?_cons];by_cases B:key u=key x;·rw[if_pos B];have R:¬key u=k:=λc=>e (by rw[<-c,B]);simp only[E,R,decide_false];exact q
     .rw[if_neg B];by_cases I:key u=k;·simp only[I,decide_true]
      .simp only[I,decide_false];exact q
  .rw[if_neg d];simp only[d,decide_false]at h;by_cases e:key z=k;·have:¬k=key x:=λc=>d (by rw[e,c]);simp only[e,decide_true];rw[if_neg this]
   .simp only[e,decide_false];exact J h
theorem Ix(x:X)(k:Int):Hn key k (l++[x])=(Hn key k l).or (if key x=k then some x else none):=by simp[Hn]
theorem Qgi(i k:Int):Hn key k (Kp key i l)=if k=i then none else Hn key k l:=by grind [Hn,Kp]
theorem Qqa(x:X):(Lg key x l).map key=l.map key:=by
 unfold Lg;rw[List.map_map];refine List.map_congr_left λy _=>?_;simp only[Function.comp];split;·rename_i h;exact h.symm
 .rfl
theorem Qm1{f:X->X}(c:∀x,key (f x)=key x)(k:Int):Hn key k (l.map f)=(Hn key k l).map f:=by
 unfold Hn;induction l with
 |nil=>rfl
 |cons z l d=>
  rw[List.map_cons,List.find?_cons,List.find?_cons,c];by_cases h:key z=k;·simp[h]
  .simp only[h,decide_false];exact d
end
structure Br(N:Nat)(h:Qm)(p:Qe)(l:Qw):Prop where
 sp:∃c,h.at l.id=some c/\c.sp.leaf=true/\(l.pk:Int)=c.sp.pk/\(l.bt:Int)=c.sp.bt/\l.debt.isSome=!c.sp.real.none/\p.aL l.id=(c.sp.aJ&&decide (l.q≠[]))
 many:l.q.length<=l.pk
 held:Jn l.q<=l.bt
 good:∀x∈l.q,Ll x/\x.cls=l.id
 debt:∀d,l.debt=some d->d.got<=Xw/\d.run.l.length<=N/\d.aL=decide (l.q≠[])
def Qvc(aI:List Qw)(c:List Xu):Prop:=∀a i b,(a,i,b)∈c↔∃l d,Hn Qw.id i aI=some l/\l.debt=some d/\d.aL=true/\a=d.elig/\b=d.due
structure Vl(N:Nat)(s:Qf):Prop where
 most:1<=s.most/\s.most<65536
 tree:J8 s.tree
 pick:Qs (Xk s.tree) N s.pick
 pinv:Uz s.pick
 mt:Vp s.tree s.pick
 nd:(s.aI.map Qw.id).Nodup
 lv:∀i c,s.tree.at i=some c->c.sp.leaf=true->∃l,s.leaf i=some l
 ok:∀l∈s.aI,Br N s.tree s.pick l
 row:Qvc s.aI s.row
section
variable{N M:Nat}{s:Qf}
theorem Vl.at(h:Vl N s){i:Int}{l:Qw}(k:s.leaf i=some l):Br N s.tree s.pick l/\l.id=i/\l∈s.aI:=by obtain⟨c,d⟩:=Y3 (key:=Qw.id) k;exact⟨h.ok l c,d,c⟩
theorem Vl.leaf_of(h:Vl N s){l:Qw}(c:l∈s.aI):s.leaf l.id=some l:=Ls (key:=Qw.id) h.nd c rfl
theorem Br.more{h:Qm}{p:Qe}{l:Qw}(k:Br N h p l)(q:N<=M):Br M h p l:=⟨k.sp,k.many,k.held,k.good,λd c=>⟨(k.debt d c).1,Zp (k.debt d c).2.1 q,(k.debt d c).2.2⟩⟩
theorem Vl.new{k:Int}(q:1<=k)(u:k<65536):Vl N (Qf.new k):=
 ⟨⟨q,u⟩,J8.nil,Qs.new rfl,Uz.new,Vp.new,List.nodup_nil,λi c z=>(by cases z),nofun,λa i b=>⟨λh=>(by cases h),λ⟨l,d,h,_⟩=>(by cases h)⟩⟩
theorem Qnu:∀{l:List Int}{x:Int},(∀y∈l,0<=y)->x∈l->0<x->0<l.sum
 |y::l,x,h,k,h0=>by
  rw[List.sum_cons];have c:=h y List.mem_cons_self;have d:∀{l:List Int},(∀y∈l,0<=y)->0<=l.sum:=λ{l}h=>by
   induction l with
   |nil=>simp
   |cons z l q=>rw[List.sum_cons];have:=h z List.mem_cons_self;have:=q λy c=>h y (Zr _ c);omega
  rcases Zu.1 k with rfl|k;·have:=d λy c=>h y (Zr _ c);omega
  .have:=Qnu (λy c=>h y (Zr _ c)) k h0;omega
theorem Qhx{id x:Int}(d:x∈s.tree.aI id)(c:s.qOf x≠[]):0<s.many id:=by
 unfold Qf.many;refine Qnu (x:=((s.qOf x).length:Int)) (λy k=>?_) (Z3.2 ⟨x,d,rfl⟩) ?_;·obtain⟨z,_,rfl⟩:=Z3.1 k;omega
 .have:=List.length_pos_iff.2 c;omega
theorem Ov{i:Int}{l:Qw}(h:s.leaf i=some l):s.qOf i=l.q:=by unfold Qf.qOf;rw[h];rfl
theorem Vl.busy(h:Vl N s){L:Int}{x:Qx}(z:s.pick.at L=some x)(q:x.leaf=true)(ha:s.pick.aL L=true):∃c l,s.tree.at L=some c/\c.sp.leaf=true/\s.leaf L=some l/\l.q≠[]:=by
 have J:L≠0:=λe=>by obtain⟨r,R,u,_⟩:=h.mt.root;rw[e,R]at z;obtain rfl:=Zs z;rw[u]at q;cases q
 obtain⟨c,I,_,B,_⟩:=h.mt.back J z;obtain⟨l,d⟩:=h.lv L c I (B.symm.trans q);obtain⟨k,U,_⟩:=h.at d;obtain⟨V,K,_,_,_,_,E⟩:=k.sp;refine⟨c,l,I,B.symm.trans q,d,?_⟩;rw[U,ha]at E;have:=E.symm;simp only[Zw,decide_eq_true_eq]at this;exact this.2
theorem Vl.asleep(h:Vl N s){i:Int}(J:¬0<s.many i):s.pick.aL i=false:=by
 cases ha:s.pick.aL i with
 |false=>rfl
 |true=> obtain⟨L,x,R,I,B,d⟩:=h.pinv.low i ha;obtain⟨c,l,E,q,z,K⟩:=h.busy R I d;rw[h.mt.path h.tree]at B;obtain⟨u,k⟩:=Qm.aE E;exact absurd (Qhx (Y8.2 ⟨c,u,k,q,.inr B⟩) (by rw[Ov z];exact K)) J
theorem Vl.add(h:Vl N s){c:Yk}(h0:s.aO c=0):Vl N (s.add c):=by
 have E:s.tree.aO c=0:=h0;obtain⟨q,hq,ae,aj,hn,i1,mt,d0,d1,d8,dd⟩:=h.mt.add h.tree E;have Z:=Qjv E;have aa:=(Ub E).2.2.1;have ai:=(Ub E).1;have af:Qs (Xk (s.tree.add c)) N (s.pick.put c):=h.pick.put i1 hn hq ae (by omega) d0 (λx B ak=>dd x.id (Qm2 hn x B)) d1 d8;obtain⟨pv,ag⟩:=h.pinv.put h.pick i1 hn hq ae af;have e:s.add c={s with tree:=s.tree.add c,pick:=s.pick.put c,aI:=if c.leaf then s.aI++[⟨c.id,c.pk.toNat,c.bt.toNat,[],Xl c.real⟩]else s.aI}:=by unfold Qf.add;rw[if_pos h0]
 rw[e];have R:∀l∈s.aI,l.id≠c.id:=λl u e=>by obtain⟨x,B,_⟩:=(h.ok l u).sp;rw[e,aa]at B;cases B
 have U:∀l∈s.aI,Br N (s.tree.add c) (s.pick.put c) l:=λl u=>by have k:=h.ok l u;obtain⟨x,B,k2⟩:=k.sp;exact⟨⟨x,by rw[Z,if_neg (R l u)];exact B,by rw[ag];exact k2⟩,k.many,k.held,k.good,k.debt⟩
 have J:∀i,i≠c.id->Hn Qw.id i (if c.leaf then s.aI++[⟨c.id,c.pk.toNat,c.bt.toNat,[],Xl c.real⟩]else s.aI)=s.leaf i:=λi hi=>by
  split;·rw[Ix,if_neg (λe=>hi e.symm)];show(s.leaf i).or none=_;cases s.leaf i<;>rfl
  .rfl
 refine⟨h.most,h.tree.add E,af,pv,mt,?_,λi x B ab=>?_,λl u=>?_,λa i b=>?_⟩
 .dsimp only;split
  .rw[List.map_append];refine List.nodup_append.2 ⟨h.nd,by simp,λa ha b hb=>?_⟩;obtain⟨l,u,rfl⟩:=Z3.1 ha;obtain rfl:b=c.id:=by simpa using hb
   exact R l u
  .exact h.nd
 .dsimp only at B;rw[Z]at B;by_cases V:i=c.id
  .rw[if_pos V]at B;obtain rfl:=Zs B;dsimp only at ab;refine⟨⟨c.id,c.pk.toNat,c.bt.toNat,[],Xl c.real⟩,?_⟩;show Hn Qw.id i (if c.leaf then _ else _)=_;rw[if_pos ab,Ix,V,if_pos rfl];have:Hn Qw.id c.id s.aI=none:=by
    cases K:Hn Qw.id c.id s.aI with
    |none=>rfl
    |some l=>exact absurd (Y3 K).2 (R l (Y3 K).1)
   rw[this];rfl
  .rw[if_neg V]at B;obtain⟨l,u⟩:=h.lv i x B ab;exact⟨l,(J i V).trans u⟩
 .dsimp only at u|-;split at u
  .rename_i ac;rcases Zl.1 u with u|u;·exact U l u
   .obtain rfl:l=⟨c.id,c.pk.toNat,c.bt.toNat,[],Xl c.real⟩:=by simpa using u
    obtain⟨b1,b2,b3,b4⟩:=Qam ai ac;refine⟨⟨⟨c,s.tree.depth c.par⟩,by rw[Z,if_pos rfl],ac,?_,?_,?_,?_⟩,Nat.zero_le _,?_,nofun,λd hd=>?_⟩;·show((c.pk.toNat:Nat):Int)=c.pk;omega
    .show((c.bt.toNat:Nat):Int)=c.bt;omega
    .show(Xl c.real).isSome=!c.real.none;unfold Xl;by_cases hr:c.real.none=true;·rw[if_pos hr,hr];rfl
     .rw[if_neg hr];have:c.real.none=false:=by simpa using hr
      rw[this];rfl
    .show(s.pick.put c).aL c.id=_;rw[ag,Qe.awake_none hn];simp
    .show Jn []<=((c.bt.toNat:Nat):Int);simp only[Jn];omega
    .have z:Xl c.real=some d:=hd;unfold Xl at z;split at z;·cases z
     .obtain rfl:=Zs z;exact⟨Nat.zero_le _,Nat.zero_le _,rfl⟩
  .exact U l u
 .dsimp only;rw[h.row];by_cases V:i=c.id
  .subst V;have K:s.leaf c.id=none:=by
    cases K:s.leaf c.id with
    |none=>rfl
    |some l=>exact absurd (Y3 (key:=Qw.id) K).2 (R l (Y3 (key:=Qw.id) K).1)
   constructor;·rintro⟨l,d,u,_⟩;have I:s.leaf c.id=some l:=u;rw[K]at I;cases I
   .rintro⟨l,d,u,hd,ha,_⟩;exfalso;split at u
    .rw[Ix]at u;have ah:Hn Qw.id c.id s.aI=none:=K;rw[ah,if_pos rfl]at u;obtain rfl:=Zs u;have z:Xl c.real=some d:=hd;unfold Xl at z;split at z;·cases z
     .obtain rfl:=Zs z;cases ha
    .have I:s.leaf c.id=some l:=u;rw[K]at I;cases I
  .rw[J i V];rfl
theorem L8{c:Yk}(d:s.aG c=0):¬0<s.many c.id/\s.tree.aG c=0:=by unfold Qf.aG at*;simp_all;omega
theorem Mh{h:Qm}{i:Int}{c:Vm}(d:h.at i=some c):i∈h.path 9 i:=by rw[Qm.path,d];exact List.mem_cons_self
theorem Vl.idle(h:Vl N s){i:Int}{l:Qw}(B:s.leaf i=some l)(E:¬0<s.many i):l.q=[]:=by
 obtain⟨k,J,_⟩:=h.at B;obtain⟨c,d,u,_⟩:=k.sp;rw[J]at d;obtain⟨z,q⟩:=Qm.aE d;cases I:l.q with
 |nil=>rfl
 |cons x t=>exact absurd (Qhx (Y8.2 ⟨c,z,q,u,.inr (Mh d)⟩) (by rw[Ov B,I];simp)) E
theorem Vl.change(h:Vl N s){c:Yk}(h0:s.aG c=0):Vl N (s.change c):=by
 obtain⟨hm,V⟩:=L8 h0;have ha:=h.asleep hm;obtain⟨x,q,hx,i1,hq,mt,dd⟩:=h.mt.aK h.tree h.pick V ha;have Z:=Si V;have ai:Qs (Xk (s.tree.change c)) N (s.pick.aK c):=(h.pick.aK i1 hx ha hq).redep (by rw[dd,h.pick.up.1]) (λ_ _ _=>dd _);obtain⟨pv,ag⟩:=h.pinv.aK h.pick i1 hx ha hq;have e:s.change c={s with tree:=s.tree.change c,pick:=s.pick.aK c,aI:=s.aI.map λl=>if l.id=c.id then{l with debt:=Xl c.real}else l}:=by unfold Qf.change;rw[if_pos h0]
 rw[e];have hf:∀l:Qw,(if l.id=c.id then{l with debt:=Xl c.real}else l).id=l.id:=λl=>by split<;>rfl
 have J:∀i,Hn Qw.id i (s.aI.map λl=>if l.id=c.id then{l with debt:=Xl c.real}else l)=(s.leaf i).map λl=>if l.id=c.id then{l with debt:=Xl c.real}else l:=λi=>Qm1 hf i;refine⟨h.most,h.tree.change V,ai,pv,mt,?_,λi y E af=>?_,λl R=>?_,λa i b=>?_⟩;·dsimp only;rw[List.map_map];have:(Qw.id∘λl:Qw=>if l.id=c.id then{l with debt:=Xl c.real}else l)=Qw.id:=funext hf;rw[this];exact h.nd
 .dsimp only at E;rw[Z]at E;have:∃y',s.tree.at i=some y'/\y'.sp.leaf=true:=by
   split at E
   .rename_i B;cases hz:s.tree.at c.id with
    |none=>rw[hz]at E;cases E
    |some z=> rw[hz]at E;obtain rfl:=Zs E;exact⟨z,by rw[B];exact hz,af⟩
   .exact⟨y,E,af⟩
  obtain⟨y',ah,I⟩:=this;obtain⟨l,R⟩:=h.lv i y' ah I;exact⟨_,by show Hn Qw.id i _=_;rw[J,R];rfl⟩
 .obtain⟨U,ac,rfl⟩:=Z3.1 R;have k:=h.ok U ac;obtain⟨y,E,k1,k2,k3,k4,k5⟩:=k.sp;by_cases B:U.id=c.id
  .rw[if_pos B];have ae:=h.leaf_of ac;rw[B]at ae;have K:=h.idle ae hm;rw[B]at E;refine⟨⟨⟨y.sp.aK c,y.d⟩,?_,k1,k2,k3,?_,?_⟩,k.many,k.held,k.good,λd hd=>?_⟩;·show(s.tree.change c).at U.id=_;rw[Z,if_pos B,E];rfl
   .show(Xl c.real).isSome=!c.real.none;unfold Xl;by_cases hr:c.real.none=true;·rw[if_pos hr,hr];rfl
    .rw[if_neg hr];have:c.real.none=false:=by simpa using hr
     rw[this];rfl
   .show(s.pick.aK c).aL U.id=_;rw[ag,B,ha];show _=(_&&decide (U.q≠[]));rw[K];simp
   .have u:Xl c.real=some d:=hd;unfold Xl at u;split at u;·cases u
    .obtain rfl:=Zs u;exact⟨Nat.zero_le _,Nat.zero_le _,by show false=decide (U.q≠[]);rw[K];rfl⟩
  .rw[if_neg B];exact⟨⟨y,by show(s.tree.change c).at U.id=_;rw[Z,if_neg B];exact E,k1,k2,k3,k4,by show(s.pick.aK c).aL U.id=_;rw[ag];exact k5⟩,k.many,k.held,k.good,k.debt⟩
 .dsimp only;rw[h.row,J];have el:Hn Qw.id i s.aI=s.leaf i:=rfl;rw[el];by_cases B:i=c.id
  .cases R:s.leaf i with
   |none=>simp
   |some l=>
    obtain⟨k,ki,_⟩:=h.at R;have K:l.q=[]:=h.idle (by rw[<-B];exact R) hm;constructor;·rintro⟨l',d,I,hd,aa,_⟩;obtain rfl:=Zs I;have:=(k.debt d hd).2.2;rw[aa,K]at this;simp at this
    .rintro⟨l',d,I,hd,aa,_⟩;obtain rfl:=Zs I;have ab:(if l.id=c.id then{l with debt:=Xl c.real}else l).debt=some d:=hd;rw[if_pos (ki.trans B)]at ab;have u:Xl c.real=some d:=ab;unfold Xl at u;split at u;·cases u
     .obtain rfl:=Zs u;cases aa
  .cases R:s.leaf i with
   |none=>simp
   |some l=> have ki:=(h.at R).2.1;rw[Zn,if_neg (by rw[ki];exact B)]
theorem Ng{i:Int}(d:s.aP i=0):¬0<s.many i/\s.tree.aP i=0:=by
 unfold Qf.aP at d;unfold Qm.aP;split at d;·cases d
 .rename_i k;split at d;·cases d
  .rename_i q;split at d;·cases d
   .rename_i u;refine⟨u,?_⟩;cases z:s.tree.at i with
    |none=>rw[z]at k;exact absurd rfl k
    |some c=> dsimp only;rw[if_neg q]
theorem Vl.drop(h:Vl N s){i:Int}(h0:s.aP i=0):Vl N (s.drop i):=by
 obtain⟨hm,B⟩:=Ng h0;have ha:=h.asleep hm;obtain⟨x,q,hx,i1,hu,hq,ag,hk,mt,dd⟩:=h.mt.drop h.tree h.pick B ha;have E:=We B;have K:=h.tree.drop B;have aa:=Iz i1 hx hu ha hq;have J:=h.pick.drop h.pinv i1 hx hu ha hq hk;have ae:Qs (Xk (s.tree.drop i)) N (s.pick.drop i):=J.redep (Kr (K.zero (by decide))) (λy z _=>by
  have:=Qe.at_of J.nd z;rw[aa]at this;split at this;·cases this
  .rename_i e;exact dd _ e)
 obtain⟨pv,af⟩:=h.pinv.drop h.pick i1 hx hu ha hq hk;have e:s.drop i={s with tree:=s.tree.drop i,pick:=s.pick.drop i,aI:=Kp Qw.id i s.aI}:=by unfold Qf.drop;rw[if_pos h0];rfl
 rw[e];have c:∀j,Hn Qw.id j (Kp Qw.id i s.aI)=if j=i then none else s.leaf j:=λj=>Qgi i j;have I:∀l,l∈Kp Qw.id i s.aI->l∈s.aI/\l.id≠i:=λl u=>by have:=List.mem_filter.1 u;exact⟨this.1,by simpa using this.2⟩
 refine⟨h.most,K,ae,pv,mt,h.nd.sublist (List.filter_sublist.map _),λj y z ac=>?_,λl u=>?_,λa j b=>?_⟩
 .dsimp only at z;rw[E]at z;split at z;·cases z
  .rename_i R;obtain⟨l,u⟩:=h.lv j y z ac;exact⟨l,by show Hn Qw.id j _=_;rw[c,if_neg R];exact u⟩
 .obtain⟨V,Z⟩:=I l u;have k:=h.ok l V;obtain⟨y,z,k2⟩:=k.sp;exact⟨⟨y,by show(s.tree.drop i).at l.id=_;rw[E,if_neg Z];exact z,by show _/\_/\_/\_/\(s.pick.drop i).aL l.id=_;rw[af];exact k2⟩,k.many,k.held,k.good,k.debt⟩
 .dsimp only;rw[h.row,c];have el:Hn Qw.id j s.aI=s.leaf j:=rfl;rw[el];split;·rename_i R;refine⟨λ⟨l,d,u,hd,U,_⟩=>?_,λ⟨l,d,u,_⟩=>(by cases u)⟩;exfalso;obtain⟨k,ki,_⟩:=h.at u;have ab:l.q=[]:=h.idle (by rw[<-R];exact u) hm;have:=(k.debt d hd).2.2;rw[U,ab]at this;simp at this
  .exact Iff.rfl
theorem If{c:List Xu}{i:Int}{d:Ju}{a:Nat}{j:Int}{b:Nat}:(a,j,b)∈Hj c i d↔if j=i then d.aL=true/\a=d.elig/\b=d.due else(a,j,b)∈c:=by unfold Hj Vf Xa;grind [Lb]
theorem Vl.upd(h:Vl N s)(U:N<=M){i:Int}{l l':Qw}{row':List Xu}{p':Qe}(hl:s.leaf i=some l)(q:l'.id=i)(ag:l'.pk=l.pk)(aa:l'.bt=l.bt)(ab:l'.debt.isSome=l.debt.isSome)
  (h1:l'.q.length<=l'.pk)(h2:Jn l'.q<=l'.bt)(h3:∀x∈l'.q,Ll x/\x.cls=i)(h4:∀d,l'.debt=some d->d.got<=Xw/\d.run.l.length<=M/\d.aL=decide (l'.q≠[]))
  (ae:Qs (Xk s.tree) M p') (af:Uz p') (ac:Vp s.tree p') (Z:∀j x,s.pick.at j=some x->x.leaf=true->j≠i->p'.aL j=s.pick.aL j)
  (V:∀c,s.tree.at i=some c->p'.aL i=(c.sp.aJ&&decide (l'.q≠[])))
  (E:∀a j b,(a,j,b)∈row'↔if j=i then∃d,l'.debt=some d/\d.aL=true/\a=d.elig/\b=d.due else(a,j,b)∈s.row):
  Vl M {s with aI:=Lg Qw.id l' s.aI,row:=row',pick:=p'}:=by
 have u:∀j,Hn Qw.id j (Lg Qw.id l' s.aI)=if j=i then some l' else s.leaf j:=λj=>by have:=Qeo (key:=Qw.id) (x:=l') (y:=l) (l:=s.aI) (by rw[q];exact hl) j;rw[this,q];rfl
 obtain⟨k,ki,_⟩:=h.at hl;obtain⟨c,hc,c1,c2,c3,c4,c5⟩:=k.sp;rw[ki]at hc;refine⟨h.most,h.tree,ae,af,ac,by show(List.map Qw.id (Lg Qw.id l' s.aI)).Nodup;rw[Qqa];exact h.nd,λj y I ah=>?_,λy I=>?_,λa j b=>?_⟩
 .by_cases e:j=i;·exact⟨l',by show Hn Qw.id j _=_;rw[u,if_pos e]⟩
  .obtain⟨z,R⟩:=h.lv j y I ah;exact⟨z,by show Hn Qw.id j _=_;rw[u,if_neg e];exact R⟩
 .rcases Qao (x:=l) h.nd I with rfl|⟨I,B⟩;·refine⟨⟨c,by show s.tree.at y.id=_;rw[q];exact hc,c1,by rw[ag];exact c2,by rw[aa];exact c3,ab.trans c4,by show p'.aL y.id=_;rw[q];exact V c hc⟩,h1,h2,λx K=>⟨(h3 x K).1,(h3 x K).2.trans q.symm⟩,h4⟩
  .have J:=(h.ok y I).more U;rw[q]at B;obtain⟨z,R,z1,z2⟩:=J.sp;obtain⟨x,K,_,e2,_⟩:=h.mt.fwd h.tree R;exact⟨⟨z,R,z1,by show _/\_/\_/\p'.aL y.id=_;rw[Z y.id x K (e2.trans z1) B];exact z2⟩,J.many,J.held,J.good,J.debt⟩
 .show(a,j,b)∈row'↔_;rw[E];show _↔∃l d,Hn Qw.id j (Lg Qw.id l' s.aI)=some l/\_;rw[u];by_cases e:j=i;·rw[if_pos e,if_pos e];exact⟨λ⟨d,h⟩=>⟨l',d,rfl,h⟩,λ⟨l0,d,e0,h⟩=>by obtain rfl:=Zs e0;exact⟨d,h⟩⟩
  .rw[if_neg e,if_neg e];exact h.row a j b
end
section
variable{N M:Nat}{s:Qf}
theorem Qjb(l:List Jr)(p:Jr):Jn (l++[p])=Jn l+p.len:=by rw[Tk];simp[Jn]
theorem Qlk{n c:Int}(h:Eo n c=0):1<=n/\n<=c/\c<=65535:=by grind [Eo]
theorem Mk{p:Jr}(d:s.aQ p=0):∃c l,s.tree.at p.cls=some c/\c.sp.leaf=true/\(1<=p.len/\p.len<=s.most/\s.most<=65535)/\s.leaf p.cls=some l/\¬(l.q.length=l.pk\/(l.bt:Int)-Jn l.q<p.len):=by
 unfold Qf.aQ at d;cases q:s.tree.at p.cls with
 |none=>rw[q]at d;cases d
 |some c=>
  rw[q]at d;dsimp only at d;split at d;·cases d
  .rename_i z;split at d;·rename_i k;exact absurd d k
   .rename_i k;cases u:s.leaf p.cls with
    |none=>rw[u]at d;cases d
    |some l=>
     rw[u]at d;dsimp only at d;split at d;·cases d
     .rename_i B;exact⟨c,l,rfl,by simpa using z,Qlk (by simpa using k),rfl,B⟩
theorem Qmg(l:Qw):s.aR l={s with aI:=Lg Qw.id l s.aI}:=rfl
theorem Rm(l:Qw)(f:Ju->Ju):s.owe l f={s with aI:=Lg Qw.id {l with debt:=l.debt.map f} s.aI,row:=match l.debt with
  |none=>s.row
  |some d=>Hj s.row l.id (f d)}:=by
 obtain⟨i,k,c,q,debt⟩:=l;unfold Qf.owe;cases debt with
 |none=>rfl
 |some d=>rfl
theorem Ct{p:Jr}{now:Nat}{l:Qw}(c:s.aQ p=0)(k:s.leaf p.cls=some l):
  s.push p now=if l.q≠[]then s.aR {l with q:=l.q++[p]}else{s.owe {l with q:=l.q++[p]} (λd=>d.wake now p.len)with pick:=s.pick.wake p.cls now}:=by unfold Qf.push;grind [Rm]
theorem Vl.offpath(h:Vl N s){i j:Int}{x:Qx}(B:s.pick.at j=some x)(z:x.leaf=true)(k:j≠i):j∉s.pick.path 9 i:=λu=>by obtain⟨c,q,d⟩:=Mi h.pick h.pinv.inn u k;rw[B]at q;obtain rfl:=Zs q;rw[z]at d;cases d
theorem Qgq{a b:Bool}(h:a=true↔b=true):a=b:=by cases a<;>cases b<;>simp_all
theorem Vl.push(h:Vl N s){p:Jr}(now:Nat)(h0:s.aQ p=0):Vl (N+16) (s.push p now):=by
 obtain⟨c,l,V,af,Z,J,aj⟩:=Mk h0;obtain⟨k,ki,_⟩:=h.at J;obtain⟨c',I,_,c2,c3,c4,c5⟩:=k.sp;rw[ki]at I c5;rw[V]at I;obtain rfl:=Zs I;have ai:=k.many;have ah:=k.held;have h1:(l.q++[p]).length<=l.pk:=by simp;omega
 have h2:Jn (l.q++[p])<=l.bt:=by rw[Qjb];omega
 have h3:∀x∈l.q++[p],Ll x/\x.cls=p.cls:=λx B=>by
  rcases Zl.1 B with B|B;·have:=k.good x B;exact⟨this.1,this.2.trans ki⟩
  .obtain rfl:x=p:=by simpa using B
   exact⟨⟨Z.1,by omega⟩,rfl⟩
 rw[Ct h0 J];by_cases hq:l.q=[]
 .rw[if_neg (by simpa using hq),Rm];have aa:=h.pick.wake p.cls now;obtain⟨pv,pm,ae⟩:=h.pinv.wake h.pick p.cls now;have am:=h.tree.pos V;obtain⟨x,B,_,x2,x3,_⟩:=h.mt.fwd h.tree V;refine Vl.upd (l:=l) (l':={l with q:=l.q++[p],debt:=l.debt.map λd=>d.wake now p.len}) h (by omega) J ki rfl rfl (by simp) h1 h2 h3 (λd z=>?_) aa.1 pv (h.mt.same aa.2 pm) (λj y E ak hj=>?_) (λy E=>?_) (λa j b=>?_)
  .dsimp only at z;cases Eu:l.debt with
   |none=>rw[Eu]at z;cases z
   |some d0=>
    rw[Eu]at z;have ag:d0.wake now p.len=d:=Zs z;subst ag;obtain⟨g1,g2,R⟩:=k.debt d0 Eu;rw[hq]at R;have R:d0.aL=false:=by simpa using R
    unfold Ju.wake;rw[if_neg (by simp[R])];refine⟨g1,?_,by simp⟩;dsimp only;rw[Gj];omega
  .refine Qgq ((ae j).trans ⟨λU=>U.elim id λhh=>absurd hh.1 ?_,.inl⟩);exact h.offpath E ak hj
  .rw[V]at E;obtain rfl:=Zs E;have e0:s.pick.aL p.cls=false:=by rw[c5,hq];simp
   have:decide (l.q++[p]≠[])=true:=by simp
   dsimp only;rw[this,Bool.and_true];refine Qgq ((ae p.cls).trans ⟨λU=>?_,λhs=>.inr ⟨Sv B (by omega),⟨x,B,x3.trans hs⟩,x,B,by omega,x2.trans af,x3.trans hs⟩⟩);rcases U with U|⟨_,⟨y,E,al⟩,_⟩;·rw[e0]at U;cases U
   .rw[B]at E;obtain rfl:=Zs E;exact x3.symm.trans al
  .dsimp only;cases Eu:l.debt with
   |none=>
    dsimp only;rw[h.row];by_cases e:j=p.cls;·rw[if_pos e,e];refine⟨λ⟨l0,d,K,z,_⟩=>?_,λ⟨d,z,_⟩=>(by cases z)⟩;have u:s.leaf p.cls=some l0:=K;rw[J]at u;obtain rfl:=Zs u;rw[Eu]at z;cases z
    .rw[if_neg e]
   |some d0=>
    dsimp only;rw[If];rw[ki];by_cases e:j=p.cls;·rw[if_pos e,if_pos e];simp
    .rw[if_neg e,if_neg e]
 .rw[if_pos (by simpa using hq),Qmg];have ab:decide (l.q++[p]≠[])=true:=by simp
  have ac:decide (l.q≠[])=true:=by simpa using hq
  refine Vl.upd (l:=l) (l':={l with q:=l.q++[p]}) (row':=s.row) (p':=s.pick) h (by omega) J ki rfl rfl rfl h1 h2 h3 (λd z=>?_) (h.pick.more (by omega)) h.pinv h.mt (λ_ _ _ _ _=>rfl) (λy E=>?_) (λa j b=>?_);·obtain⟨g1,g2,R⟩:=k.debt d z;exact⟨g1,by omega,by dsimp only;rw[R,ab,ac]⟩
  .rw[V]at E;obtain rfl:=Zs E;dsimp only;rw[c5,ab,ac]
  .rw[h.row];by_cases e:j=p.cls;·rw[if_pos e,e];refine⟨λ⟨l0,d,K,z⟩=>?_,λ⟨d,z⟩=>⟨l,d,J,z⟩⟩;have u:s.leaf p.cls=some l0:=K;rw[J]at u;obtain rfl:=Zs u;exact⟨d,z⟩
   .rw[if_neg e]
theorem Qax{p:Qe}{dep:Int->Nat}(K:Qs dep N p)(B:Uz p)(now:Nat):∀(n:Nat)(i j:Int),p.next now n i=some j->(∃c,p.at j=some c/\c.leaf=true)/\(j=i\/p.aL j=true)
 |0,i,j,h=>by rw[Qe.next]at h;cases h
 |n+1,i,j,h=>by
  rw[Qe.next]at h;cases d:p.at i with
  |none=>rw[d]at h;cases h
  |some c=>
   rw[d]at h;dsimp only at h;by_cases z:c.leaf=true;·rw[if_pos z]at h;obtain rfl:=Zs h;exact⟨⟨c,d,z⟩,.inl rfl⟩
   .rw[if_neg z]at h;cases u:Xf now c.tree with
    |none=>rw[u]at h;cases h
    |some e=>
     rw[u]at h;dsimp only at h;obtain⟨a,k,b⟩:=e;have J:(a,k,b)∈c.tree:=List.mem_of_find?_eq_some u;have I:=((B.ent k i c d a b).1 J).2.1;obtain⟨E,q⟩:=Qax K B now n k j h;refine⟨E,.inr ?_⟩;rcases q with rfl|q;·exact I
     .exact q
theorem Sq{l:List Xu}{x:Nat×Int}(h:low l=some x):∃a,(a,x.2,x.1)∈l:=by obtain⟨⟨a,i,b⟩,c,e⟩:=Qe9 h;exact⟨a,by rw[e];exact c⟩
theorem Vl.who(h:Vl N s){now:Nat}{id:Int}{k:Nat}(q:s.who now=some (id,k)):
  ∃l,s.leaf id=some l/\l.q≠[]/\(k=1\/k=2):=by
 unfold Qf.who at q;cases ha:Jt now s.row with
 |some x=>
  rw[ha]at q;obtain⟨B,E⟩:=Prod.mk.inj (Zs q);unfold Jt at ha;obtain⟨a,hm⟩:=Sq ha;obtain⟨l,d,U,hd,R,_⟩:=(h.row a x.2 x.1).1 (List.mem_filter.1 hm).1;have z:s.leaf id=some l:=by rw[<-B];exact U
  refine⟨l,z,?_,.inl E.symm⟩;have:=((h.at z).1.debt d hd).2.2;rw[R]at this;exact of_decide_eq_true this.symm
 |none=>
  rw[ha]at q;dsimp only at q;cases V:s.pick.next now 10 0 with
  |none=>rw[V]at q;cases q
  |some j=>
   rw[V]at q;obtain⟨B,E⟩:=Prod.mk.inj (Zs q);obtain⟨⟨c,K,u⟩,I⟩:=Qax h.pick h.pinv now 10 0 j V;have J:s.pick.aL j=true:=by
    rcases I with rfl|I;·obtain⟨r,hr,Z,_⟩:=h.mt.root;rw[hr]at K;obtain rfl:=Zs K;rw[Z]at u;cases u
    .exact I
   obtain⟨_,l,_,_,U,hq⟩:=h.busy K u J;exact⟨l,by rw[<-B];exact U,hq,.inr E.symm⟩
theorem Fd{id:Int}{rule:Nat}{l:Qw}(c:s.leaf id=some l):
  s.take id rule={s.owe {l with q:=l.q.tail} (λd=>d.serve rule (l.q.headD Jr.zero).len (l.q.tail.headD Jr.zero).len)with pick:=s.pick.sent id ((l.q.headD Jr.zero).len*256).toNat (decide (l.q.tail≠[]))}:=by
 unfold Qf.take;rw[c];dsimp only;rw[Rm]
theorem Vl.take(h:Vl N s){id:Int}(rule:Nat){l:Qw}(hl:s.leaf id=some l)(hq:l.q≠[]):Vl (N+16) (s.take id rule):=by
 obtain⟨k,ki,_⟩:=h.at hl;obtain⟨c,hc,ac,c2,c3,c4,c5⟩:=k.sp;rw[ki]at hc c5;rw[Fd hl,Rm];obtain⟨x,t,E⟩:∃x t,l.q=x::t:=by
  cases ag:l.q with
  |nil=>exact absurd ag hq
  |cons x t=>exact⟨x,t,rfl⟩
 have u:=k.good;rw[E]at u;have K:=k.many;have J:=k.held;rw[E]at K J;simp only[Zm,Jn]at K J;have aj:=(u x (by simp)).1.1;have aa:=h.pick.sent id ((l.q.headD Jr.zero).len*256).toNat (decide (l.q.tail≠[]));obtain⟨pv,pm,ai,B,Z⟩:=h.pinv.sent h.pick id ((l.q.headD Jr.zero).len*256).toNat (decide (l.q.tail≠[]));have ab:decide (l.q≠[])=true:=by simpa using hq
 have U:∀I,l.debt=some I->(I.serve rule (l.q.headD Jr.zero).len (l.q.tail.headD Jr.zero).len).got<=Xw/\(I.serve rule (l.q.headD Jr.zero).len (l.q.tail.headD Jr.zero).len).run.l.length<=N+16/\(I.serve rule (l.q.headD Jr.zero).len (l.q.tail.headD Jr.zero).len).aL=decide (l.q.tail≠[]):=λI Eu=>by
  obtain⟨g1,g2,g3⟩:=k.debt I Eu;rw[ab]at g3;unfold Ju.serve;rw[if_neg (by simp[g3])];refine⟨?_,by show I.run.l.length<=_;omega,?_⟩
  .dsimp only;split;·exact Nat.min_le_right _ _
   .exact g1
  .show decide (1<=(l.q.tail.headD Jr.zero).len)=_;rw[E];cases t with
   |nil=>rfl
   |cons y t=> have:=(u y (by simp)).1.1;simp[this]
 refine Vl.upd (l:=l) (l':={l with q:=l.q.tail,debt:=l.debt.map λd=>d.serve rule (l.q.headD Jr.zero).len (l.q.tail.headD Jr.zero).len}) h (by omega) hl ki rfl rfl (by simp) (by simp[E];omega) (by simp[E];omega)
  (λy hy=>by
   have:=k.good y (by rw[E]at hy|-;exact Zr _ hy);exact⟨this.1,this.2.trans ki⟩) (λd R=>?_) aa.1 pv (h.mt.same aa.2 pm) (λj y hy ah hj=>B j (.inl (h.offpath hy ah hj))) (λy hy=>?_) (λa j b=>?_)
 .dsimp only at R;cases Eu:l.debt with
  |none=>rw[Eu]at R;cases R
  |some I=> rw[Eu]at R;have ae:I.serve rule (l.q.headD Jr.zero).len (l.q.tail.headD Jr.zero).len=d:=Zs R;subst ae;exact U I Eu
 .rw[hc]at hy;obtain rfl:=Zs hy;obtain⟨z,hz,_,z2,_⟩:=h.mt.fwd h.tree hc;dsimp only;cases ht:decide (l.q.tail≠[])with
  |true=> rw[ht]at B;rw[B id (.inr (.inl rfl)),c5,ab]
  |false=> rw[ht]at Z;rw[Z rfl ⟨z,hz,z2.trans ac⟩,Bool.and_false]
 .dsimp only;cases Eu:l.debt with
  |none=>
   dsimp only;rw[h.row];by_cases e:j=id;·rw[if_pos e,e];refine⟨λ⟨l0,d,af,R,_⟩=>?_,λ⟨d,R,_⟩=>(by cases R)⟩;have V:s.leaf id=some l0:=af;rw[hl]at V;obtain rfl:=Zs V;rw[Eu]at R;cases R
   .rw[if_neg e]
  |some I=>
   dsimp only;rw[If];rw[ki];by_cases e:j=id;·rw[if_pos e,if_pos e];simp
   .rw[if_neg e,if_neg e]
end
def RT(p:Qe):Prop:=∀c∈p,Xd c.tree
section
variable{p:Qe}
theorem Ie{id:Int}{l:List Xu}(h:Xd l):Xd (Xa id l):=h.sublist List.filter_sublist
theorem RT.at(h:RT p){i:Int}{c:Qx}(d:p.at i=some c):Xd c.tree:=h c (Qe.aE d).1
theorem RT.set(h:RT p){x:Qx}(k:Xd x.tree):RT (p.set x):=λc d=>by
 rcases mem_set d with rfl|⟨d,_⟩;·exact k
 .exact h c d
theorem RT.fam(h:RT p)(i:Int)(f:Jc->Jc):RT (p.fam i f):=by
 unfold Qe.fam;split;·exact h
 .split;·exact h
  .rename_i q c;exact h.set (show Xd q.tree from h.at c)
theorem RT.note(h:RT p)(i:Int):RT (p.note i):=by
 unfold Qe.note;split;·exact h
 .split;·exact h
  .rename_i q c;refine h.set ?_;dsimp only;split;·exact Th (show Xd q.tree from h.at c)
   .exact Ie (show Xd q.tree from h.at c)
theorem RT.up1(h:RT p)(now:Nat)(i:Int):RT (p.up1 now i):=by
 unfold Qe.up1;split;·exact h
 .rename_i c d;split;·exact h
  .exact(h.fam i _).set (show Xd c.tree from h.at d)
theorem RT.aV(h:RT p)(g:Nat)(i:Int):RT (p.aV g i):=by
 unfold Qe.aV;split;·exact h
 .rename_i c d;exact(h.set (x:={c with total:=c.total+min g (Xw-c.total)}) (show Xd c.tree from h.at d)).fam i _
theorem RT.aW(h:RT p)(sl:Bool)(i:Int):RT (p.aW sl i):=by
 unfold Qe.aW;split;·exact h
 .split;·exact(h.fam i _).note i
  .exact h.note i
theorem RT.fold{c:Qe->Int->Qe}(d:∀p i,RT p->RT (c p i)):∀(l:List Int)(p:Qe),RT p->RT (l.foldl c p)
 |[],_,h=>h
 |i::l,p,h=>RT.fold d l _ (d p i h)
theorem RT.wake(h:RT p)(i:Int)(now:Nat):RT (p.wake i now):=by unfold Qe.wake;grind [RT.fold,Qs.note,RT.note,Qs.up1,RT.up1]
theorem RT.sent(h:RT p)(i:Int)(g:Nat)(c:Bool):RT (p.sent i g c):=by unfold Qe.sent;grind [RT.fold,Qs.aW,RT.aW,Qs.aV,RT.aV]
theorem RT.put(h:RT p)(s:Yk):RT (p.put s):=by
 unfold Qe.put;split;·exact h
 .rename_i q k;split;·exact h
  .refine RT.set (λc d=>?_) (show Xd q.tree from h.at k);rcases Zl.1 d with d|d;·exact h c d
   .obtain rfl:=List.mem_singleton.1 d;exact List.Pairwise.nil
theorem RT.drop(h:RT p)(i:Int):RT (p.drop i):=by
 unfold Qe.drop;split;·exact h
 .split;·exact h
  .split;·exact h
   .rename_i q k;exact λc d=>(h.set (x:={q with mem:=q.mem.drop i,aM:=q.aM-1}) (show Xd q.tree from h.at k)) c (List.mem_filter.1 d).1
theorem RT.aK(h:RT p)(s:Yk):RT (p.aK s):=by
 unfold Qe.aK;split;·exact h
 .split;·exact h
  .intro c d;obtain⟨x,k,rfl⟩:=Z3.1 d;have:=(h.fam s.id λf=>if s.aJ then(f.drop s.id).add s.id s.share else f.drop s.id) x k;split;·exact this
   .exact this
theorem RT.new:RT Qe.new:=λc d=>by obtain rfl:=List.mem_singleton.1 d;exact List.Pairwise.nil
end
structure SR(s:Qf):Prop where
 row:Xd s.row
 pick:RT s.pick
 due:∀l∈s.aI,∀d,l.debt=some d->d.elig<=Qq/\d.due<=Qq
theorem Qm5(r:Xh)(y:Nat):r.elig y<=Qq:=by unfold Xh.elig;grind [Pb]
theorem Az{c:Jy}{d:Ju}(h:Xl c=some d):d.elig<=Qq/\d.due<=Qq:=by
 unfold Xl at h;split at h;·cases h
 .obtain rfl:=Zs h;exact⟨Nat.zero_le _,Nat.zero_le _⟩
theorem Qs3{d:Ju}(h:d.elig<=Qq/\d.due<=Qq)(now:Nat)(c:Int):(d.wake now c).elig<=Qq/\(d.wake now c).due<=Qq:=by unfold Ju.wake;grind [Qm5,reach_le]
theorem Qp8{d:Ju}(h:d.elig<=Qq/\d.due<=Qq)(c:Nat)(k q:Int):(d.serve c k q).elig<=Qq/\(d.serve c k q).due<=Qq:=by unfold Ju.serve;grind [reach_le,Qm5]
section
variable{s:Qf}
theorem SR.new(c:Int):SR (.new c):=⟨List.Pairwise.nil,RT.new,nofun⟩
theorem SR.add(h:SR s)(c:Yk):SR (s.add c):=by
 unfold Qf.add;split
 .refine⟨h.row,h.pick.put c,λl k d q=>?_⟩;dsimp only at k;split at k
  .rcases Zl.1 k with k|k;·exact h.due l k d q
   .obtain rfl:=List.mem_singleton.1 k;exact Az q
  .exact h.due l k d q
 .exact h
theorem SR.change(h:SR s)(c:Yk):SR (s.change c):=by
 unfold Qf.change;split
 .refine⟨h.row,h.pick.aK c,λl q d k=>?_⟩;obtain⟨x,u,rfl⟩:=Z3.1 q;split at k;·exact Az k
  .exact h.due x u d k
 .exact h
theorem SR.drop(h:SR s)(i:Int):SR (s.drop i):=by
 unfold Qf.drop;split;·exact⟨h.row,h.pick.drop i,λl c=>h.due l (List.mem_filter.1 c).1⟩
 .exact h
theorem Qiu{c:List Xu}(h:Xd c)(i:Int)(d:Ju):Xd (Hj c i d):=by
 unfold Hj;split;·exact Th h
 .exact Ie h
theorem SR.aR(h:SR s){l:Qw}(k:∀d,l.debt=some d->d.elig<=Qq/\d.due<=Qq):SR (s.aR l):=by
 refine⟨h.row,h.pick,λy u d c=>?_⟩;obtain⟨x,q,rfl⟩:=Z3.1 u;split at c;·exact k d c
 .exact h.due x q d c
theorem SR.owe(h:SR s)(l:Qw)(f:Ju->Ju)(k:∀d,l.debt=some d->(f d).elig<=Qq/\(f d).due<=Qq):SR (s.owe l f):=by
 unfold Qf.owe;split;·rename_i q;exact h.aR λd c=>by rw[q]at c;cases c
 .rename_i d c;have:=h.aR (l:={l with debt:=some (f d)}) λu e=>by obtain rfl:=Zs e;exact k d c
  exact⟨Qiu h.row _ _,h.pick,this.due⟩
theorem I8{i:Int}{l:Qw}(c:s.leaf i=some l):l∈s.aI:=List.mem_of_find?_eq_some c
theorem SR.push(h:SR s)(p:Jr)(now:Nat):SR (s.push p now):=by
 unfold Qf.push;split
 .split;·exact h
  .rename_i l k;have c:=h.due l (I8 k);dsimp only;split;·exact h.aR c
   .have:=h.owe {l with q:=l.q++[p]} (λd=>d.wake now p.len) λd e=>Qs3 (c d e) _ _;exact⟨this.row,this.pick.wake p.cls now,this.due⟩
 .exact h
theorem SR.take(h:SR s)(i:Int)(rule:Nat):SR (s.take i rule):=by
 unfold Qf.take;split;·exact h
 .rename_i l k;have c:=h.due l (I8 k);have:=h.owe {l with q:=l.q.tail} (λd=>d.serve rule (l.q.headD Jr.zero).len (l.q.tail.headD Jr.zero).len) λd e=>Qp8 (c d e) _ _ _;exact⟨this.row,this.pick.sent i _ _,this.due⟩
end
structure Xp(N:Nat)(s:Qf):Prop extends Vl N s where
 sr:SR s
section
variable{N M:Nat}{s:Qf}
theorem Xp.new{c:Int}(d:1<=c)(k:c<65536):Xp N (Qf.new c):=⟨Vl.new d k,SR.new c⟩
theorem Xp.add(h:Xp N s){c:Yk}(d:s.aO c=0):Xp N (s.add c):=⟨h.toVl.add d,h.sr.add c⟩
theorem Xp.change(h:Xp N s){c:Yk}(d:s.aG c=0):Xp N (s.change c):=⟨h.toVl.change d,h.sr.change c⟩
theorem Xp.drop(h:Xp N s){i:Int}(c:s.aP i=0):Xp N (s.drop i):=⟨h.toVl.drop c,h.sr.drop i⟩
theorem Xp.push(h:Xp N s){p:Jr}(now:Nat)(c:s.aQ p=0):Xp (N+16) (s.push p now):=⟨h.toVl.push now c,h.sr.push p now⟩
theorem Xp.take(h:Xp N s){id:Int}(rule:Nat){l:Qw}(c:s.leaf id=some l)(d:l.q≠[]):Xp (N+16) (s.take id rule):=⟨h.toVl.take rule c d,h.sr.take id rule⟩
end
section
variable{h:Qm}
theorem Oq(z:J8 h){i:Int}{c:Vm}(d:h.at i=some c):(c.sp.par=0/\Xk h i=1)\/∃q,h.at c.sp.par=some q/\q.sp.leaf=false/\Xk h i=Xk h c.sp.par+1:=by rw[V7 d];refine(z.par c (Qm.aE d).1).imp id λ⟨q,k,u,e⟩=>⟨q,k,u,?_⟩;rw[V7 k];exact e
theorem Qhi(u:J8 h):∀{n:Nat}{i j:Int},j∈h.path n i->Xk h j<=Xk h i/\∃c,h.at j=some c
 |0,i,j,d=>by rw[Qm.path]at d;cases d
 |n+1,i,j,d=>by
  rw[Qm.path]at d;cases k:h.at i with
  |none=>rw[k]at d;cases d
  |some c=>
   rw[k]at d;dsimp only at d;rcases Zu.1 d with rfl|d;·exact⟨Zv _,c,k⟩
   .obtain⟨B,z⟩:=Qhi u d;refine⟨?_,z⟩;rcases Oq u k with⟨e,_⟩|⟨q,_,_,e⟩;·have:Xk h c.sp.par=0:=Kr (u.zero (by omega));omega
    .omega
theorem Fx(d:J8 h):∀(n:Nat)(i:Int),(h.path n i).Pairwise λa b=>Xk h b<Xk h a
 |0,i=>by rw[Qm.path];exact List.Pairwise.nil
 |n+1,i=>by
  rw[Qm.path];cases k:h.at i with
  |none=>exact List.Pairwise.nil
  |some c=>
   dsimp only;refine List.pairwise_cons.2 ⟨λj u=>?_,Fx d n _⟩;have B:=(Qhi d u).1;rcases Oq d k with⟨e,z⟩|⟨q,_,_,e⟩;·have:Xk h c.sp.par=0:=Kr (d.zero (by omega));omega
   .omega
theorem Qkk(J:J8 h){n:Nat}{i a b:Int}(ha:a∈h.path n i)(q:b∈h.path n i)(e:Xk h a=Xk h b):a=b:=by
 have B:=Fx J n i;generalize h.path n i=l at ha q B;induction l with
 |nil=>cases ha
 |cons x l I=>
  obtain⟨z,E⟩:=List.pairwise_cons.1 B;rcases Zu.1 ha with u|d
  .rcases Zu.1 q with k|c;·exact u.trans k.symm
   .have:=z b c;rw[<-u]at this;omega
  .rcases Zu.1 q with k|c;·have:=z a d;rw[<-k]at this;omega
   .exact I d c E
theorem P7:∀{n:Nat}{i k:Int},k∈h.path n i->k≠i->∃a c,a∈h.path n i/\h.at a=some c/\c.sp.par=k
 |0,i,k,q,_=>by rw[Qm.path]at q;cases q
 |n+1,i,k,q,hne=>by
  rw[Qm.path]at q|-;cases u:h.at i with
  |none=>rw[u]at q;cases q
  |some c=>
   rw[u]at q;dsimp only at q|-;rcases Zu.1 q with rfl|q;·exact absurd rfl hne
   .by_cases e:k=c.sp.par;·exact⟨i,c,List.mem_cons_self,u,e.symm⟩
    .obtain⟨a,d,z,B,E⟩:=P7 q e;exact⟨a,d,Zr _ z,B,E⟩
theorem Qdc(k:J8 h):∀{n:Nat}{i:Int}{c:Vm},h.at i=some c->Xk h i<=n->∃a d,a∈h.path n i/\h.at a=some d/\d.sp.par=0
 |0,i,c,hc,hd=>by have:=(k.dep c (Qm.aE hc).1).1;rw[V7 hc]at hd;omega
 |n+1,i,c,hc,hd=>by
  rw[Qm.path,hc];dsimp only;rcases Oq k hc with⟨e,_⟩|⟨q,E,_,e⟩;·exact⟨i,c,List.mem_cons_self,hc,e⟩
  .obtain⟨a,d,u,z,B⟩:=Qdc k (n:=n) E (by omega);exact⟨a,d,Zr _ u,z,B⟩
theorem Nl(k:J8 h){i:Int}{c:Vm}(d:h.at i=some c):Xk h i<=8:=by rw[V7 d];exact(k.dep c (Qm.aE d).1).2
theorem Dv{i y:Int}:y∈h.aM i↔∃c∈h,c.sp.id=y/\c.sp.par=i:=by grind [Yk.aM,Qm.aM,Vm.id]
theorem Np(z:J8 h){id:Int}(U:∀c,h.at id=some c->c.sp.leaf=false){x:Int}:x∈h.aI id↔∃a∈h.aM id,x∈h.aI a:=by
 rw[Y8];constructor
 .rintro⟨c,B,rfl,q,u⟩;have k:=Da z.sorted B;have key:∃a d,a∈h.path 9 c.sp.id/\h.at a=some d/\d.sp.par=id:=by
   rcases u with rfl|u;·exact Qdc z k (by have:=Nl z k;omega)
   .refine P7 u ?_;rintro rfl;have:=U c k;rw[q]at this;cases this
  obtain⟨a,d,ha,E,I⟩:=key;obtain⟨K,J⟩:=Qm.aE E;exact⟨a,Dv.2 ⟨d,K,J,I⟩,Y8.2 ⟨c,B,rfl,q,.inr ha⟩⟩
 .rintro⟨a,ha,V⟩;obtain⟨d,E,rfl,I⟩:=Dv.1 ha;obtain⟨c,B,rfl,q,u⟩:=Y8.1 V;have k:=Da z.sorted B;refine⟨c,B,rfl,q,?_⟩;by_cases R:id=0;·exact .inl R
  .right;rcases u with u|u;·have:=(Cq (z.may d E)).1;omega
   .have:=Qhj z (Nat.lt_succ_of_le (Nl z k)) u (Da z.sorted E) (by rw[I];exact R);rwa[I]at this
theorem No(k:J8 h){id a b x:Int}(ha:a∈h.aM id)(hb:b∈h.aM id)(K:x∈h.aI a)(R:x∈h.aI b):a=b:=by
 obtain⟨d,V,rfl,hp⟩:=Dv.1 ha;obtain⟨d',z,rfl,J⟩:=Dv.1 hb;obtain⟨c,hc,rfl,ab,E⟩:=Y8.1 K;obtain⟨c',aa,e,_,I⟩:=Y8.1 R;have i1:=(Cq (k.may d V)).1;have i2:=(Cq (k.may d' z)).1;have E:=E.resolve_left (by omega);have I:=I.resolve_left (by omega);refine Qkk k E I ?_;have k1:=Oq k (Da k.sorted V);have U:=Oq k (Da k.sorted z);rw[hp]at k1;rw[J]at U;rcases k1 with⟨e1,e2⟩|⟨q,Z,_,e2⟩
 .rcases U with⟨_,B⟩|⟨q',u,_,B⟩;·omega
  .rw[e1,k.zero (by decide)]at u;cases u
 .rcases U with⟨e3,B⟩|⟨q',u,_,B⟩;·rw[e3,k.zero (by decide)]at Z;cases Z
  .omega
theorem Pe:∀{a b:List Int},a.Pairwise (· < ·)->b.Pairwise (· < ·)->(∀x,x∈a↔x∈b)->a=b
 |[],[],_,_,_=>rfl
 |[],y::b,_,_,h=>by have:=(h y).2 List.mem_cons_self;cases this
 |x::a,[],_,_,h=>by have:=(h x).1 List.mem_cons_self;cases this
 |x::a,y::b,ha,hb,h=>by
  obtain⟨d,q⟩:=List.pairwise_cons.1 ha;obtain⟨k,u⟩:=List.pairwise_cons.1 hb;have e:x=y:=by
   rcases Zu.1 ((h x).1 List.mem_cons_self)with e|B;·exact e
   .rcases Zu.1 ((h y).2 List.mem_cons_self)with e|E;·exact e.symm
    .have:=k x B;have:=d y E;omega
  subst e;congr 1;refine Pe q u λz=>⟨λc=>?_,λc=>?_⟩
  .rcases Zu.1 ((h z).1 (Zr _ c))with rfl|h';·have:=d z c;omega
   .exact h'
  .rcases Zu.1 ((h z).2 (Zr _ c))with rfl|h';·have:=k z c;omega
   .exact h'
theorem Qhp(k:J8 h){id:Int}(K:∀c,h.at id=some c->c.sp.leaf=false):((h.aM id).flatMap h.aI).mergeSort (λx y=>decide (x<=y))=h.aI id:=by
 have B:((h.aM id).flatMap h.aI).Pairwise (· ≠ ·):=by
  refine List.pairwise_flatMap.2 ⟨λa _=>(Ut k a).imp λ{x y}aa e=>by omega,?_⟩;have V:=Gk k.sorted id;have:∀l:List Int,l.Pairwise (· < ·)->(∀a∈l,a∈h.aM id)->l.Pairwise λa b=>∀x∈h.aI a,∀y∈h.aI b,x≠y:=by
   intro l;induction l with
   |nil=>intro _ _;exact List.Pairwise.nil
   |cons a l ih=> intro U z;obtain⟨p1,p2⟩:=List.pairwise_cons.1 U;refine List.pairwise_cons.2 ⟨λb J x Z y hy e=>?_,ih p2 λa ha=>z a (Zr _ ha)⟩;subst e;have:=No k (z a List.mem_cons_self) (z b (Zr _ J)) Z hy;have:=p1 b J;omega
  exact this _ V λa ha=>ha
 have d:=List.mergeSort_perm ((h.aM id).flatMap h.aI) (λx y=>decide (x<=y));have u:=List.pairwise_mergeSort (le:=λx y:Int=>decide (x<=y)) (λa b c I q=>by simp only[decide_eq_true_eq]at*;omega) (λa b=>by simp only[Bool.or_eq_true,decide_eq_true_eq];omega) ((h.aM id).flatMap h.aI);have E:=(d.pairwise_iff (R:=(· ≠ ·)) (λh e=>h e.symm)).2 B;refine Pe ?_ (Ut k id) λx=>?_
 .refine(u.and E).imp λ{a b}⟨I,q⟩=>?_;have:a<=b:=by simpa using I
  have q:a≠b:=q;omega
 .rw[d.mem_iff,List.mem_flatMap,Np k K]
theorem Rf(I:J8 h){id:Int}{c:Vm}(E:h.at id=some c)(J:c.sp.leaf=true):h.aI id=[id]:=by
 have K:=I.pos E;refine Pe (Ut I id) (by simp) λx=>?_;rw[Y8];constructor
 .rintro⟨d,hd,rfl,U,B⟩;have B:=B.resolve_left (by omega);by_cases e:id=d.sp.id;·simp[e]
  .obtain⟨a,q,ha,V,k⟩:=P7 B e;rcases Oq I V with⟨e1,_⟩|⟨z,R,u,_⟩;·omega
   .rw[k,E]at R;obtain rfl:=Zs R;rw[J]at u;cases u
 .intro Z;obtain rfl:x=id:=by simpa using Z
  refine⟨c,K.2.2.2.2.2,K.2.2.2.2.1,J,.inr ?_⟩;rw[Qm.path,E];exact List.mem_cons_self
end
section
variable{N:Nat}{s:Qf}
theorem Qem{c:Yk}(h:s.aO c≠0):s.add c=s:=by unfold Qf.add;rw[if_neg h]
theorem Sj{c:Yk}(h:s.aG c≠0):s.change c=s:=by unfold Qf.change;rw[if_neg h]
theorem I0{i:Int}(h:s.aP i≠0):s.drop i=s:=by unfold Qf.drop;rw[if_neg h]
theorem Qnm{p:Jr}{now:Nat}(h:s.aQ p≠0):s.push p now=s:=by unfold Qf.push;rw[if_neg h]
theorem Qbc{i:Int}(h:s.leaf i=none):s.qOf i=[]:=by unfold Qf.qOf;rw[h];rfl
theorem Xp.leaf_none(h:Xp N s){i:Int}(u:s.tree.at i=none):s.leaf i=none:=by
 cases q:s.leaf i with
 |none=>rfl
 |some l=> obtain⟨k,z,_⟩:=h.at q;obtain⟨c,d,_⟩:=k.sp;rw[z,u]at d;cases d
theorem Xp.leaf_at(h:Xp N s){i:Int}{l:Qw}(u:s.leaf i=some l):∃c,s.tree.at i=some c/\c.sp.leaf=true:=by obtain⟨k,z,_⟩:=h.at u;obtain⟨c,q,d,_⟩:=k.sp;rw[z]at q;exact⟨c,q,d⟩
theorem Qt8(h:Xp N s)(c:Yk)(i:Int):(s.add c).qOf i=s.qOf i:=by
 by_cases d:s.aO c=0
 .have k:s.tree.aO c=0:=d;have q:=h.leaf_none (Ub k).2.2.1;unfold Qf.add;rw[if_pos d];unfold Qf.qOf Qf.leaf;dsimp only;split
  .have:=Ix (key:=Qw.id) (l:=s.aI) ⟨c.id,c.pk.toNat,c.bt.toNat,[],Xl c.real⟩ i;unfold Hn at this;rw[this];cases u:s.aI.find? (λx=>decide (x.id=i))with
   |some x=>rfl
   |none=> dsimp only;split<;>rfl
  .rfl
 .rw[Qem d]
theorem Qbb(c:Yk)(i:Int):(s.change c).qOf i=s.qOf i:=by
 by_cases d:s.aG c=0
 .unfold Qf.change;rw[if_pos d];unfold Qf.qOf Qf.leaf;dsimp only;have:=Qm1 (key:=Qw.id) (l:=s.aI) (f:=λl=>if l.id=c.id then{l with debt:=Xl c.real}else l) (λl=>by split<;>rfl) i;unfold Hn at this;rw[this];cases k:s.aI.find? (λx=>decide (x.id=i))with
  |none=>rfl
  |some x=> simp only[Zn];split<;>rfl
 .rw[Sj d]
theorem Qsf(h:Xp N s)(d i:Int):(s.drop d).qOf i=s.qOf i:=by
 by_cases c:s.aP d=0
 .obtain⟨q,_⟩:=Ng c;unfold Qf.drop;rw[if_pos c];unfold Qf.qOf Qf.leaf;dsimp only;have:=Qgi (key:=Qw.id) (l:=s.aI) d i;unfold Hn Kp at this;rw[this];split
  .rename_i e;cases u:s.aI.find? (λx=>decide (x.id=i))with
   |none=>rfl
   |some x=>
    have k:s.leaf d=some x:=by rw[<-e];exact u
    simp[h.idle k q]
  .rfl
 .rw[I0 c]
theorem Qbd{l l':Qw}{row:List Xu}{p:Qe}{i:Int}(d:s.leaf i=some l)(c:l'.id=i)(j:Int):Qf.qOf {s with aI:=Lg Qw.id l' s.aI,row:=row,pick:=p} j=if j=i then l'.q else s.qOf j:=by unfold Qf.qOf Qf.leaf;dsimp only;have:=Qeo (key:=Qw.id) (x:=l') (y:=l) (l:=s.aI) (by rw[c];exact d) j;unfold Hn at this;rw[this,c];split<;>rfl
theorem Qsg(h:Xp N s){p:Jr}(now:Nat)(B:s.aQ p=0)(i:Int):(s.push p now).qOf i=if i=p.cls then s.qOf p.cls++[p]else s.qOf i:=by
 obtain⟨c,l,J,I,E,k,z⟩:=Mk B;have u:=(h.at k).2.1;rw[Ct B k,Ov k];split;·exact Qbd (l:=l) (l':={l with q:=l.q++[p]}) (row:=s.row) (p:=s.pick) k u i
 .rw[Rm];exact Qbd (l:=l) (l':={l with q:=l.q++[p],debt:=l.debt.map λd=>d.wake now p.len}) k u i
theorem Qsh(h:Xp N s){id:Int}(c:Nat){l:Qw}(d:s.leaf id=some l)(i:Int):(s.take id c).qOf i=if i=id then l.q.tail else s.qOf i:=by grind [Qf.leaf,Qf.take,Qf.qOf,Jy.at,Tr.at,Xh.at,Ju.serve,Jr.zero,Fd,Rm,Qbd]
theorem Qhw(i:Int):0<=s.many i:=by
 unfold Qf.many;generalize s.tree.aI i=l;induction l with
 |nil=>simp
 |cons x l c=>rw[List.map_cons,List.sum_cons];omega
theorem Qdq(h:Xp N s){i:Int}{c:Vm}(k:s.tree.at i=some c)(d:c.sp.leaf=true):s.many i=((s.qOf i).length:Int)/\s.bytes i=Jn (s.qOf i):=by unfold Qf.many Qf.bytes;rw[Rf h.tree k d];simp
def G4(f:Nat->Int):Nat->Int
 |0=>0
 |n+1=>G4 f n+f n
theorem Qj1{f:Nat->Int}:∀{n:Nat},(∀k,k<n->f k=0)->G4 f n=0
 |0,_=>rfl
 |n+1,h=>by rw[G4,Qj1 λk c=>h k (by omega),h n (by omega)];rfl
theorem Pl{f g:Nat->Int}:∀{n:Nat},(∀k,k<n->f k=g k)->G4 f n=G4 g n
 |0,_=>rfl
 |n+1,h=>by rw[G4,G4,Pl λk c=>h k (by omega),h n (by omega)]
theorem Qwc{f g:Nat->Int}:∀n:Nat,G4 (λk=>f k+g k) n=G4 f n+G4 g n
 |0=>rfl
 |n+1=>by rw[G4,G4,G4,Qwc n];omega
theorem Qwd{v:Int}{m:Nat}:∀{n:Nat},m<n->G4 (λk=>if k=m then v else 0) n=v
 |0,h=>by omega
 |n+1,h=>by
  rw[G4];by_cases e:n=m;·rw[Qj1 λk c=>if_neg (by omega),if_pos e];omega
  .rw[Qwd (by omega),if_neg e];omega
theorem Qwt{f:Int->Int}{n:Nat}:∀{l:List Int},l.Pairwise (· < ·)->(∀x∈l,0<=x/\x<n)->(l.map f).sum=G4 (λk=>if(k:Int)∈l then f k else 0) n
 |[],_,_=>by rw[Qj1 λk _=>by simp];rfl
 |x::l,hp,hb=>by
  obtain⟨B,E⟩:=List.pairwise_cons.1 hp;have I:=hb x List.mem_cons_self;rw[List.map_cons,List.sum_cons,Qwt E λy z=>hb y (Zr _ z)];have e:(λk:Nat=>if(k:Int)∈x::l then f k else 0)=λk:Nat=>(if k=x.toNat then f x else 0)+(if(k:Int)∈l then f k else 0):=funext λk=>by
   by_cases u:k=x.toNat
   .have c:(k:Int)=x:=by omega
    have q:x∉l:=λh=>by have:=B x h;omega
    rw[c,if_pos List.mem_cons_self,if_pos u,if_neg q];omega
   .have c:(k:Int)≠x:=by omega
    rw[if_neg u];by_cases d:(k:Int)∈l;·rw[if_pos d,if_pos (Zr _ d)];omega
    .rw[if_neg d,if_neg (λh=>(Zu.1 h).elim c d)];omega
  rw[e,Qwc,Qwd (by omega)]
theorem G8(h:Xp N s){x:Int}:x∈s.tree.aI 0↔∃l,s.leaf x=some l:=by
 rw[Y8];constructor;·rintro⟨c,d,rfl,q,_⟩;exact h.lv _ c (Da h.tree.sorted d) q
 .rintro⟨l,q⟩;obtain⟨c,d,k⟩:=h.leaf_at q;obtain⟨z,u⟩:=Qm.aE d;exact⟨c,z,u,k,.inl rfl⟩
theorem Qv8(h:Xp N s){n:Nat}(I:∀c∈s.tree,c.sp.id<n):s.many 0=G4 (λk=>((s.qOf k).length:Int)) n/\s.bytes 0=G4 (λk=>Jn (s.qOf k)) n:=by
 have E:=Ut h.tree 0;have q:∀x∈s.tree.aI 0,0<=x/\x<n:=λx J=>by obtain⟨c,z,rfl,_⟩:=Y8.1 J;have:=(Cq (h.tree.may c z)).1;have:=I c z;omega
 have u:∀k:Nat,(k:Int)∉s.tree.aI 0->s.qOf k=[]:=λk d=>by
  cases B:s.leaf (k:Int)with
  |none=>exact Qbc B
  |some l=>exact absurd ((G8 h).2 ⟨l,B⟩) d
 unfold Qf.many Qf.bytes;rw[Qwt (f:=λx=>((s.qOf x).length:Int)) E q,Qwt (f:=λx=>Jn (s.qOf x)) E q];refine⟨Pl λk _=>?_,Pl λk _=>?_⟩
 .by_cases d:(k:Int)∈s.tree.aI 0;·rw[if_pos d]
  .rw[if_neg d,u k d];rfl
 .by_cases d:(k:Int)∈s.tree.aI 0;·rw[if_pos d]
  .rw[if_neg d,u k d];rfl
theorem Qpn(p:Jr)(now:Nat):(s.push p now).tree=s.tree:=by
 unfold Qf.push;split
 .cases c:s.leaf p.cls with
  |none=>rfl
  |some l=>
   dsimp only;split;·rfl
   .rw[Rm]
 .rfl
theorem Qqk(id:Int)(c:Nat):(s.take id c).tree=s.tree:=by unfold Qf.take;grind [Rm]
end
section
variable{w:World}{F:Fp}{b:Nat}{h:Qm}
theorem Qgd{s:Yk}(c:h.aO s≠0):h.add s=h:=by unfold Qm.add;rw[if_neg c]
theorem Qny(hh:Q9 w F b h)(ok:J8 h){s:Yk}(h0:h.aO s=0):
  ∃ma mu,Qh w b #[.map (some ma),.map (some mu)] 114/\ma<w.heap.size/\mu<w.heap.size/\b≠ma/\b≠mu/\∀w3,Qc Qb w w3->
   ∃u,(Instr.mapUpdate 111 (.map (some ma)) (ZI s.id) (.agg (P0 ⟨s,h.depth s.par⟩))).run prog w3.drew=.ok () u/\Qc (λk=>k=ma) w3 u/\
   ∃v,(Instr.lookup 112 (.map (some mu)) (ZI s.par) false).run prog u.drew=.ok v u.drew/\Q6 u v (h.aM s.par)/\(∀k,v.ownBlock=some k->k<w.heap.size/\k≠b/\k≠ma/\k≠mu)/\
   ∀i w5 w6 v',Om s.id (h.aM s.par) i i->Qc Qb u w5->Qc (λk=>v.ownBlock=some k) w5 w6->Q6 w6 v' ((h.aM s.par).take i++s.id::(h.aM s.par).drop i)->(v'.ownBlock=v.ownBlock\/∃k,v'.ownBlock=some k/\w5.heap.size<=k)->
    ∃B,(Instr.mapUpdate 112 (.map (some mu)) (ZI s.par) v').run prog w6=.ok () B/\Q9 B (Qn F w B) b (h.add s)/\Qc F w B:=by
 obtain⟨ma,mu,l,vs,G,hp,hn,aq,ae,z,fb,fm,fG,al,V,a4,az,am⟩:=hh.opn;have ag:=z.at_;obtain⟨_,_,ab,_⟩:=Ub h0;have ah:=Wu ab;refine⟨ma,mu,aq,ae.lt,z.map.lt,a4,λe=>al (e▸ag),λw3 E=>?_⟩;obtain⟨u,r4,av,c4⟩:=X6 (P:=prog) ((ae.aB E (λh=>h)).aB (Zg Qb w3).drew (λh=>h)) underlying111 underlying3 s.id (.agg (P0 ⟨s,h.depth s.par⟩));have I:Qc (λk=>k=ma) w3 u:=c4.aT;refine⟨u,r4,I,?_⟩;have U:=(z.aB E (Jl.none G)).aB I (λk d e=>V (e▸d));obtain⟨v,hr,hI,hv⟩:=(U.aB (Zg Qb u).drew (Jl.none G)).look s.par;have ar:Q6 u v (h.aM s.par):=hI;have q:∀k,v.ownBlock=some k->(s.par,v)∈vs/\G k/\k≠mu:=λk d=>by
  rcases hv with⟨e,_⟩|hv;·rw[e]at d;cases d
  .exact⟨hv,z.own _ hv k d⟩
 refine⟨v,hr,ar,λk d=>?_,λi w5 w6 v' a3 J K ac aj=>?_⟩;·obtain⟨_,h1,h2⟩:=q k d;exact⟨az k (fG k h1),λe=>al (e▸h1),λe=>V (e▸h1),h2⟩
 .have aw:=(U.map.aB J (λh=>h)).aB K (λd=>(q mu d).2.2 rfl);obtain⟨B,r7,ax,R⟩:=X6 (P:=prog) aw underlying112 underlying3 s.par v';refine⟨B,r7,?_⟩;have a0:(λk=>Qm.aM (h.add s) k)=λk=>if s.par=k then Nm s.id (h.aM k)else h.aM k:=funext λk=>by rw[Bv h0];exact Fe ⟨s,h.depth s.par⟩ k ok.sorted
  have aa:∀k,(h.add s).aM k=if s.par=k then Nm s.id (h.aM k)else h.aM k:=λk=>congrFun a0 k;have a1:s.id∉h.aM s.par:=λhx=>by obtain⟨c,hc,e,_⟩:=Sx hx;exact ah c hc e
  have ai:(h.add s).aM s.par=(h.aM s.par).take i++s.id::(h.aM s.par).drop i:=by rw[aa,if_pos rfl,Qm8 a3 a1]
  have s5:=J.size;have s6:=K.size;have s7:=R.size;have ak:∀k,v'.ownBlock=some k->k<w6.heap.size:=ac.lt;have au:Q6 B v' ((h.add s).aM s.par):=by
   rw[ai];refine ac.aB R λk d e=>?_;rcases aj with Z|⟨k2,Z,h2⟩;·rw[Z]at d;exact(q k d).2.2 e
   .rw[Z]at d;have e3:k2=k:=Zs d;have:=U.map.lt;omega
  have ao:Qc (λk=>k=mu\/v.ownBlock=some k) u B:=((J.none.aA (K.mono λk d=>.inl (.inr d))).trans R λk d=>.inl (.inl d));obtain⟨ay,ap⟩:=U.put (i:=s.par) (v':=v') (λk d=>by rw[aa,if_neg (λe=>d e.symm)]) au (λk d=>by
   rcases aj with Z|⟨k2,Z,h2⟩;·rw[Z]at d;exact .inl ⟨v,(q k d).1,d⟩
   .rw[Z]at d;have e3:k2=k:=Zs d;have h3:=ak k (by rw[Z,e3]);exact .inr ⟨by omega,by omega⟩) ax ao (λk d=>d.imp id λd=>⟨v,(q k d).1,d⟩)
  have cA:Qc (λk=>k=ma\/G k) w B:=(E.none.aA (I.mono λk d=>.inl (.inl d))).aA (ap.sub λk d=>.inr d);have an:Bd G w:=z.bd;refine am B (l++[⟨s,h.depth s.par⟩]) _ _ ?_ ?_ (ay.later (w:=w) (Zp E.size I.size) ?_) cA;·rw[Bv h0];exact(hp.append_right _).trans (Ef _ h).symm
  .have af:=((av.aB J (λh=>h)).aB K (λd=>by obtain⟨_,h1,_⟩:=q ma d;exact V h1)).aB R (λe=>V (e▸ag));rw[Gw (λp a2=>by
    obtain⟨x,hx,rfl⟩:=Z3.1 a2;exact ah x (hp.mem_iff.1 hx))]at af
   have:Us (l++[⟨s,h.depth s.par⟩])=Us l++[(s.id,.agg (P0 ⟨s,h.depth s.par⟩))]:=by unfold Us;rw[List.map_append];rfl
   rw[this];exact af
  .exact λk d=>d.elim (λd=>Nat.lt_of_lt_of_le (an k d) cA.size) (λd=>d.2)
theorem Am(h:Qm)(s:Yk):h.aO s=if s.mayE≠0 then 130 else if 64<=h.length then 4 else if(h.at s.id).isSome then 80 else if h.depth s.par=0 then 160 else 0:=rfl
end
section
variable{w:World}{F:Fp}{b:Nat}{h:Qm}
theorem Qh.inj{w}{g:Nat}{cs cs':Array Value}{t c:TypeId}(h:Qh w g cs t)(h':Qh w g cs' c):cs=cs':=by unfold Qh at h h';rw[h]at h';injection h' with h';injection h' with h'
theorem Qor(hh:Q9 w F b h)(ok:J8 h)(s:Yk):
  ZW 102 #[ptr b,Fb s] w (ZI (h.aO s)) λw'=>Q9 w' (Qn F w w') b (h.add s)/\Qc F w w':=by
 have aa:=O (λw'(c:Qc Qb w w')=>Q9.obj.aB hh c (Jl.none F));have NO:Hi (∀w',Qc Qb w w'->h.aO s≠0->Q9 w' (Qn F w w') b (h.add s)/\Qc F w w'):=O (λw' c h0=>by rw[Qgd h0];exact Q9.obj.same hh c);obtain⟨W,hW⟩:=Zx (w.alloc (.cells (Z4 s.leaf s) 29));have S0:Hi (Xx W w.heap.size s):=O (by rw[hW];exact Xx.new w s);have C0:Hi (Qc Qb w W):=O (by rw[hW];exact(Zg _ _).alloc _);have HN:=O (Gz (aa.o W C0.o));have I:=O (λw=>Qef s w);obtain⟨a0,a1,a2,a3,a4,a5,a6,a7,a8,a9,ak,al,am,an⟩:=(show Xx (w.alloc _) _ _ from hW▸S0.o).cells;by_cases hm:s.mayE=0
 .have hE:h.aO s=if 64<=h.length then 4 else if(h.at s.id).isSome then 80 else if h.depth s.par=0 then 160 else 0:=by rw[Am,if_neg (by omega)]
  have HD:=O (λw'(c:Qc Qb w w')=>Qhk (aa.o w' c) s.par);obtain⟨ma,mu,l,vs,G,hp,z,ao,ar,bo,fb,fm,fG,bt,bu,bv,bp,_⟩:=hh.opn;have Z:=O ao;have LK:=O (λ(w')(cc:Qc Qb w w')=>show(Instr.lookup 111 (.map (some ma)) (ZI s.id) true).run prog w'=.ok (.tuple #[.agg (P0 (h.get s.id)),.bool (h.at s.id).isSome]) w' by
   have hL:=Dj (P:=prog) (ar.aB cc (λh=>h)) underlying111 underlying3 (Sf w') s.id;rw[Ed s.id l z,<-Qm.at_perm hp z]at hL;rw[hL];unfold Qm.get;cases h.at s.id<;>rfl)
  have ay:=O (λ(w')(cc:Qc Qb w w')=>show(Builtin.len_ #[111] 3 #[.map (some ma)]).run prog w'=.ok (ZI h.length) w' by
   have hL:=Qua (P:=prog) (ar.aB cc (λh=>h)) underlying111 3;have e:(Us l).length=h.length:=by unfold Us;rw[List.length_map,hp.length_eq]
   rw[e]at hL;exact hL)
  have J:Hi (h.aO s=0->ma<w.heap.size/\mu<w.heap.size/\b≠ma/\b≠mu/\∀w3,Qc Qb w w3->
   ∃q,(Instr.mapUpdate 111 (.map (some ma)) (ZI s.id) (.agg (P0 ⟨s,h.depth s.par⟩))).run prog w3.drew=.ok () q/\Qc (λk=>k=ma) w3 q/\
   ∃v,(Instr.lookup 112 (.map (some mu)) (ZI s.par) false).run prog q.drew=.ok v q.drew/\Q6 q v (h.aM s.par)/\(∀k,v.ownBlock=some k->k<w.heap.size/\k≠b/\k≠ma/\k≠mu)/\
   ∀i w5 w6 v',Om s.id (h.aM s.par) i i->Qc Qb q w5->Qc (λk=>v.ownBlock=some k) w5 w6->Q6 w6 v' ((h.aM s.par).take i++s.id::(h.aM s.par).drop i)->(v'.ownBlock=v.ownBlock\/∃k,v'.ownBlock=some k/\w5.heap.size<=k)->
    ∃w7,(Instr.mapUpdate 112 (.map (some mu)) (ZI s.par) v').run prog w6=.ok () w7/\Q9 w7 (Qn F w w7) b (h.add s)/\Qc F w w7):=O (λh0=>by
   obtain⟨br,bs,bl,k1,k2,k3,k4,k5⟩:=Qny hh ok h0;have e:=ao.inj bl;injection e with e;injection e with R e2;injection R with R;injection e2 with e2 _;injection e2 with e2;have R:ma=br:=Zs R;have e2:mu=bs:=Zs e2;subst R;subst e2;exact⟨k1,k2,k3,k4,k5⟩)
  have aj:=O (Gk ok.sorted s.par);have ab:Hi ((h.aM s.par).length<=64):=O (by
   have:(h.aM s.par).length<=h.length:=by unfold Qm.aM;rw[List.length_map];exact List.length_filter_le _ _
   have:=ok.many;omega)
  have Eu:decide (s.mayE=0)=true:=by simpa using hm
  have bq:(s.mayE==0)=true:=by simpa using hm
  obtain⟨c,hc⟩:=Zx (h.get s.id);rw[<-hc]at LK;obtain⟨bw,bd⟩:=Zx ((h.at s.id).isSome);rw[<-bd]at LK hE;obtain⟨n,bc⟩:=Zx (h.length);rw[<-bc]at ay hE;obtain⟨d,au⟩:=Zx (h.depth s.par);rw[<-au]at HD J hE;have b2:Hi (d<=8):=O (by
   rw[au];unfold Qm.depth;split;·omega
   .split;·omega
    .split;·omega
     .rename_i hx;simp only[Bool.or_eq_true,decide_eq_true_eq,not_or]at hx;omega)
  have HE:=O hE;rw[hm]at I;unfold Fb ptr at*;clear hh ok hE hm ao ar bo hp z fb fm fG bt bu bv bp hc bd bc au Eu bq;apply WH func102;go_wp2_with fail;rw[<-hW]at a0 a1 a2 a3 a4 a5 a6 a7 a8 a9 ak al am an|-;clear hW;apply Zy HN;rintro w1 rfl;go_wp2_with fail;apply Zz (I.o _);intro w1 c1;have C1:=O (C0.o.aA c1);have S1:=O (S0.o.aB c1);have b3:Hi (w.heap.size<w1.heap.size):=O (Nat.lt_of_lt_of_le (Qh.lt S0.o) c1.size);clear c1 a0 a1 a2 a3 a4 a5 a6 a7 a8 a9 ak al am an;go_wp2_with fail;apply XC 3221111111111 Qb w1;iterate 3 (refine Qy (h:=?_);try simp only[Act.put,Za,Zc,Zb])
  iterate 1 (apply YK λ_ hv=>Q4 (hv.blk (C1.o.blk Z.o (λh=>h)) (λh=>h)))
  (refine Qy (h:=?_);try simp only[Act.put,Za,Zc,Zb]);iterate 2 (apply YK λU hv=>Zt ((show Xx U w.heap.size s from S1.o.aB hv).cells) (LK.o U (C1.o.aA hv)))
  apply YA 0;go_wp2_with fail;refine⟨((Zg Qb w1).alloc _).drew,?_⟩;have ap:Qh (w1.alloc (.cells Z6 109)).drew w1.heap.size Z6 109:=(Qh.new _ _ _).drew;have D1:Qc Qb w1 (w1.alloc (.cells Z6 109)).drew:=((Zg Qb w1).alloc _).drew;generalize(w1.alloc (.cells Z6 109)).drew=W1 at ap D1|-;obtain⟨W2,s2,bm,C2⟩:=Q0 (P:=prog) (vs:=P0 c) ap rfl (Sn c);have af:Qc Qb w1 W2:=D1.trans C2 (λk e=>.inr (by omega));have B:=O af;have av:=O (C1.o.aA af);clear ap D1 bm C2 af;refine Yb ?_;go_wp2_with fail;refine⟨B.o,?_⟩;apply YI 0;clear s2;have bz:=(show Xx W2 w.heap.size s from S1.o.aB B.o).cells.2.1;go_wp2_with fail;apply Zz (HD.o W2 av.o);intro w3 c3;have V:=O (av.o.aA c3);have S3:=O ((S1.o.aB B.o).aB c3);clear c3 bz;have b0:=Q4 (V.o.blk Z.o (λh=>h));have bb:=ay.o w3 V.o;by_cases z:64<=n
  .have bg:decide (64<=(n:Int))=true:=by simp;omega
   have E:=O (show h.aO s=4 by rw[HE.o,if_pos z]);have u:=O (NO.o w3 V.o (by rw[E.o];decide));clear z;go_wp2_with fail;go_ret;exact⟨by rw[E.o];rfl,u.o⟩
  .have bg:decide (64<=(n:Int))=false:=by simp;omega
   cases bw with
   |true=> have E:=O (show h.aO s=80 by rw[HE.o,if_neg z,if_pos rfl]);have u:=O (NO.o w3 V.o (by rw[E.o];decide));clear z;go_wp2_with fail;go_ret;exact⟨by rw[E.o];rfl,u.o⟩
   |false=>
    by_cases hd:d=0;·have E:=O (show h.aO s=160 by rw[HE.o,if_neg z,if_neg (by decide),if_pos hd]);have u:=O (NO.o w3 V.o (by rw[E.o];decide));subst hd;clear z;go_wp2_with fail;go_ret;exact⟨by rw[E.o];rfl,u.o⟩
    .have E:=O (show h.aO s=0 by rw[HE.o,if_neg z,if_neg (by decide),if_neg hd]);have b4:decide ((d:Int)=0)=false:=by simp;omega
     have b5:((d:Int)==0)=false:=by simp;omega
     obtain⟨k1,k2,k3,k4,k5⟩:=J.o E.o;obtain⟨q,r4,c4,v,r5,az,bf,k6⟩:=k5 w3 V.o;have K:=O (Zt k1 (Zt k2 (Zt k3 k4)));have C4:=O c4;have aw:=O az;have ai:=O bf;have K6:=O k6;have S4:=O (c4.blk S3.o (λe=>by
      have:=K.o.1;omega))
     have ag:=O (c4.blk (V.o.blk Z.o (λh=>h)) K.o.2.2.1);clear z k1 k2 k3 k4 k5 k6 c4 az bf;go_wp2_with fail;clear b0 bb;have e0:=Q4 ((V.o.blk Z.o (λh=>h)).drew);have g0:=(show Xx w3.drew w.heap.size s from S3.o.aB (Zg Qb w3).drew).cells;unfold P0 at r4;dsimp only at r4;apply XB 2000000000;apply YA 0;clear e0 g0;go_wp2_with fail;refine Jo ?_;clear r4;go_wp2_with fail;have e0:=Q4 ag.o.drew;have g1:=(show Xx q.drew w.heap.size s from Xx.aB S4.o (Zg Qb q).drew).cells;apply XB 20000000;apply YA 0;clear e0 g1;go_wp2_with fail;refine Jo ?_;clear r5;have g0:=(show Xx q.drew w.heap.size s from Xx.aB S4.o (Zg Qb q).drew).cells;go_wp2_with fail;refine(Qn7 (Q6.aB aw.o (Zg Qb q).drew (λ_ _ h=>h)) (aj.o.imp λh=>Int.le_of_lt h) (by have:=ab.o;omega) s.id).mono ?_;rintro e w5⟨i,fb,rfl,rfl,be⟩;have ax:=O be;clear be;go_wp2_with fail;clear g0;have NE:=O (λk hk=>(ai.o k hk).2.1);have g0:=(show Xx q.drew.drew w.heap.size s from Xx.aB S4.o (Zg Qb q).drew.drew).cells;have e0:=Q4 ag.o.drew.drew;apply XC 3220011111111 (λk=>v.ownBlock=some k) q;iterate 3 (refine Qy (h:=?_);try simp only[Act.put,Za,Zc,Zb])
     iterate 1 (apply YK λ_ hv=>Q4 (hv.blk ag.o (λh=>NE.o _ h rfl)))
     (refine Qy (h:=?_);try simp only[Act.put,Za,Zc,Zb]);iterate 1 (refine Qy (by kernel_rfl) (λU hv=>by(have z1:=(show Xx U w.heap.size s from hv.blk S4.o (λh=>by have:=(ai.o _ h).1;omega)).cells);go_simp;try rfl) ?_;try simp only[Act.put,Za,Zc,Zb])
     apply YA 0;clear e0 g0;go_wp2_with fail;refine⟨(Zg _ q).drew.drew.alloc _,?_⟩;have hV:Qh ((q.alloc (.cells #[ZI s.id] 3)).drew.drew) q.heap.size #[ZI s.id] 3:=(Qh.new _ _ _).drew.drew;have aq:Qc Qb q ((q.alloc (.cells #[ZI s.id] 3)).drew.drew):=((Zg _ q).alloc _).drew.drew;generalize(q.alloc (.cells #[ZI s.id] 3)).drew.drew=w5 at hV aq|-;have ah:=O aq;have HV:=O hV;clear hV aq;refine Yb ?_;go_wp2_with fail;refine(Qkn (Q6.aB aw.o ah.o (λ_ _ h=>h)) (by have:=ab.o;omega) i ax.o.len s.id HV.o (λk hk e=>by
      have h1:=(ai.o k hk).1;have h2:=V.o.size;have h3:=C4.o.size;omega)).mono ?_
     rintro e w6⟨v',rfl,ba,c6,ho⟩;obtain⟨w7,r7,ae,ac⟩:=K6.o i w5 w6 v' ax.o ah.o c6 ba ho;have u:=O (Zt ae ac);have C6:=O (ah.o.none.aA c6);clear ba c6 ho ae ac;go_wp2_with fail;refine⟨C6.o,?_⟩;apply YI 0;clear r7;go_wp2;go_ret;exact⟨by rw[E.o];rfl,u.o⟩
 .have hE:h.aO s=130:=by rw[Am,if_pos hm]
  have hd:decide (s.mayE=0)=false:=by simpa using hm
  have b6:(s.mayE==0)=false:=by simpa using hm
  rw[hE];rw[hE]at NO;unfold Fb ptr at*;clear hh ok hE hm;apply WH func102;go_wp2_with fail;rw[<-hW]at a0 a1 a2 a3 a4 a5 a6 a7 a8 a9 ak al am an|-;clear hW;apply Zy HN;rintro w1 rfl;go_wp2_with fail;apply Z9 (I.o _) (λw1 c1=>NO.o w1 (C0.o.aA c1) (by decide));intro w1 u;go_wp2_with fail;go_ret;exact⟨rfl,u.o⟩
end
section
@[irreducible]def Qr5(c d k q u z B E I s1 s2 s3 J K R U V Z:Int):Bool:=!(c==s1&&(d==s2&&(k==s3&&(q==J&&(u==K&&(z==R&&(B==U&&(E==V&&I==Z))))))))
theorem Qlb{c d k q u z B E I s1 s2 s3 J K R U V Z:Int}(h:Qr5 c d k q u z B E I s1 s2 s3 J K R U V Z=false):c=s1/\d=s2/\k=s3/\q=J/\u=K/\z=R/\B=U/\E=V/\I=Z:=by unfold Qr5 at h;simpa using h
theorem Qma(i p k t d K R U V Z r6 r7 r8 r9 s1 s2 s3 s4 s5 s6 s7 s8 s9:Int)(b:Bool)(w):
  (binOp .neq 109 (.agg #[ZI i,ZI p,.bool b,ZU K,ZU R,ZU U,ZU V,ZU Z,ZU r6,ZU r7,ZU r8,ZU r9,ZI k,ZI t,ZI d]) (.agg #[ZI i,ZI p,.bool b,ZU s1,ZU s2,ZU s3,ZU s4,ZU s5,ZU s6,ZU s7,ZU s8,ZU s9,ZI k,ZI t,ZI d])).run prog w=
   .ok (.bool (Qr5 K R U V Z r6 r7 r8 r9 s1 s2 s3 s4 s5 s6 s7 s8 s9)) w:=by
 unfold Qr5;go_simp;by_cases c:K=s1;case neg=>simp[c]
 by_cases q:R=s2;case neg=>simp[c,q]
 by_cases u:U=s3;case neg=>simp[c,q,u]
 by_cases z:V=s4;case neg=>simp[c,q,u,z]
 by_cases B:Z=s5;case neg=>simp[c,q,u,z,B]
 by_cases E:r6=s6;case neg=>simp[c,q,u,z,B,E]
 by_cases I:r7=s7;case neg=>simp[c,q,u,z,B,E,I]
 by_cases J:r8=s8;case neg=>simp[c,q,u,z,B,E,I,J]
 by_cases h9:r9=s9;case neg=>simp[c,q,u,z,B,E,I,J,h9]
 simp[c,q,u,z,B,E,I,J,h9]
end
def Qc0(a b:Jy):Bool:=(a.f:Int)==(b.f:Int)&&((a.l:Int)==(b.l:Int)&&(a.r:Int)==(b.r:Int))
theorem Tx{a b:Jy}(h:Qc0 a b=true):a=b:=by obtain⟨c,d,k⟩:=a;obtain⟨q,u,z⟩:=b;unfold Qc0 at h;simp only[Zw,beq_iff_eq]at h;obtain⟨B,E,I⟩:=h;congr 1<;>omega
def Qfo(a s:Yk):Bool:=Qc0 a.real s.real&&(Qc0 a.share s.share&&Qc0 a.aN s.aN)
theorem Qiy{a s:Yk}(h:Qfo a s=true):a.aK s=a:=by unfold Qfo at h;simp only[Zw]at h;obtain⟨c,d,k⟩:=h;unfold Yk.aK;rw[<-Tx c,<-Tx d,<-Tx k]
section
variable{w:World}{F:Fp}{b:Nat}{h:Qm}
theorem Fq{s:Yk}(c:h.aG s≠0):h.change s=h:=by unfold Qm.change;rw[if_neg c]
theorem Qgt{s:Yk}{c:Vm}(z:J8 h)(k:h.at s.id=some c)(q:Qfo c.sp s=true):h.change s=h:=by
 unfold Qm.change;split
 .have:∀x∈h,(if x.sp.id=s.id then(⟨x.sp.aK s,x.d⟩:Vm)else x)=x:=λx u=>by
   split;·rename_i e;have d:=Da z.sorted u;rw[e,k]at d;obtain rfl:=Zs d;rw[Qiy q]
   .rfl
  calc h.map (λx=>if x.sp.id=s.id then(⟨x.sp.aK s,x.d⟩:Vm)else x)=h.map id:=List.map_congr_left this
   _=h:=List.map_id h
 .rfl
theorem Qp9{l:List Vm}{c:Vm}(i:Int)(q:(l.map Vm.id).Nodup)(u:∃x∈l,x.sp.id=c.sp.id):Oi c.sp.id (.agg (P0 c)) (Us l)=Us (l.map λx=>if x.sp.id=c.sp.id then c else x):=by
 induction l with
 |nil=>obtain⟨x,d,_⟩:=u;cases d
 |cons y l B=>
  simp only[List.map_cons,List.nodup_cons]at q;show Oi c.sp.id (.agg (P0 c)) ((y.sp.id,.agg (P0 y))::Us l)=_;rw[Oi];by_cases e:y.sp.id=c.sp.id
  .rw[if_pos e.symm];have:l.map (λx=>if x.sp.id=c.sp.id then c else x)=l:=by
    have:∀x∈l,(if x.sp.id=c.sp.id then c else x)=x:=λx d=>if_neg λk=>q.1 (Z3.2 ⟨x,d,k.trans e.symm⟩)
    calc l.map (λx=>if x.sp.id=c.sp.id then c else x)=l.map id:=List.map_congr_left this
     _=l:=List.map_id l
   rw[List.map_cons,this,if_pos e];rfl
  .rw[if_neg (λz=>e z.symm),List.map_cons,if_neg e,B q.2 (by
    obtain⟨x,d,k⟩:=u;rcases Zu.1 d with rfl|d;·exact absurd k e
    .exact⟨x,d,k⟩)]
   rfl
theorem Qev(hh:Q9 w F b h){s:Yk}(h0:h.aG s=0){c:Vm}(hc:h.at s.id=some c):
  ∃ma mu,Qh w b #[.map (some ma),.map (some mu)] 114/\∀w3,Qc Qb w w3->
   ∃q,(Instr.mapUpdate 111 (.map (some ma)) (ZI s.id) (.agg (P0 ⟨c.sp.aK s,c.d⟩))).run prog w3=.ok () q/\Q9 q (Qn F w q) b (h.change s)/\Qc F w q:=by
 obtain⟨ma,mu,l,vs,G,hp,hn,U,V,E,fb,fm,fG,ae,ab,af,ac,K⟩:=hh.opn;refine⟨ma,mu,U,λw3 u=>?_⟩;obtain⟨q,r4,B,z⟩:=X6 (P:=prog) (V.aB u (λh=>h)) underlying111 underlying3 s.id (.agg (P0 ⟨c.sp.aK s,c.d⟩));refine⟨q,r4,?_⟩;obtain⟨aa,I⟩:=Qm.aE hc;have Z:=((E.aB u (Jl.none G)).aB z (λk d e=>ab (e▸d))).same (h':=h.change s) (λi=>by
  unfold Qm.change;rw[if_pos h0];exact Ik h s i)
 have cA:Qc (λk=>k=ma\/G k) w q:=u.none.aA (z.mono λk d=>.inl (.inl d));have J:c∈l:=hp.mem_iff.2 aa;have R:Bd G w:=E.bd;refine K q (l.map λx=>if x.sp.id=s.id then⟨x.sp.aK s,x.d⟩else x) vs _ ?_ ?_ ((Y7.good mu vs _).more Z (λk d=>.inl d) (λk d=>d.elim (λd=>Nat.lt_of_lt_of_le (R k d) cA.size) (λd=>d.2))) cA;·unfold Qm.change;rw[if_pos h0];exact hp.map _
 .have e1:s.id=(⟨c.sp.aK s,c.d⟩:Vm).sp.id:=I.symm;have e2:=Qp9 (c:=⟨c.sp.aK s,c.d⟩) s.id hn ⟨c,J,rfl⟩;rw[<-e1]at e2;rw[e2]at B;have e3:(l.map λx=>if x.sp.id=s.id then(⟨c.sp.aK s,c.d⟩:Vm)else x)=l.map λx=>if x.sp.id=s.id then⟨x.sp.aK s,x.d⟩else x:=by
   refine List.map_congr_left λx hx=>?_;split
   .rename_i e;have:x=c:=by have h1:=Ls (key:=Vm.id) hn hx e;have h2:=Ls (key:=Vm.id) hn J I;exact Zs (h1.symm.trans h2)
    rw[this]
   .rfl
  rw[<-e3];exact B
end
section
attribute [local go_sem ↓] Qma
section
variable{w:World}{F:Fp}{b:Nat}{h:Qm}
theorem Qda(h:Qm){i:Int}{c:Vm}(d:h.at i=some c):h.get i=c:=by unfold Qm.get;rw[d];rfl
theorem Qe1(hh:Q9 w F b h)(ok:J8 h)(s:Yk):
  ZW 119 #[ptr b,Fb s] w (ZI (h.aG s)) λw'=>Q9 w' (Qn F w w') b (h.change s)/\Qc F w w':=by
 have aq:=O (λw'(c:Qc Qb w w')=>Q9.obj.aB hh c (Jl.none F));have NO:Hi (∀w',Qc Qb w w'->h.aG s≠0->Q9 w' (Qn F w w') b (h.change s)/\Qc F w w'):=O (λw' c h0=>by rw[Fq h0];exact Q9.obj.same hh c);have ar:Hi (∀w',Qc Qb w w'->h.change s=h->Q9 w' (Qn F w w') b (h.change s)/\Qc F w w'):=O (λw' c h0=>by rw[h0];exact Q9.obj.same hh c);obtain⟨W,hW⟩:=Zx (w.alloc (.cells (Z4 s.leaf s) 29));have S0:Hi (Xx W w.heap.size s):=O (by rw[hW];exact Xx.new w s);have C0:Hi (Qc Qb w W):=O (by rw[hW];exact(Zg _ _).alloc _);have a7:Hi (w.heap.size<W.heap.size):=O (Qh.lt S0.o);have HN:=O (Gz (aq.o W C0.o));obtain⟨ma,mu,l,vs,G,hp,hn,ah,ai,aw,fb,fm,fG,az,a0,a1,ax,_⟩:=hh.opn;have ag:=O ah;have LK:=O (λ(w')(cc:Qc Qb w w')=>show(Instr.lookup 111 (.map (some ma)) (ZI s.id) true).run prog w'=.ok (.tuple #[.agg (P0 (h.get s.id)),.bool (h.at s.id).isSome]) w' by
  have hL:=Dj (P:=prog) (ai.aB cc (λh=>h)) underlying111 underlying3 (Sf w') s.id;rw[Ed s.id l hn,<-Qm.at_perm hp hn]at hL;rw[hL];unfold Qm.get;cases h.at s.id<;>rfl)
 have a5:=O (λ(w')(cc:Qc Qb w w')(c:Vm)(hc:h.at s.id=some c)=>show(Instr.lookup 111 (.map (some ma)) (ZI s.id) false).run prog w'=.ok (.agg (P0 c)) w' by
  have hL:=Du (P:=prog) (ai.aB cc (λh=>h)) underlying111 underlying3 (Sf w') s.id;rw[Ed s.id l hn,<-Qm.at_perm hp hn,hc]at hL;exact hL)
 cases hc:h.at s.id with
 |none=>
  have E:=O (show h.aG s=81 by unfold Qm.aG;rw[hc]);have J:h.get s.id=Qto:=by unfold Qm.get;rw[hc];rfl
  rw[hc,J]at LK;obtain⟨c,ay⟩:=Zx Qto;rw[<-ay]at LK;dsimp only[Option.isSome_none]at LK;unfold Fb ptr at*;clear hh ok ah ai aw hp hn fb fm fG az a0 a1 ax hc J ay;apply WH func119;go_wp2_with fail;rw[<-hW];clear hW;apply Zy HN;rintro w1 rfl;go_wp2_with fail;apply XC 3221111111111 Qb W;iterate 3 (refine Qy (h:=?_);try simp only[Act.put,Za,Zc,Zb])
  iterate 1 (apply YK λ_ hv=>Q4 (hv.blk (C0.o.blk ag.o (λh=>h)) (λh=>h)))
  (refine Qy (h:=?_);try simp only[Act.put,Za,Zc,Zb]);iterate 2 (apply YK λK hv=>Zt ((show Xx K w.heap.size s from S0.o.aB hv).cells) (LK.o K (C0.o.aA hv)))
  apply YA 0;go_wp2_with fail;refine⟨((Zg Qb W).alloc _).drew,?_⟩;have V:Qh (W.alloc (.cells Z6 109)).drew W.heap.size Z6 109:=(Qh.new _ _ _).drew;have D1:Qc Qb W (W.alloc (.cells Z6 109)).drew:=((Zg Qb W).alloc _).drew;generalize(W.alloc (.cells Z6 109)).drew=W1 at V D1|-;obtain⟨W2,s2,af,C2⟩:=Q0 (P:=prog) (vs:=P0 c) V rfl (Sn c);have R:Qc Qb W W2:=D1.trans C2 (λk e=>.inr (by omega));have Z:=O R;have ab:=O af;have am:=O (C0.o.aA R);clear V D1 af C2 R;refine Yb ?_;go_wp2_with fail;refine⟨Z.o,?_⟩;apply YI 0;clear s2;have U:=O (NO.o W2 am.o (by rw[E.o];decide));go_wp2_with fail;go_ret;exact⟨by rw[E.o];rfl,U.o⟩
 |some c=>
  have J:h.get s.id=c:=Qda h hc;rw[hc,J]at LK;dsimp only[Option.isSome_some]at LK;have a6:=O (λw' cc=>a5.o w' cc c hc);have av:h.aG s=if(c.sp.aK s).mayE≠0 then 130 else 0:=by unfold Qm.aG;rw[hc]
  have EE:=O av;have a4:=O (Qgt ok hc);have au:Hi (h.aG s=0->∀w3,Qc Qb w w3->∃w4,(Instr.mapUpdate 111 (.map (some ma)) (ZI s.id) (.agg (P0 ⟨c.sp.aK s,c.d⟩))).run prog w3=.ok () w4/\Q9 w4 (Qn F w w4) b (h.change s)/\Qc F w w4):=O (λh0=>by
   obtain⟨bg,bl,be,k⟩:=Qev hh h0 hc;have e:=ah.inj be;injection e with e;injection e with I _;injection I with I;have I:ma=bg:=Zs I;subst I;exact k)
  have aj:=O (λw=>Qef (c.sp.aK s) w);unfold Fb ptr at*;clear hh ok ah ai aw hp hn fb fm fG az a0 a1 ax hc J av;apply WH func119;go_wp2_with fail;rw[<-hW];clear hW;apply Zy HN;rintro w1 rfl;go_wp2_with fail;apply XC 3221111111111 Qb W;iterate 3 (refine Qy (h:=?_);try simp only[Act.put,Za,Zc,Zb])
  iterate 1 (apply YK λ_ hv=>Q4 (hv.blk (C0.o.blk ag.o (λh=>h)) (λh=>h)))
  (refine Qy (h:=?_);try simp only[Act.put,Za,Zc,Zb]);iterate 2 (apply YK λK hv=>Zt ((show Xx K w.heap.size s from S0.o.aB hv).cells) (LK.o K (C0.o.aA hv)))
  apply YA 0;go_wp2_with fail;refine⟨((Zg Qb W).alloc _).drew,?_⟩;have V:Qh (W.alloc (.cells Z6 109)).drew W.heap.size Z6 109:=(Qh.new _ _ _).drew;have D1:Qc Qb W (W.alloc (.cells Z6 109)).drew:=((Zg Qb W).alloc _).drew;generalize(W.alloc (.cells Z6 109)).drew=W1 at V D1|-;obtain⟨W2,s2,af,C2⟩:=Q0 (P:=prog) (vs:=P0 c) V rfl (Sn c);have R:Qc Qb W W2:=D1.trans C2 (λk e=>.inr (by omega));have Z:=O R;have ab:=O af;have am:=O (C0.o.aA R);clear V D1 af C2 R;refine Yb ?_;go_wp2_with fail;refine⟨Z.o,?_⟩;apply YI 0;clear s2;go_wp2_with fail;have S2:=O (S0.o.aB Z.o);have g0:=(show Xx W2.drew w.heap.size s from S2.o.aB (Zg Qb W2).drew).cells;have NE:Hi (w.heap.size≠W.heap.size):=O (λe=>by have:=a7.o;omega);apply XC 300200200111100 (λk=>k=W.heap.size) W2;iterate 2 (refine Xe (h:=?_))
  (refine Qy (h:=?_);try simp only[Act.put,Za,Zc,Zb]);iterate 1 (apply YK λK hv=>(show Xx K w.heap.size s from hv.blk S2.o NE.o).cells)
  (refine Qy (h:=?_);try simp only[Act.put,Za,Zc,Zb]);iterate 1 (apply YK λK hv=>(show Xx K w.heap.size s from hv.blk S2.o NE.o).cells)
  apply YA 0;clear g0;have e0:=Dm ab.o;have f3:=ab.o.frozen 3;have f4:=ab.o.frozen 4;have f5:=ab.o.frozen 5;go_wp2_with fail;have B3:Qh (((W2.setCell ⟨W.heap.size,3,none⟩ (ZU s.real.f)).setCell ⟨W.heap.size,4,none⟩ (ZU s.real.l)).setCell ⟨W.heap.size,5,none⟩ (ZU s.real.r)).drew W.heap.size (P0 ⟨{c.sp with real:=s.real},c.d⟩) 109:=(((ab.o.set 3 _).set 4 _).set 5 _).drew;have D3:Qc (λk=>k=W.heap.size) W2 (((W2.setCell ⟨W.heap.size,3,none⟩ (ZU s.real.f)).setCell ⟨W.heap.size,4,none⟩ (ZU s.real.l)).setCell ⟨W.heap.size,5,none⟩ (ZU s.real.r)).drew:=((((Zg (λk=>k=W.heap.size) W2).setCell _ (.inl rfl)).setCell _ (.inl rfl)).setCell _ (.inl rfl)).drew;refine⟨D3,?_⟩;generalize(((W2.setCell ⟨W.heap.size,3,none⟩ (ZU s.real.f)).setCell ⟨W.heap.size,4,none⟩ (ZU s.real.l)).setCell ⟨W.heap.size,5,none⟩ (ZU s.real.r)).drew=W3 at B3 D3|-;have ac:=O B3;have D3:=O D3;clear B3 e0 f3 f4 f5;apply YA 0;have e0:=Dm ac.o;have f6:=ac.o.frozen 6;have f7:=ac.o.frozen 7;have f8:=ac.o.frozen 8;go_wp2_with fail;have B4:Qh (((W3.setCell ⟨W.heap.size,6,none⟩ (ZU s.share.f)).setCell ⟨W.heap.size,7,none⟩ (ZU s.share.l)).setCell ⟨W.heap.size,8,none⟩ (ZU s.share.r)) W.heap.size (P0 ⟨{c.sp with real:=s.real,share:=s.share},c.d⟩) 109:=(((ac.o.set 6 _).set 7 _).set 8 _);have D4:Qc (λk=>k=W.heap.size) W2 (((W3.setCell ⟨W.heap.size,6,none⟩ (ZU s.share.f)).setCell ⟨W.heap.size,7,none⟩ (ZU s.share.l)).setCell ⟨W.heap.size,8,none⟩ (ZU s.share.r)):=((((D3.o).setCell _ (.inl rfl)).setCell _ (.inl rfl)).setCell _ (.inl rfl));refine⟨D4,?_⟩;generalize(((W3.setCell ⟨W.heap.size,6,none⟩ (ZU s.share.f)).setCell ⟨W.heap.size,7,none⟩ (ZU s.share.l)).setCell ⟨W.heap.size,8,none⟩ (ZU s.share.r))=W4 at B4 D4|-;have ae:=O B4;have D4:=O D4;clear B4 e0 f6 f7 f8;apply YA 0;have e0:=Dm ae.o;have f9:=ae.o.frozen 9;have a8:=ae.o.frozen 10;have a9:=ae.o.frozen 11;go_wp2_with fail;have B5:Qh (((W4.setCell ⟨W.heap.size,9,none⟩ (ZU s.aN.f)).setCell ⟨W.heap.size,10,none⟩ (ZU s.aN.l)).setCell ⟨W.heap.size,11,none⟩ (ZU s.aN.r)) W.heap.size (P0 ⟨c.sp.aK s,c.d⟩) 109:=(((ae.o.set 9 _).set 10 _).set 11 _);have D5:Qc (λk=>k=W.heap.size) W2 (((W4.setCell ⟨W.heap.size,9,none⟩ (ZU s.aN.f)).setCell ⟨W.heap.size,10,none⟩ (ZU s.aN.l)).setCell ⟨W.heap.size,11,none⟩ (ZU s.aN.r)):=((((D4.o).setCell _ (.inl rfl)).setCell _ (.inl rfl)).setCell _ (.inl rfl));generalize(((W4.setCell ⟨W.heap.size,9,none⟩ (ZU s.aN.f)).setCell ⟨W.heap.size,10,none⟩ (ZU s.aN.l)).setCell ⟨W.heap.size,11,none⟩ (ZU s.aN.r))=W5 at B5 D5|-;have an:=O B5;have D5:=O D5;clear B5 e0 f9 a8 a9;refine Ky ?_;obtain⟨r,hr⟩:=Zx (c.sp.aK s);have HR:=O hr;have a2:=O (am.o.trans D5.o λk e=>.inr (by have:=C0.o.size;omega));rw[<-hr]at an aj EE;clear hr;obtain⟨e0,I,e2,e3,e4,e5,e6,e7,e8,e9,d,q,u,z,B⟩:=Dm an.o;dsimp only at e0 I e2 e3 e4 e5 e6 e7 e8 e9 d q u z B;go_wp2_with fail;apply Zz (aj.o _);intro w6 c6;have aa:=O (a2.o.aA c6);have a3:=O (c6.blk an.o (λh=>h));have S6:=O (c6.blk (D5.o.blk S2.o NE.o) (λh=>h));clear c6 e0 I e2 e3 e4 e5 e6 e7 e8 e9 d q u z B;by_cases hm:r.mayE=0
  .have E:=O (show h.aG s=0 by rw[EE.o,if_neg (by omega)]);have hd:decide (r.mayE=0)=true:=by simpa using hm
   have ao:(r.mayE==0)=true:=by simpa using hm
   rw[hm]at hd ao|-;clear hm hd ao;go_wp2_with fail;have ap:=O (show Qh w6.drew W.heap.size (P0 ⟨c.sp.aK s,c.d⟩) 109 by rw[<-HR.o];exact a3.o.drew);obtain⟨e0,I,e2,e3,e4,e5,e6,e7,e8,e9,d,q,u,z,B⟩:=Dm ap.o;dsimp only[Yk.aK]at e0 I e2 e3 e4 e5 e6 e7 e8 e9 d q u z B;have g0:=(show Xx w6.drew w.heap.size s from Xx.aB S6.o (Zg Qb w6).drew).cells;have z0:=Q4 ((aa.o.blk ag.o (λh=>h)).drew);have lk:=a6.o w6.drew aa.o.drew;unfold P0 at lk;apply XB 0;iterate 9 (refine Jq (h:=?_))
   clear e0 I e2 e3 e4 e5 e6 e7 e8 e9 d q u z B g0 z0 lk;refine Jo ?_;simp only[Act.put,Za,Zc,Zb];cases bf:Qr5 (s.real.f:Int) (s.real.l:Int) (s.real.r:Int) (s.share.f:Int) (s.share.l:Int) (s.share.r:Int) (s.aN.f:Int) (s.aN.l:Int) (s.aN.r:Int) (c.sp.real.f:Int) (c.sp.real.l:Int) (c.sp.real.r:Int) (c.sp.share.f:Int) (c.sp.share.l:Int) (c.sp.share.r:Int) (c.sp.aN.f:Int) (c.sp.aN.l:Int) (c.sp.aN.r:Int)with
   |false=>
    have SM:=O (a4.o (by
     obtain⟨q1,q2,q3,q4,q5,q6,q7,q8,q9⟩:=Qlb bf;unfold Qfo Qc0;simp only[Zw,beq_iff_eq];exact⟨⟨q1.symm,q2.symm,q3.symm⟩,⟨q4.symm,q5.symm,q6.symm⟩,q7.symm,q8.symm,q9.symm⟩))
    have U:=O (ar.o w6.drew aa.o.drew SM.o);go_wp2_with fail;go_ret;exact⟨by rw[E.o];rfl,U.o⟩
   |true=>
    obtain⟨w8,r8,al,ak⟩:=au.o E.o w6.drew.drew aa.o.drew.drew;have U:=O (Zt al ak);unfold P0 at r8;dsimp only[Yk.aK]at r8;clear al ak;go_wp2_with fail;obtain⟨e0,I,e2,e3,e4,e5,e6,e7,e8,e9,d,q,u,z,B⟩:=Dm ap.o.drew;dsimp only[Yk.aK]at e0 I e2 e3 e4 e5 e6 e7 e8 e9 d q u z B;have g0:=(show Xx w6.drew.drew w.heap.size s from Xx.aB S6.o (Zg Qb w6).drew.drew).cells;have z0:=Q4 ((aa.o.blk ag.o (λh=>h)).drew.drew);apply XB 20000000;apply YA 0;clear e0 I e2 e3 e4 e5 e6 e7 e8 e9 d q u z B g0 z0;go_wp2_with fail;refine Jo ?_;clear r8;go_wp2;go_ret;exact⟨by rw[E.o];rfl,U.o⟩
  .have E:=O (show h.aG s=130 by rw[EE.o,if_pos hm]);have hd:decide (r.mayE=0)=false:=by simpa using hm
   have ao:(r.mayE==0)=false:=by simpa using hm
   have U:=O (NO.o w6 aa.o (by rw[E.o];decide));clear hm;go_wp2_with fail;go_ret;exact⟨by rw[E.o];rfl,U.o⟩
end
end
section
variable{s:Qf}{N:Nat}
end
section
variable{p:Qe}{N:Nat}{dep:Int->Nat}
theorem Ad{v:Nat}{l:List Xu}{e:Xu}(c:Xf v l=some e):e∈l/\e.2.2<=v:=by unfold Xf at c;exact⟨List.mem_of_find?_eq_some c,by simpa using List.find?_some c⟩
theorem Qug{v:Nat}{l:List Xu}(c:Xf v l=none):∀e∈l,¬e.2.2<=v:=by unfold Xf at c;simpa using List.find?_eq_none.1 c
theorem Ib{l:List Xu}{v:Nat}{x:Nat×Int}(h:low l=some x)(k:x.1<=v):∃e,Xf v l=some e:=by
 obtain⟨a,d⟩:=Sq h;cases c:Xf v l with
 |some e=>exact⟨e,rfl⟩
 |none=>exact absurd k (Qug c _ d)
theorem Qay(U:Qs dep N p)(R:Uz p){now:Nat}(hn:now<Qq):∀(n:Nat)(i:Int),0<i->(∃c,p.at i=some c/\c.fit<=now)->8-dep i<n->∃j,p.next now n i=some j
 |0,_,_,_,h=>by omega
 |n+1,i,hi,⟨c,hc,hf⟩,hd=>by
  rw[Qe.next,hc];dsimp only;by_cases I:c.leaf=true;·exact⟨i,by rw[if_pos I]⟩
  .rw[if_neg I];unfold Qx.fit at hf;dsimp only at hf;rw[if_neg I]at hf;cases d:low c.tree with
   |none=>rw[d]at hf;dsimp only at hf;omega
   |some x=> rw[d]at hf;dsimp only at hf;obtain⟨e,K⟩:=Ib d (show x.1<=now by omega);rw[K];dsimp only;obtain⟨a,k,b⟩:=e;obtain⟨Z,V⟩:=Ad K;obtain⟨E,hk,_,J,q,z,u⟩:=(R.ent k i c hc a b).1 Z;have B:=(U.up.2 J (Qe.aE q).1 (by rw[(Qe.aE q).2];omega)).2.2;rw[(Qe.aE q).2,z]at B;exact Qay U R hn n k E ⟨J,q,by rw[<-u];exact V⟩ (by omega)
theorem Qdx(R:Qs dep N p)(Z:Uz p){now:Nat}(hn:now<Qq):(∃j,p.next now 10 0=some j)↔p.tick<=now:=by
 obtain⟨r,V,K⟩:=R.root;unfold Qe.tick;rw[Qe.next,V];dsimp only;rw[if_neg (by rw[K];exact Bool.false_ne_true)];cases c:low r.tree with
 |none=>
  rw[Ei c];refine⟨λ⟨j,h⟩=>?_,λh=>?_⟩;·cases h
  .dsimp only at h;omega
 |some x=>
  dsimp only;constructor
  .rintro⟨j,h⟩;cases q:Xf now r.tree with
   |none=>rw[q]at h;cases h
   |some e=> obtain⟨J,B⟩:=Ad q;exact Zp (Cn c e J) B
  .intro hx;obtain⟨e,q⟩:=Ib c hx;rw[q];dsimp only;obtain⟨a,k,b⟩:=e;obtain⟨J,B⟩:=Ad q;obtain⟨I,hk,_,U,d,z,u⟩:=(Z.ent k 0 r V a b).1 J;have E:=(R.up.2 U (Qe.aE d).1 (by rw[(Qe.aE d).2];omega)).2.2;rw[(Qe.aE d).2,z]at E;exact Qay R Z hn 9 k I ⟨U,d,by rw[<-u];exact B⟩ (by omega)
end
section
variable{s:Qf}{N:Nat}
end
section
variable{s:Qf}{N:Nat}
theorem Qsl(h:Xp N s)(z:Xd s.row){t:Nat}(E:t<Qq):(∃x,Jt t s.row=some x)↔Hk s.row<=t:=by
 unfold Jt Hk;cases q:s.row with
 |nil=>exact⟨λ⟨x,u⟩=>(by cases u),λh=>(by dsimp only at h;omega)⟩
 |cons e l=>
  dsimp only;constructor
  .rintro⟨x,u⟩;obtain⟨a,d⟩:=Sq u;obtain⟨d,c⟩:=List.mem_filter.1 d;have c:a<=t:=by simpa using c
   rcases Zu.1 d with B|d;·rw[<-B];exact c
   .rw[q]at z;have k:=(List.pairwise_cons.1 z).1 _ d;unfold Mv at k;dsimp only at k;omega
  .intro c;have d:e∈(e::l).filter λe=>decide (e.1<=t):=List.mem_filter.2 ⟨List.mem_cons_self,by simpa using c⟩;cases u:low ((e::l).filter λe=>decide (e.1<=t))with
   |none=>rw[Ei u]at d;cases d
   |some x=>exact⟨x,rfl⟩
theorem Qs6(h:Xp N s)(E:Xd s.row){t:Nat}(z:t<Qq):(∃x,s.who t=some x)↔s.tick<=t:=by
 have d:=Qsl h E z;have q:=Qdx h.pick h.pinv z;unfold Qf.who Qf.tick;cases ha:Jt t s.row with
 |some x=> have:=d.1 ⟨x,ha⟩;exact⟨λ_=>by omega,λ_=>⟨_,rfl⟩⟩
 |none=>
  have B:¬Hk s.row<=t:=λk=>by obtain⟨x,c⟩:=d.2 k;rw[ha]at c;cases c
  dsimp only;cases u:s.pick.next t 10 0 with
  |none=>
   have:¬s.pick.tick<=t:=λk=>by obtain⟨x,c⟩:=q.2 k;rw[u]at c;cases c
   exact⟨λ⟨x,c⟩=>(by cases c),λk=>by omega⟩
  |some j=> have:=q.1 ⟨j,u⟩;exact⟨λ_=>by omega,λ_=>⟨_,rfl⟩⟩
end
structure V2 where
 rate:Nat
 taken:Nat
 idles:Bool
def V2.new(c:Nat):V2:=⟨c,0,true⟩
def V2.aU(l:V2):Nat:=(l.taken+l.rate-1)/l.rate
def V2.free(l:V2)(now:Nat):Bool:=decide (l.aU<=now)
def V2.idle(l:V2)(now:Nat):V2:=if l.free now then{l with idles:=true}else l
def V2.sendE(l:V2)(now:Nat)(c:Int):Int:=if 1099511627776<now then 2 else if c<1\/65536<=c then 100 else if l.free now then 0 else 230
def V2.from_(l:V2)(now:Nat):Nat:=if !l.idles&&decide (now=l.aU)then l.taken else now*l.rate
def V2.send(l:V2)(now:Nat)(c:Int):V2:=if l.sendE now c=0 then⟨l.rate,l.from_ now+c.toNat*256,false⟩else l
def V2.til(l:V2)(now:Nat)(c:Int):Nat:=if l.sendE now c=0 then(l.send now c).aU else 0
abbrev X7:=List Nat
def Qwi:X7:=[0,0,0,0,0,0,0,0]
structure P5 where
 k:Nat
 n:Nat
 less:Bool
def Qx9(c:Bool)(n x:Nat):Nat:=if c then n-min n x else n+min x (Xw-n)
def Qwa(s:X7)(x:P5):X7:=s.set x.k (Qx9 x.less (s.getD x.k 0) x.n)
abbrev V1:=List (Int×X7)
def V1.new:V1:=[(0,Qwi)]
def V1.at(b:V1)(id:Int):Option X7:=(b.find? λx=>decide (x.1=id)).map (·.2)
def V1.get(b:V1)(id:Int):X7:=(b.at id).getD Qwi
def V1.set(id:Int)(s:X7):V1->V1
 |[]=>[(id,s)]
 |x::b=>if id=x.1 then(id,s)::b else x::V1.set id s b
def Qx0(n:Int):Nat:=(max n 0).toNat
def V1.upd(b:V1)(id:Int)(l:List P5):V1:=V1.set id (l.foldl Qwa (b.get id)) b
def V1.tell(b:V1)(c:Int)(l:List P5):V1:=if c<=0 then b.upd 0 l else(b.upd 0 l).upd c l
def Qx4(p:Jr):List P5:=[⟨0,1,false⟩,⟨6,1,false⟩,⟨7,Qx0 p.len,false⟩]
def Qwx:List P5:=[⟨1,1,false⟩]
def Qwn(p:Jr)(c:Nat):List P5:=[⟨if c=1 then 4 else 5,Qx0 p.len,false⟩,⟨6,1,true⟩,⟨7,Qx0 p.len,true⟩]
def Qxv(p:Jr):List P5:=[⟨2,1,false⟩,⟨3,Qx0 p.len,false⟩]
def Qx5(s:X7):List P5:=[⟨6,s.getD 6 0,true⟩,⟨7,s.getD 7 0,true⟩]
def V1.drop(b:V1)(c:Int):V1:=if c<1 then b else(b.tell 0 (Qx5 (b.get c))).filter λy=>!decide (y.1=c)
structure BOk(b:V1):Prop where
 nd:(b.map (·.1)).Nodup
 eight:∀x∈b,x.2.length=8/\∀n∈x.2,n<=Xw
structure D7 where
 p:Jr
 rule:Nat
 frm:Nat
 til:Nat
 due:Nat
structure Vi where
 rate:Nat
 most:Int
 hor:Nat
 now:Nat
 sched:Qf
 link:V2
 book:V1
 aM:Option D7
 sent:List D7
def Vi.new(d:Nat)(c:Int)(k:Nat):Vi:=⟨d,c,k,0,.new c,.new d,.new,none,[]⟩
def Qxy(d:Nat)(c:Int)(k:Nat):Int:=if d<1\/1048576<d then 240 else if c<1\/65536<=c\/k<1\/1099511627776<k then 2 else 0
def Vi.stopped(e:Vi):Bool:=decide (e.hor<=e.now)
def Vi.aO(e:Vi)(s:Yk):Int:=if e.stopped then 261 else e.sched.aO s
def Vi.add(e:Vi)(s:Yk):Vi:=if e.stopped then e else{e with sched:=e.sched.add s}
def Vi.aG(e:Vi)(s:Yk):Int:=if e.stopped then 261 else e.sched.aG s
def Vi.change(e:Vi)(s:Yk):Vi:=if e.stopped then e else{e with sched:=e.sched.change s}
def Vi.aP(e:Vi)(id:Int):Int:=if e.stopped then 261 else e.sched.aP id
def Vi.drop(e:Vi)(id:Int):Vi:=if e.stopped then e else if e.sched.aP id=0 then{e with sched:=e.sched.drop id,book:=e.book.drop id}else e
structure EvM where
 kind:Nat
 x:D7
def Vi.through(e:Vi)(x:D7):Vi:={e with aM:=none,now:=x.til,sent:=e.sent++[x],book:=e.book.tell x.p.cls (Qxv x.p)}
def Vi.chosen(e:Vi)(c:ChM):D7:=⟨c.p,c.rule,e.now,e.link.til e.now c.p.len,c.due⟩
def Vi.choose(e:Vi):Option EvM×Vi:=match e.sched.next e.now with
 |(none,s)=>(none,{e with sched:=s})
 |(some c,s)=>(some ⟨1,e.chosen c⟩,{e with sched:=s,link:=e.link.send e.now c.p.len,aM:=some (e.chosen c),book:=e.book.tell c.p.cls (Qwn c.p c.rule)})
def Vi.clip(e:Vi)(til:Nat):Nat:=min (max til e.now) e.hor
def Vi.idle(e:Vi)(til:Nat):Vi:={e with link:=if e.now<e.sched.tick then e.link.idle e.now else e.link,now:=min (max e.now e.sched.tick) til}
def Vi.step(e:Vi)(til:Nat):Option EvM×Vi:=if e.stopped then(none,e)else
 match e.aM with
 |some x=>if x.til<=e.clip til then(some ⟨2,x⟩,e.through x)else(none,{e with now:=e.clip til})
 |none=>if e.clip til<max e.now e.sched.tick then(none,e.idle (e.clip til))else(e.idle (e.clip til)).choose
def Vi.all(c:Nat):Nat->Vi->Vi
 |0,e=>e
 |n+1,e=>match(e.step c).1 with
  |none=>(e.step c).2
  |some _=>Vi.all c n (e.step c).2
def Vi.left(e:Vi):Nat:=2*(e.sched.many 0).toNat+(if e.aM.isSome then 1 else 0)
def Vi.run(e:Vi)(til:Nat):Vi:=Vi.all til (e.left+1) e
def Vi.advE(e:Vi)(c:Nat):Int:=if e.stopped then 261 else if c<e.now then 260 else 0
def Vi.adv(e:Vi)(c:Nat):Vi:=if e.advE c=0 then e.run c else e
def Vi.arrP(e:Vi)(p:Jr):Jr:={p with at_:=((e.run e.now).now:Int)}
def Vi.arrE(e:Vi)(p:Jr):Int:=if e.stopped then 261 else(e.run e.now).sched.aQ (e.arrP p)
def Vi.arr(e:Vi)(p:Jr):Vi:=if e.stopped then e else
 let c:=e.run e.now;let q:=e.arrP p
 if c.sched.aQ q=0 then
  let d:={c with sched:=c.sched.push q c.now,book:=c.book.tell q.cls (Qx4 q)}
  d.run d.now
 else{c with book:=c.book.tell q.cls Qwx}
abbrev ZM(x:D7):Array Value:=#[ZU x.p.id,ZI x.p.cls,ZI x.p.len,ZU x.p.at_,.int .u8 x.rule,ZU x.frm,ZU x.til,ZU x.due]
end Go.Proofs.YtigcnnkagkbflaaGreat
