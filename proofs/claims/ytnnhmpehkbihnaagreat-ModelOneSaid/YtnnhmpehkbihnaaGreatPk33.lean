/- A part of the proof: no condition. -/
import Derived.Test.YtnnhmpehkbihnaaGreatPk31
import Derived.Test.YtnnhmpehkbihnaaGreatPk32
namespace Go.Proofs.YtnnhmpehkbihnaaGreat
set_option linter.unusedVariables false
set_option maxRecDepth 100000
set_option maxHeartbeats 4000000
open Go.RowKit
open Go.Proofs.Tryz
section
variable{s:Yk}
theorem Qfa(h:s.mayE=0):s.named=true∧s.curvesB=true∧s.shapedB s.leaf=true∧s.sharedB=true∧s.aM=true:=by
 unfold Yk.mayE at h;split at h;·cases h
 ·rename_i h1;split at h;·cases h
  ·rename_i c;split at h;·cases h
   ·rename_i d;split at h;·cases h
    ·rename_i k;split at h;·cases h
     ·rename_i q;exact⟨by simpa using h1,by simpa using c,by simpa using d,by simpa using k,by simpa using q⟩
theorem Cq(h:s.mayE=0):1≤s.id∧s.id≤65535∧0≤s.par∧s.par≤65535∧s.id≠s.par:=by have:=(Qfa h).1;unfold Yk.named inB at this;simp only[Zw,decide_eq_true_eq]at this;obtain⟨⟨h1,c⟩,d⟩:=this;exact⟨h1.1,h1.2,c.1,c.2,d⟩
theorem Md(h:s.mayE=0):s.real.May∧s.share.May∧s.aN.May:=by have:=(Qfa h).2.1;unfold Yk.curvesB at this;simpa only[Zw,decide_eq_true_eq]using this
theorem Qam(h:s.mayE=0)(hl:s.leaf=true):1≤s.pk∧s.pk≤4096∧1≤s.bt∧s.bt≤16777216:=by have:=(Qfa h).2.2.1;rw[hl]at this;unfold Yk.shapedB inB at this;simp only[if_true,Zw,decide_eq_true_eq]at this;obtain⟨_,h1,c⟩:=this;exact⟨h1.1,h1.2,c.1,c.2⟩
end
section
variable{h:Qm}
theorem Wu{i:Int}(hn:h.at i=none):∀c∈h,c.sp.id≠i:=by simpa[Qm.at]using hn
theorem Da(hs:Ex h){c:Vm}(hc:c∈h):h.at c.sp.id=some c:=by have hn:(h.map Vm.id).Nodup:=List.pairwise_map.2 (hs.imp fun{a b}d(e:a.sp.id=b.sp.id)=>by omega);exact Ls (key:=Vm.id) hn hc rfl
theorem Qtm(c:Vm)(hn:h.at c.sp.id=none)(k:Int):Qm.at (Mb c h) k=if k=c.sp.id then some c else h.at k:=by
 have q:=Wu hn;clear hn;unfold Qm.at;induction h with
 |nil=>
  rw[Mb,List.find?_cons];by_cases e:k=c.sp.id;·simp[e]
  ·have:¬c.sp.id=k:=fun d=>e d.symm;simp[e,this]
 |cons x l u=>
  have u:=u fun y B=>q y (Zr _ B);have z:=q x List.mem_cons_self;rw[Mb];split
  ·rw[List.find?_cons];by_cases e:k=c.sp.id;·simp[e]
   ·have:¬c.sp.id=k:=fun d=>e d.symm;simp only[this,decide_false];rw[if_neg e]
  ·rw[List.find?_cons,List.find?_cons];by_cases e:x.sp.id=k;·have:¬k=c.sp.id:=fun d=>z (by rw[e,d]);simp only[e,decide_true];rw[if_neg this]
   ·simp only[e,decide_false];exact u
theorem Qtn(f:Vm→Vm)(hf:∀c,(f c).sp.id=c.sp.id)(i k:Int):Qm.at (h.map fun x=>if x.sp.id=i then f x else x) k=if k=i then(h.at i).map f else h.at k:=by
 unfold Qm.at;induction h with
 |nil=>simp
 |cons x l u=>
  rw[List.map_cons,List.find?_cons,List.find?_cons,List.find?_cons];by_cases d:x.sp.id=i
  ·rw[if_pos d];by_cases e:k=i;·simp[hf,d,e]
   ·have h1:¬(f x).sp.id=k:=fun q=>e (by rw[←q,hf,d]);have z:¬x.sp.id=k:=fun q=>e (by rw[←q,d]);simp only[h1,z,decide_false];rw[u,if_neg e,if_neg e]
  ·rw[if_neg d];by_cases e:x.sp.id=k;·have:¬k=i:=fun q=>d (by rw[e,q]);simp only[e,decide_true];rw[if_neg this]
   ·simp only[e,d,decide_false];exact u
theorem Qkj(i k:Int):Qm.at (h.filter fun x=>!decide (x.sp.id=i)) k=if k=i then none else h.at k:=by
 unfold Qm.at;induction h with
 |nil=>simp
 |cons z l q=>
  rw[List.filter_cons];by_cases c:z.sp.id=i
  ·simp only[c,decide_true,Bool.not_true,Bool.false_eq_true,if_false];rw[q,List.find?_cons];by_cases e:k=i;·rw[if_pos e,if_pos e]
   ·have:¬z.sp.id=k:=fun d=>e (by rw[←d,c]);rw[if_neg e,if_neg e];simp only[this,decide_false]
  ·simp only[c,decide_false,Bool.not_false,if_true];rw[List.find?_cons,List.find?_cons];by_cases e:z.sp.id=k;·have:¬k=i:=fun d=>c (by rw[e,d]);simp only[e,decide_true];rw[if_neg this]
   ·simp only[e,decide_false];exact q
structure J8(h:Qm):Prop where
 sorted:Ex h
 may:∀c∈h,c.sp.mayE=0
 par:∀c∈h,(c.sp.par=0∧c.d=1)∨∃q,h.at c.sp.par=some q∧q.sp.leaf=false∧c.d=q.d+1
 dep:∀c∈h,1≤c.d∧c.d≤8
 many:h.length≤64
def Xk(h:Qm)(i:Int):Nat:=match h.at i with
 |none=>0
 |some c=>c.d
theorem V7{i:Int}{c:Vm}(hc:h.at i=some c):Xk h i=c.d:=by unfold Xk;rw[hc]
theorem Kr{i:Int}(hc:h.at i=none):Xk h i=0:=by unfold Xk;rw[hc]
theorem J8.nil:J8 []:=⟨List.Pairwise.nil,nofun,nofun,nofun,Nat.zero_le _⟩
theorem J8.pos(ok:J8 h){i:Int}{c:Vm}(hc:h.at i=some c):1≤i∧i≤65535∧0≤c.sp.par∧i≠c.sp.par∧c.sp.id=i∧c∈h:=by obtain⟨d,hi⟩:=Qm.aE hc;have:=Cq (ok.may c d);rw[hi]at this;exact⟨this.1,this.2.1,this.2.2.1,this.2.2.2.2,hi,d⟩
theorem J8.zero(ok:J8 h){i:Int}(hi:i<1):h.at i=none:=by
 cases hc:h.at i with
 |none=>rfl
 |some c=>have:=(ok.pos hc).1;omega
theorem J8.nodup(ok:J8 h):(h.map Vm.id).Nodup:=List.pairwise_map.2 (ok.sorted.imp fun{a b}c(e:a.sp.id=b.sp.id)=>by omega)
theorem Qgy(ok:J8 h){par:Int}(c:h.depth par≠0):(par=0∧h.depth par=1)∨∃q,h.at par=some q∧q.sp.leaf=false∧h.depth par=q.d+1∧q.d<8:=by
 unfold Qm.depth at c⊢;split at c;·rename_i e;rw[if_pos e];exact .inl ⟨e,rfl⟩
 ·rename_i e;rw[if_neg e];cases k:h.at par with
  |none=>rw[k]at c;exact absurd rfl c
  |some q=>
   rw[k]at c;dsimp only at c⊢;split at c;·exact absurd rfl c
   ·rename_i d;rw[if_neg d];simp only[Bool.or_eq_true,decide_eq_true_eq,not_or,Bool.not_eq_true]at d;exact .inr ⟨q,rfl,d.1,rfl,by omega⟩
theorem Ub{s:Yk}(h0:h.aO s=0):s.mayE=0∧h.length<64∧h.at s.id=none∧h.depth s.par≠0:=by
 unfold Qm.aO at h0;split at h0;·cases h0
 ·rename_i h1;split at h0;·cases h0
  ·rename_i k;split at h0;·cases h0
   ·rename_i c;split at h0;·cases h0
    ·rename_i d;exact⟨by omega,by omega,by simpa using c,d⟩
theorem Bv{s:Yk}(h0:h.aO s=0):h.add s=Mb ⟨s,h.depth s.par⟩ h:=by unfold Qm.add;rw[if_pos h0]
theorem Qjv{s:Yk}(h0:h.aO s=0)(k:Int):(h.add s).at k=if k=s.id then some ⟨s,h.depth s.par⟩else h.at k:=by rw[Bv h0];exact Qtm ⟨s,h.depth s.par⟩ (Ub h0).2.2.1 k
theorem J8.add(ok:J8 h){s:Yk}(h0:h.aO s=0):J8 (h.add s):=by
 obtain⟨h1,U,I,K⟩:=Ub h0;have u:=Qjv h0;have J:=Qgy ok K;have B:=Wu I;have E:s.par≠s.id:=fun e=>(Cq h1).2.2.2.2 e.symm;rw[Bv h0]at u⊢;have d:∀x,x∈Mb ⟨s,h.depth s.par⟩ h→x∈h∨x=⟨s,h.depth s.par⟩:=fun x R=>by have:=(Ef ⟨s,h.depth s.par⟩ h).mem_iff.1 R;simpa using this
 refine⟨Wz _ ok.sorted B,fun c hc=>?_,fun c hc=>?_,fun c hc=>?_,?_⟩
 ·rcases d c hc with hc|rfl;·exact ok.may c hc
  ·exact h1
 ·rcases d c hc with hc|rfl
  ·refine(ok.par c hc).imp id fun⟨q,z,k⟩=>⟨q,?_,k⟩;rw[u,if_neg ?_];·exact z
   ·intro e;rw[e,I]at z;cases z
  ·refine J.imp (fun h=>h) fun⟨q,z,k1,k2,_⟩=>⟨q,?_,k1,k2⟩;show Qm.at _ s.par=_;rw[u,if_neg E];exact z
 ·rcases d c hc with hc|rfl;·exact ok.dep c hc
  ·rcases J with⟨_,e⟩|⟨q,z,_,e,V⟩;·show 1≤h.depth s.par∧h.depth s.par≤8;omega
   ·show 1≤h.depth s.par∧h.depth s.par≤8;omega
 ·have:=(Ef ⟨s,h.depth s.par⟩ h).length_eq;simp only[List.length_append,Zm,List.length_nil]at this;omega
theorem Gb{s:Yk}(h0:h.aG s=0):∃c,h.at s.id=some c∧(c.sp.aK s).mayE=0:=by
 unfold Qm.aG at h0;cases hc:h.at s.id with
 |none=>rw[hc]at h0;cases h0
 |some c=>
  rw[hc]at h0;dsimp only at h0;split at h0;·cases h0
  ·rename_i e;exact⟨c,rfl,by omega⟩
theorem Si{s:Yk}(h0:h.aG s=0)(k:Int):(h.change s).at k=if k=s.id then(h.at s.id).map (fun x=>⟨x.sp.aK s,x.d⟩)else h.at k:=by unfold Qm.change;rw[if_pos h0];exact Qtn (fun x=>⟨x.sp.aK s,x.d⟩) (fun _=>rfl) s.id k
theorem J8.change(ok:J8 h){s:Yk}(h0:h.aG s=0):J8 (h.change s):=by
 obtain⟨I,B,K⟩:=Gb h0;have k:=Si h0;unfold Qm.change at k⊢;rw[if_pos h0]at k⊢;have d:∀x,x∈(h.map fun x=>if x.sp.id=s.id then(⟨x.sp.aK s,x.d⟩:Vm)else x)→∃y∈h,x.d=y.d∧x.sp.par=y.sp.par∧x.sp.leaf=y.sp.leaf∧x.sp.mayE=0:=fun x R=>by
  obtain⟨y,u,rfl⟩:=Z3.1 R;refine⟨y,u,?_⟩;by_cases e:y.sp.id=s.id
  ·rw[if_pos e];have:y=I:=by have h1:=Da ok.sorted u;rw[e,B]at h1;exact(Zs h1).symm
   rw[this];exact⟨rfl,rfl,rfl,K⟩
  ·rw[if_neg e];exact⟨rfl,rfl,rfl,ok.may y u⟩
 refine⟨?_,fun c hc=>(d c hc).choose_spec.2.2.2.2,fun c hc=>?_,fun c hc=>?_,by rw[List.length_map];exact ok.many⟩
 ·refine List.pairwise_map.2 (ok.sorted.imp fun{a b}z=>?_);have e:∀x:Vm,(if x.sp.id=s.id then(⟨x.sp.aK s,x.d⟩:Vm)else x).sp.id=x.sp.id:=fun x=>by split<;>rfl
  rw[e,e];exact z
 ·obtain⟨y,u,e1,J,U,_⟩:=d c hc;rw[e1,J];refine(ok.par y u).imp id fun⟨q,E,k1,k2⟩=>?_;rw[k];split;·rename_i e;rw[e]at E;rw[E];exact⟨_,rfl,k1,k2⟩
  ·exact⟨q,E,k1,k2⟩
 ·obtain⟨y,u,e1,_⟩:=d c hc;rw[e1];exact ok.dep y u
theorem Tz{i:Int}(h0:h.aP i=0):∃c,h.at i=some c∧h.aM i=[]:=by
 unfold Qm.aP at h0;cases hc:h.at i with
 |none=>rw[hc]at h0;cases h0
 |some c=>
  rw[hc]at h0;dsimp only at h0;split at h0;·cases h0
  ·rename_i e;exact⟨c,rfl,by simpa using e⟩
theorem Qby{i:Int}(d:h.aM i=[]):∀c∈h,c.sp.par≠i:=fun c hc e=>by have:c.sp.id∈h.aM i:=Z3.2 ⟨c,List.mem_filter.2 ⟨hc,by simpa using e⟩,rfl⟩;rw[d]at this;cases this
theorem We{i:Int}(h0:h.aP i=0)(k:Int):(h.drop i).at k=if k=i then none else h.at k:=by unfold Qm.drop;rw[if_pos h0];exact Qkj i k
theorem J8.drop(ok:J8 h){i:Int}(h0:h.aP i=0):J8 (h.drop i):=by obtain⟨K,B,I⟩:=Tz h0;have u:=We h0;have z:=Qby I;unfold Qm.drop at u⊢;rw[if_pos h0]at u⊢;have d:∀x,x∈(h.filter fun x=>!decide (x.sp.id=i))→x∈h:=fun x J=>(List.mem_filter.1 J).1;refine⟨ok.sorted.filter _,fun c hc=>ok.may c (d c hc),fun c hc=>?_,fun c hc=>ok.dep c (d c hc),Zp (List.length_filter_le _ _) ok.many⟩;refine(ok.par c (d c hc)).imp id fun⟨q,E,k⟩=>⟨q,?_,k⟩;rw[u,if_neg (z c (d c hc))];exact E
theorem Qhj(ok:J8 h):∀{n:Nat}{i j:Int}{c:Vm},Xk h i<n→j∈h.path n i→h.at j=some c→c.sp.par≠0→c.sp.par∈h.path n i
 |0,i,j,c,hd,_,_,_=>by omega
 |n+1,i,j,c,hd,d,hc,hp=>by
  rw[Qm.path]at d⊢;cases u:h.at i with
  |none=>rw[u]at d;cases d
  |some x=>
   rw[u]at d;dsimp only at d⊢;rw[V7 u]at hd;obtain⟨z,E⟩:=Qm.aE u;have key:x.sp.par≠0→∃q,h.at x.sp.par=some q∧x.d=q.d+1∧1≤q.d:=fun h0=>by
    rcases ok.par x z with h1|⟨q,k,_,B⟩;·exact absurd h1.1 h0
    ·exact⟨q,k,B,(ok.dep q (Qm.aE k).1).1⟩
   rcases Zu.1 d with rfl|d;·rw[u]at hc;obtain rfl:=Zs hc;obtain⟨q,k,e,e1⟩:=key hp;refine Zr _ ?_;obtain⟨m,rfl⟩:∃m,n=m+1:=⟨n-1,by omega⟩;rw[Qm.path,k];exact List.mem_cons_self
   ·by_cases h0:x.sp.par=0
    ·have I:=ok.zero (i:=x.sp.par) (by omega);cases n with
     |zero=>rw[Qm.path]at d;cases d
     |succ m=>rw[Qm.path,I]at d;cases d
    ·obtain⟨q,k,e,e1⟩:=key h0;refine Zr _ (Qhj ok ?_ d hc hp);rw[V7 k];omega
theorem Y8{id x:Int}:x∈h.aI id↔∃c∈h,c.sp.id=x∧c.sp.leaf=true∧(id=0∨id∈h.path 9 x):=by
 unfold Qm.aI Qm.below;constructor;·intro q;obtain⟨c,hc,rfl⟩:=Z3.1 q;obtain⟨h1,d⟩:=List.mem_filter.1 hc;simp only[Zw,Bool.or_eq_true,decide_eq_true_eq,List.contains_iff_mem]at d;exact⟨c,h1,rfl,d.1,d.2⟩
 ·rintro⟨c,hc,rfl,hl,k⟩;refine Z3.2 ⟨c,List.mem_filter.2 ⟨hc,?_⟩,rfl⟩;simp only[Zw,Bool.or_eq_true,decide_eq_true_eq,List.contains_iff_mem];exact⟨hl,k⟩
theorem Ut(ok:J8 h)(id:Int):(h.aI id).Pairwise (· < ·):=by unfold Qm.aI;exact List.pairwise_map.2 (ok.sorted.filter _)
end
structure Vp(h:Qm)(p:Qe):Prop where
 root:∃r,p.at 0=some r∧r.leaf=false∧r.aM=(h.aM 0).length
 cls:∀i,i≠0→(p.at i).map (fun x=>(x.par,x.leaf,x.aJ,x.aM))=(h.at i).map fun c=>(c.sp.par,c.sp.leaf,c.sp.aJ,(h.aM i).length)
section
variable{h:Qm}{p p':Qe}{N M:Nat}{dep:Int→Nat}
theorem Vp.fwd(m:Vp h p)(ok:J8 h){i:Int}{c:Vm}(hc:h.at i=some c):∃x,p.at i=some x∧x.par=c.sp.par∧x.leaf=c.sp.leaf∧x.aJ=c.sp.aJ∧x.aM=(h.aM i).length:=by
 have h0:=(ok.pos hc).1;have:=m.cls i (by omega);rw[hc]at this;cases d:p.at i with
 |none=>rw[d]at this;cases this
 |some x=> rw[d]at this;simp only[Zn,Option.some.injEq,Prod.mk.injEq]at this;exact⟨x,rfl,this⟩
theorem Vp.back(m:Vp h p){i:Int}(hi:i≠0){x:Qx}(d:p.at i=some x):∃c,h.at i=some c∧x.par=c.sp.par∧x.leaf=c.sp.leaf∧x.aJ=c.sp.aJ∧x.aM=(h.aM i).length:=by
 have:=m.cls i hi;rw[d]at this;cases hc:h.at i with
 |none=>rw[hc]at this;cases this
 |some c=> rw[hc]at this;simp only[Zn,Option.some.injEq,Prod.mk.injEq]at this;exact⟨c,rfl,this⟩
theorem Vp.no(m:Vp h p){i:Int}(hi:i≠0)(hn:h.at i=none):p.at i=none:=by have:=m.cls i hi;rw[hn]at this;simpa using this
theorem Vp.path(m:Vp h p)(ok:J8 h):∀(n:Nat)(i:Int),p.path n i=h.path n i
 |0,_=>rfl
 |n+1,i=>by
  rw[Qe.path,Qm.path];by_cases hi:i<1;·rw[if_pos hi,ok.zero hi]
  ·rw[if_neg hi];cases hc:h.at i with
   |none=>rw[m.no (by omega) hc]
   |some c=> obtain⟨x,d,e,_⟩:=m.fwd ok hc;rw[d];dsimp only;rw[e,m.path ok n]
theorem Vp.par(m:Vp h p)(ok:J8 h){c:Vm}(hc:c∈h):∃q,p.at c.sp.par=some q∧q.leaf=false∧q.aM=(h.aM c.sp.par).length:=by
 rcases ok.par c hc with⟨e,_⟩|⟨q,u,hl,_⟩;·rw[e];exact m.root
 ·obtain⟨x,z,_,d,_,k⟩:=m.fwd ok u;exact⟨x,z,d.trans hl,k⟩
theorem Vp.same(m:Vp h p)(hs:Jv p p')(E:Hm p p'):Vp h p':=by
 have u:∀i,(p'.at i).map Qx.aM=(p.at i).map Qx.aM:=fun i=>by
  have:=E i 0;cases c:p.at i with
  |none=>rw[hs.none c]
  |some x=> obtain⟨y,k,_⟩:=hs.get c;rw[c,k]at this;simp only[Zn,Option.some.injEq,Prod.mk.injEq]at this;rw[k];simp[this.2]
 refine⟨?_,fun i hi=>?_⟩;·obtain⟨r,hr,hl,B⟩:=m.root;obtain⟨I,d,_,q,_⟩:=hs.get hr;have:=u 0;rw[hr,d]at this;simp only[Zn,Option.some.injEq]at this;exact⟨I,d,q.trans hl,this.trans B⟩
 ·rw[←m.cls i hi];have:=u i;cases c:p.at i with
  |none=>rw[hs.none c]
  |some x=> obtain⟨y,k,e1,q,z⟩:=hs.get c;rw[c,k]at this;simp only[Zn,Option.some.injEq]at this;rw[k];simp[this,e1,q,z]
theorem Vp.new:Vp [] Qe.new:=by refine⟨⟨_,by rw[Rl,if_pos rfl],rfl,rfl⟩,fun i hi=>?_⟩;rw[Rl,if_neg hi];rfl
theorem Qj1(h:Qm)(i:Int):(h.aM i).length≤h.length:=by unfold Qm.aM;rw[List.length_map];exact List.length_filter_le _ _
theorem Ra(x:Int):∀l:List Int,(Nm x l).length=l.length+1
 |[]=>rfl
 |y::l=>by
  rw[Nm];split;·rfl
  ·simp[Ra x l]
theorem Qje(ok:J8 h){i:Int}(hi:i≠0)(hn:h.at i=none):h.aM i=[]:=by
 unfold Qm.aM;rw[List.map_eq_nil_iff,List.filter_eq_nil_iff];intro c hc e;simp only[decide_eq_true_eq]at e;rcases ok.par c hc with⟨k,_⟩|⟨q,d,_⟩;·exact hi (e.symm.trans k)
 ·rw[e,hn]at d;cases d
theorem Vp.add(m:Vp h p)(ok:J8 h){s:Yk}(h0:h.aO s=0):
  ∃q,p.at s.par=some q∧q.leaf=false∧q.aM≤64∧p.at s.id=none∧1≤s.id∧Vp (h.add s) (p.put s)∧
   Xk (h.add s) 0=0∧Xk (h.add s) s.id=Xk (h.add s) s.par+1∧Xk (h.add s) s.id≤8∧∀i,i≠s.id→Xk (h.add s) i=Xk h i:=by
 obtain⟨h1,h2,h3,h4⟩:=Ub h0;obtain⟨i1,i2,i3,i4,i5⟩:=Cq h1;have hn:=m.no (by omega) h3;have z:=Qjv h0;have K:=Qgy ok h4;have aa:=ok.add h0;have u:∃q,p.at s.par=some q∧q.leaf=false∧q.aM=(h.aM s.par).length:=by
  rcases K with⟨e,_⟩|⟨q,u,hl,_⟩;·rw[e];exact m.root
  ·obtain⟨x,J,_,d,_,e3⟩:=m.fwd ok u;exact⟨x,J,d.trans hl,e3⟩
 obtain⟨q,u,hl,I⟩:=u;have Z:∀k,(h.add s).aM k=if s.par=k then Nm s.id (h.aM k)else h.aM k:=fun k=>by rw[Bv h0];exact Fe ⟨s,h.depth s.par⟩ k ok.sorted
 have B:=Qsc i1 hn u hl;have E:∀i,i≠s.id→Xk (h.add s) i=Xk h i:=fun i hi=>by unfold Xk;rw[z,if_neg hi]
 refine⟨q,u,hl,by rw[I];exact Zp (Qj1 _ _) (by omega),hn,i1,⟨?_,fun i hi=>?_⟩,?_,?_,?_,E⟩
 ·by_cases e:s.par=0;·refine⟨{q with mem:=if s.aJ then q.mem.add s.id s.share else q.mem,aM:=q.aM+1},by rw[B,if_pos e.symm],hl,?_⟩;rw[Z,if_pos e,Ra,←e,←I]
  ·obtain⟨r,hr,U,V⟩:=m.root;refine⟨r,by rw[B,if_neg (Ne.symm e),if_neg (by omega)];exact hr,U,?_⟩;rw[Z,if_neg e,V]
 ·rw[B,z,Z];by_cases e:i=s.par
  ·have R:s.par≠s.id:=fun e=>i5 e.symm;subst e;rw[if_pos rfl,if_neg (c:=s.par=s.id) R,if_pos rfl,Ra];have hc:=m.cls s.par hi;rw[u]at hc;cases J:h.at s.par with
   |none=>rw[J]at hc;cases hc
   |some c=> rw[J]at hc;simp only[Zn,Option.some.injEq,Prod.mk.injEq]at hc;simp[hc.1,hc.2.1,hc.2.2.1,hc.2.2.2]
  ·rw[if_neg e,if_neg (Ne.symm e)];by_cases d:i=s.id;·rw[if_pos d,if_pos d,d,Qje ok (by omega) h3];rfl
   ·rw[if_neg d,if_neg d];exact m.cls i hi
 ·exact Kr (aa.zero (by decide))
 ·rw[V7 (by rw[z,if_pos rfl]),E s.par (fun e=>i5 e.symm)];rcases K with⟨e,d⟩|⟨q,u,_,d,_⟩;·show h.depth s.par=_;rw[d,e,Kr (ok.zero (by decide))]
  ·show h.depth s.par=_;rw[d,V7 u]
 ·rw[V7 (by rw[z,if_pos rfl])];rcases K with⟨e,d⟩|⟨q,u,_,d,_⟩;·show h.depth s.par≤8;omega
  ·show h.depth s.par≤8;omega
theorem Vp.aK(m:Vp h p)(ok:J8 h)(J:Qs dep N p){s:Yk}(h0:h.aG s=0)(ha:p.aL s.id=false):
  ∃c q,p.at s.id=some c∧1≤s.id∧p.at c.par=some q∧Vp (h.change s) (p.aK s)∧∀i,Xk (h.change s) i=Xk h i:=by
 obtain⟨c0,d,hm⟩:=Gb h0;obtain⟨U,_,_,i4,i5,i6⟩:=ok.pos d;obtain⟨c,hc,e1,V,e3,Z⟩:=m.fwd ok d;obtain⟨q,u⟩:=J.par hc (by omega);have B:=Si h0;have z:=Qit J U hc ha u;have R:∀k,(h.change s).aM k=h.aM k:=fun k=>by unfold Qm.change;rw[if_pos h0];exact Ik h s k
 have aa:c.par≠s.id:=by rw[e1];exact fun e=>i4 e.symm
 refine⟨c,q,hc,U,u,⟨?_,fun i hi=>?_⟩,fun i=>?_⟩
 ·obtain⟨r,hr,E,I⟩:=m.root;rw[R];by_cases e:0=c.par
  ·refine⟨{q with mem:=if s.aJ then(q.mem.drop s.id).add s.id s.share else q.mem.drop s.id},by rw[z,if_neg (by omega),if_pos e],?_,?_⟩;·rw[←e,hr]at u;obtain rfl:=Zs u;exact E
   ·rw[←e,hr]at u;obtain rfl:=Zs u;exact I
  ·exact⟨r,by rw[z,if_neg (by omega),if_neg e];exact hr,E,I⟩
 ·rw[z,B,R];by_cases e:i=s.id;·rw[if_pos e,if_pos e,d,e];simp only[Zn,Option.some.injEq,Prod.mk.injEq];exact⟨e1,V,rfl,Z⟩
  ·rw[if_neg e,if_neg e];split;·rename_i K;have:=m.cls i hi;rw[K,u]at this;rw[K,←this];rfl
   ·exact m.cls i hi
 ·unfold Xk;rw[B];by_cases e:i=s.id;·rw[if_pos e,e,d];rfl
  ·rw[if_neg e]
theorem Qql{i:Int}{c:Vm}(hc:c∈h)(hi:c.sp.par=i):1≤(h.aM i).length:=by have:c.sp.id∈h.aM i:=Z3.2 ⟨c,List.mem_filter.2 ⟨hc,by simpa using hi⟩,rfl⟩;exact List.length_pos_of_mem this
theorem Vp.drop(m:Vp h p)(ok:J8 h)(ah:Qs dep N p){i:Int}(h0:h.aP i=0)(ha:p.aL i=false):
  ∃c q,p.at i=some c∧1≤i∧c.aM=0∧p.at c.par=some q∧1≤q.aM∧(∀j d,p.at j=some d→0<j→d.par≠i)∧Vp (h.drop i) (p.drop i)∧∀j,j≠i→Xk (h.drop i) j=Xk h j:=by
 obtain⟨c0,I,ac⟩:=Tz h0;obtain⟨i1,_,_,i4,i5,i6⟩:=ok.pos I;obtain⟨c,hc,e1,e2,e3,e4⟩:=m.fwd ok I;obtain⟨q,K,ag,U⟩:=m.par ok i6;rw[←e1]at K;have aa:c.aM=0:=by rw[e4,ac];rfl
 have E:=We h0;have B:=Iz i1 hc aa ha K;have R:∀j d,p.at j=some d→0<j→d.par≠i:=fun j d hd hj e=>by obtain⟨d0,Eu,k1,_⟩:=m.back (by omega) hd;exact Qby ac d0 (Qm.aE Eu).1 (k1.symm.trans e)
 have hu:∀k,(h.drop i).aM k=(h.aM k).filter fun y=>!decide (y=i):=fun k=>by unfold Qm.drop;rw[if_pos h0];exact Ph h i k
 have J:∀k,k≠c.par→(h.drop i).aM k=h.aM k:=fun k hk=>by rw[hu k];rw[←Ph];exact Ij ok.nodup I (by rw[←e1];exact hk)
 have ab:((h.drop i).aM c.par).length=q.aM-1:=by
  rw[hu,U,e1];have u:i∈h.aM c0.sp.par:=Z3.2 ⟨c0,List.mem_filter.2 ⟨i6,by simp⟩,i5⟩;have hs:=Gk ok.sorted c0.sp.par;generalize h.aM c0.sp.par=l at u hs;clear hu J B E;induction l with
  |nil=>cases u
  |cons y l ih=>
   rw[List.filter_cons];have Z:=List.pairwise_cons.1 hs;by_cases e:y=i
   ·have:l.filter (fun y=>!decide (y=i))=l:=List.filter_eq_self.2 fun z hz=>by
     have:=Z.1 z hz;have:z≠i:=by omega
     simpa using this
    simp[e,this]
   ·have hm:i∈l:=(Zu.1 u).resolve_left (fun e'=>e e'.symm);have:=ih hm Z.2;have hp:1≤l.length:=List.length_pos_of_mem hm;simp only[e,decide_false,Bool.not_false,if_true,Zm];omega
 have ae:1≤q.aM:=by rw[U];exact Qql i6 rfl
 refine⟨c,q,hc,i1,aa,K,ae,R,⟨?_,fun k hk=>?_⟩,fun j hj=>?_⟩
 ·obtain⟨r,hr,V,af⟩:=m.root;by_cases e:0=c.par
  ·refine⟨{q with mem:=q.mem.drop i,aM:=q.aM-1},by rw[B,if_neg (by omega),if_pos e],?_,?_⟩;·rw[←e,hr]at K;obtain rfl:=Zs K;exact V
   ·rw[e];exact ab.symm
  ·exact⟨r,by rw[B,if_neg (by omega),if_neg e];exact hr,V,by rw[J 0 e];exact af⟩
 ·rw[B,E];by_cases e:k=i;·rw[if_pos e,if_pos e];rfl
  ·rw[if_neg e,if_neg e];split
   ·rename_i e5;have:=m.cls k hk;rw[e5,K]at this;rw[e5,ab];cases hx:h.at c.par with
    |none=>rw[hx]at this;cases this
    |some x=> rw[hx]at this;simp only[Zn,Option.some.injEq,Prod.mk.injEq]at this;simp[this.1,this.2.1,this.2.2.1]
   ·rename_i e5;rw[J k e5];exact m.cls k hk
 ·unfold Xk;rw[E,if_neg hj]
end
section
variable{X:Type}{key:X→Int}{l:List X}
theorem Qeo{x y:X}(h:Hn key (key x) l=some y)(k:Int):Hn key k (Lg key x l)=if k=key x then some x else Hn key k l:=by
 unfold Hn Lg at*;induction l with
 |nil=>cases h
 |cons z l I=>
  rw[List.map_cons,List.find?_cons,List.find?_cons];rw[List.find?_cons]at h;by_cases d:key z=key x
  ·rw[if_pos d];by_cases e:k=key x;·simp[e]
   ·have h1:¬key x=k:=fun c=>e c.symm;have J:¬key z=k:=fun c=>e (by rw[←c,d]);simp only[h1,J,decide_false];rw[if_neg e];clear h I;induction l with
    |nil=>rfl
    |cons u l q=>
     rw[List.map_cons,List.find?_cons,List.find?_cons];by_cases B:key u=key x;·rw[if_pos B];have K:¬key u=k:=fun c=>e (by rw[←c,B]);simp only[h1,K,decide_false];exact q
     ·rw[if_neg B];by_cases E:key u=k;·simp only[E,decide_true]
      ·simp only[E,decide_false];exact q
  ·rw[if_neg d];simp only[d,decide_false]at h;by_cases e:key z=k;·have:¬k=key x:=fun c=>d (by rw[e,c]);simp only[e,decide_true];rw[if_neg this]
   ·simp only[e,decide_false];exact I h
theorem Ix(x:X)(k:Int):Hn key k (l++[x])=(Hn key k l).or (if key x=k then some x else none):=by unfold Hn;rw[List.find?_append];congr 1;rw[List.find?_cons];by_cases h:key x=k<;>simp[h]
theorem Qgi(i k:Int):Hn key k (Kp key i l)=if k=i then none else Hn key k l:=by
 unfold Hn Kp;induction l with
 |nil=>simp
 |cons z l q=>
  rw[List.filter_cons];by_cases c:key z=i
  ·simp only[c,decide_true,Bool.not_true,Bool.false_eq_true,if_false];rw[q,List.find?_cons];by_cases e:k=i;·rw[if_pos e,if_pos e]
   ·have:¬key z=k:=fun d=>e (by rw[←d,c]);rw[if_neg e,if_neg e];simp only[this,decide_false]
  ·simp only[c,decide_false,Bool.not_false,if_true];rw[List.find?_cons,List.find?_cons];by_cases e:key z=k;·have:¬k=i:=fun d=>c (by rw[e,d]);simp only[e,decide_true];rw[if_neg this]
   ·simp only[e,decide_false];exact q
theorem Qqa(x:X):(Lg key x l).map key=l.map key:=by
 unfold Lg;rw[List.map_map];refine List.map_congr_left fun y _=>?_;simp only[Function.comp];split;·rename_i h;exact h.symm
 ·rfl
theorem Qm1{f:X→X}(hf:∀x,key (f x)=key x)(k:Int):Hn key k (l.map f)=(Hn key k l).map f:=by
 unfold Hn;induction l with
 |nil=>rfl
 |cons z l c=>
  rw[List.map_cons,List.find?_cons,List.find?_cons,hf];by_cases h:key z=k;·simp[h]
  ·simp only[h,decide_false];exact c
end
structure Br(N:Nat)(h:Qm)(p:Qe)(l:Qw):Prop where
 sp:∃c,h.at l.id=some c∧c.sp.leaf=true∧(l.pk:Int)=c.sp.pk∧(l.bt:Int)=c.sp.bt∧l.debt.isSome=!c.sp.real.none∧p.aL l.id=(c.sp.aJ&&decide (l.q≠[]))
 many:l.q.length≤l.pk
 held:Jn l.q≤l.bt
 good:∀x∈l.q,Ll x∧x.cls=l.id
 debt:∀d,l.debt=some d→d.got≤Xw∧d.run.l.length≤N∧d.aL=decide (l.q≠[])
def Qvc(aI:List Qw)(row:List Xu):Prop:=∀a i b,(a,i,b)∈row↔∃l d,Hn Qw.id i aI=some l∧l.debt=some d∧d.aL=true∧a=d.elig∧b=d.due
structure Vl(N:Nat)(s:Qf):Prop where
 most:1≤s.most∧s.most<65536
 tree:J8 s.tree
 pick:Qs (Xk s.tree) N s.pick
 pinv:Uz s.pick
 mt:Vp s.tree s.pick
 nd:(s.aI.map Qw.id).Nodup
 lv:∀i c,s.tree.at i=some c→c.sp.leaf=true→∃l,s.leaf i=some l
 ok:∀l∈s.aI,Br N s.tree s.pick l
 row:Qvc s.aI s.row
section
variable{N M:Nat}{s:Qf}
theorem Vl.at(h:Vl N s){i:Int}{l:Qw}(hl:s.leaf i=some l):Br N s.tree s.pick l∧l.id=i∧l∈s.aI:=by obtain⟨c,hi⟩:=Y3 (key:=Qw.id) hl;exact⟨h.ok l c,hi,c⟩
theorem Vl.leaf_of(h:Vl N s){l:Qw}(hl:l∈s.aI):s.leaf l.id=some l:=Ls (key:=Qw.id) h.nd hl rfl
theorem Br.more{h:Qm}{p:Qe}{l:Qw}(k:Br N h p l)(q:N≤M):Br M h p l:=⟨k.sp,k.many,k.held,k.good,fun d c=>⟨(k.debt d c).1,Zp (k.debt d c).2.1 q,(k.debt d c).2.2⟩⟩
theorem Vl.more(h:Vl N s)(c:N≤M):Vl M s:=⟨h.most,h.tree,h.pick.more c,h.pinv,h.mt,h.nd,h.lv,fun l hl=>(h.ok l hl).more c,h.row⟩
theorem Vl.new{most:Int}(h1:1≤most)(k:most<65536):Vl N (Qf.new most):=
 ⟨⟨h1,k⟩,J8.nil,Qs.new rfl,Uz.new,Vp.new,List.nodup_nil,fun i c hc=>(by cases hc),nofun,fun a i b=>⟨fun h=>(by cases h),fun⟨l,d,h,_⟩=>(by cases h)⟩⟩
theorem Qnu:∀{l:List Int}{x:Int},(∀y∈l,0≤y)→x∈l→0<x→0<l.sum
 |y::l,x,h,k,h0=>by
  rw[List.sum_cons];have c:=h y List.mem_cons_self;have d:∀{l:List Int},(∀y∈l,0≤y)→0≤l.sum:=fun{l}h=>by
   induction l with
   |nil=>simp
   |cons z l q=>rw[List.sum_cons];have:=h z List.mem_cons_self;have:=q fun y c=>h y (Zr _ c);omega
  rcases Zu.1 k with rfl|k;·have:=d fun y c=>h y (Zr _ c);omega
  ·have:=Qnu (fun y c=>h y (Zr _ c)) k h0;omega
theorem Qhx{id x:Int}(d:x∈s.tree.aI id)(c:s.qOf x≠[]):0<s.many id:=by
 unfold Qf.many;refine Qnu (x:=((s.qOf x).length:Int)) (fun y k=>?_) (Z3.2 ⟨x,d,rfl⟩) ?_;·obtain⟨z,_,rfl⟩:=Z3.1 k;omega
 ·have:=List.length_pos_iff.2 c;omega
theorem Ov{i:Int}{l:Qw}(h:s.leaf i=some l):s.qOf i=l.q:=by unfold Qf.qOf;rw[h];rfl
theorem Vl.busy(h:Vl N s){L:Int}{x:Qx}(u:s.pick.at L=some x)(hl:x.leaf=true)(ha:s.pick.aL L=true):∃c l,s.tree.at L=some c∧c.sp.leaf=true∧s.leaf L=some l∧l.q≠[]:=by
 have h0:L≠0:=fun e=>by obtain⟨r,hr,q,_⟩:=h.mt.root;rw[e,hr]at u;obtain rfl:=Zs u;rw[q]at hl;cases hl
 obtain⟨c,hc,_,z,_⟩:=h.mt.back h0 u;obtain⟨l,d⟩:=h.lv L c hc (z.symm.trans hl);obtain⟨k,I,_⟩:=h.at d;obtain⟨c',E,_,_,_,_,B⟩:=k.sp;refine⟨c,l,hc,z.symm.trans hl,d,?_⟩;rw[I,ha]at B;have:=B.symm;simp only[Zw,decide_eq_true_eq]at this;exact this.2
theorem Vl.asleep(h:Vl N s){i:Int}(E:¬0<s.many i):s.pick.aL i=false:=by
 cases ha:s.pick.aL i with
 |false=>rfl
 |true=> obtain⟨L,x,J,hl,B,d⟩:=h.pinv.low i ha;obtain⟨c,l,hc,q,z,I⟩:=h.busy J hl d;rw[h.mt.path h.tree]at B;obtain⟨u,k⟩:=Qm.aE hc;exact absurd (Qhx (Y8.2 ⟨c,u,k,q,.inr B⟩) (by rw[Ov z];exact I)) E
theorem Vl.add(h:Vl N s){c:Yk}(h0:s.aO c=0):Vl N (s.add c):=by
 have B:s.tree.aO c=0:=h0;obtain⟨q,hq,ab,ag,hn,i1,mt,d0,d1,d8,dd⟩:=h.mt.add h.tree B;have U:=Qjv B;have V:=(Ub B).2.2.1;have may:=(Ub B).1;have ac:Qs (Xk (s.tree.add c)) N (s.pick.put c):=h.pick.put i1 hn hq ab (by omega) d0 (fun x z ah=>dd x.id (Qm2 hn x z)) d1 d8;obtain⟨pv,ae⟩:=h.pinv.put h.pick i1 hn hq ab ac;have e:s.add c={s with tree:=s.tree.add c,pick:=s.pick.put c,aI:=if c.leaf then s.aI++[⟨c.id,c.pk.toNat,c.bt.toNat,[],Xl c.real⟩]else s.aI}:=by unfold Qf.add;rw[if_pos h0]
 rw[e];have J:∀l∈s.aI,l.id≠c.id:=fun l hl e=>by obtain⟨x,z,_⟩:=(h.ok l hl).sp;rw[e,V]at z;cases z
 have K:∀l∈s.aI,Br N (s.tree.add c) (s.pick.put c) l:=fun l hl=>by have k:=h.ok l hl;obtain⟨x,z,k2⟩:=k.sp;exact⟨⟨x,by rw[U,if_neg (J l hl)];exact z,by rw[ae];exact k2⟩,k.many,k.held,k.good,k.debt⟩
 have I:∀i,i≠c.id→Hn Qw.id i (if c.leaf then s.aI++[⟨c.id,c.pk.toNat,c.bt.toNat,[],Xl c.real⟩]else s.aI)=s.leaf i:=fun i hi=>by
  split;·rw[Ix,if_neg (fun e=>hi e.symm)];show(s.leaf i).or none=_;cases s.leaf i<;>rfl
  ·rfl
 refine⟨h.most,h.tree.add B,ac,pv,mt,?_,fun i x z Z=>?_,fun l hl=>?_,fun a i b=>?_⟩
 ·dsimp only;split
  ·rw[List.map_append];refine List.nodup_append.2 ⟨h.nd,by simp,fun a ha b hb=>?_⟩;obtain⟨l,hl,rfl⟩:=Z3.1 ha;obtain rfl:b=c.id:=by simpa using hb
   exact J l hl
  ·exact h.nd
 ·dsimp only at z;rw[U]at z;by_cases R:i=c.id
  ·rw[if_pos R]at z;obtain rfl:=Zs z;dsimp only at Z;refine⟨⟨c.id,c.pk.toNat,c.bt.toNat,[],Xl c.real⟩,?_⟩;show Hn Qw.id i (if c.leaf then _ else _)=_;rw[if_pos Z,Ix,R,if_pos rfl];have:Hn Qw.id c.id s.aI=none:=by
    cases hf:Hn Qw.id c.id s.aI with
    |none=>rfl
    |some l=>exact absurd (Y3 hf).2 (J l (Y3 hf).1)
   rw[this];rfl
  ·rw[if_neg R]at z;obtain⟨l,hl⟩:=h.lv i x z Z;exact⟨l,(I i R).trans hl⟩
 ·dsimp only at hl⊢;split at hl
  ·rename_i aa;rcases Zl.1 hl with hl|hl;·exact K l hl
   ·obtain rfl:l=⟨c.id,c.pk.toNat,c.bt.toNat,[],Xl c.real⟩:=by simpa using hl
    obtain⟨b1,b2,b3,b4⟩:=Qam may aa;refine⟨⟨⟨c,s.tree.depth c.par⟩,by rw[U,if_pos rfl],aa,?_,?_,?_,?_⟩,Nat.zero_le _,?_,nofun,fun d hd=>?_⟩;·show((c.pk.toNat:Nat):Int)=c.pk;omega
    ·show((c.bt.toNat:Nat):Int)=c.bt;omega
    ·show(Xl c.real).isSome=!c.real.none;unfold Xl;by_cases hr:c.real.none=true;·rw[if_pos hr,hr];rfl
     ·rw[if_neg hr];have:c.real.none=false:=by simpa using hr
      rw[this];rfl
    ·show(s.pick.put c).aL c.id=_;rw[ae,Qe.awake_none hn];simp
    ·show Jn []≤((c.bt.toNat:Nat):Int);simp only[Jn];omega
    ·have u:Xl c.real=some d:=hd;unfold Xl at u;split at u;·cases u
     ·obtain rfl:=Zs u;exact⟨Nat.zero_le _,Nat.zero_le _,rfl⟩
  ·exact K l hl
 ·dsimp only;rw[h.row];by_cases R:i=c.id
  ·subst R;have hf:s.leaf c.id=none:=by
    cases hf:s.leaf c.id with
    |none=>rfl
    |some l=>exact absurd (Y3 (key:=Qw.id) hf).2 (J l (Y3 (key:=Qw.id) hf).1)
   constructor;·rintro⟨l,d,hl,_⟩;have E:s.leaf c.id=some l:=hl;rw[hf]at E;cases E
   ·rintro⟨l,d,hl,hd,ha,_⟩;exfalso;split at hl
    ·rw[Ix]at hl;have af:Hn Qw.id c.id s.aI=none:=hf;rw[af,if_pos rfl]at hl;obtain rfl:=Zs hl;have u:Xl c.real=some d:=hd;unfold Xl at u;split at u;·cases u
     ·obtain rfl:=Zs u;cases ha
    ·have E:s.leaf c.id=some l:=hl;rw[hf]at E;cases E
  ·rw[I i R];rfl
theorem L8{c:Yk}(h0:s.aG c=0):¬0<s.many c.id∧s.tree.aG c=0:=by
 unfold Qf.aG at h0;split at h0;·cases h0
 ·split at h0;·cases h0
  ·rename_i h1;exact⟨h1,h0⟩
theorem Mh{h:Qm}{i:Int}{c:Vm}(hc:h.at i=some c):i∈h.path 9 i:=by rw[Qm.path,hc];exact List.mem_cons_self
theorem Vl.idle(h:Vl N s){i:Int}{l:Qw}(hl:s.leaf i=some l)(z:¬0<s.many i):l.q=[]:=by
 obtain⟨k,E,_⟩:=h.at hl;obtain⟨c,hc,q,_⟩:=k.sp;rw[E]at hc;obtain⟨u,d⟩:=Qm.aE hc;cases B:l.q with
 |nil=>rfl
 |cons x t=>exact absurd (Qhx (Y8.2 ⟨c,u,d,q,.inr (Mh hc)⟩) (by rw[Ov hl,B];simp)) z
theorem Vl.change(h:Vl N s){c:Yk}(h0:s.aG c=0):Vl N (s.change c):=by
 obtain⟨hm,U⟩:=L8 h0;have ha:=h.asleep hm;obtain⟨x,q,hx,i1,hq,mt,dd⟩:=h.mt.aK h.tree h.pick U ha;have V:=Si U;have ah:Qs (Xk (s.tree.change c)) N (s.pick.aK c):=(h.pick.aK i1 hx ha hq).redep (by rw[dd,h.pick.up.1]) (fun _ _ _=>dd _);obtain⟨pv,af⟩:=h.pinv.aK h.pick i1 hx ha hq;have e:s.change c={s with tree:=s.tree.change c,pick:=s.pick.aK c,aI:=s.aI.map fun l=>if l.id=c.id then{l with debt:=Xl c.real}else l}:=by unfold Qf.change;rw[if_pos h0]
 rw[e];have hf:∀l:Qw,(if l.id=c.id then{l with debt:=Xl c.real}else l).id=l.id:=fun l=>by split<;>rfl
 have J:∀i,Hn Qw.id i (s.aI.map fun l=>if l.id=c.id then{l with debt:=Xl c.real}else l)=(s.leaf i).map fun l=>if l.id=c.id then{l with debt:=Xl c.real}else l:=fun i=>Qm1 hf i;refine⟨h.most,h.tree.change U,ah,pv,mt,?_,fun i y E ae=>?_,fun l hl=>?_,fun a i b=>?_⟩;·dsimp only;rw[List.map_map];have:(Qw.id∘fun l:Qw=>if l.id=c.id then{l with debt:=Xl c.real}else l)=Qw.id:=funext hf;rw[this];exact h.nd
 ·dsimp only at E;rw[V]at E;have:∃y',s.tree.at i=some y'∧y'.sp.leaf=true:=by
   split at E
   ·rename_i B;cases hz:s.tree.at c.id with
    |none=>rw[hz]at E;cases E
    |some z=> rw[hz]at E;obtain rfl:=Zs E;exact⟨z,by rw[B];exact hz,ae⟩
   ·exact⟨y,E,ae⟩
  obtain⟨y',ag,I⟩:=this;obtain⟨l,hl⟩:=h.lv i y' ag I;exact⟨_,by show Hn Qw.id i _=_;rw[J,hl];rfl⟩
 ·obtain⟨R,ab,rfl⟩:=Z3.1 hl;have k:=h.ok R ab;obtain⟨y,E,k1,k2,k3,k4,k5⟩:=k.sp;by_cases B:R.id=c.id
  ·rw[if_pos B];have ac:=h.leaf_of ab;rw[B]at ac;have K:=h.idle ac hm;rw[B]at E;refine⟨⟨⟨y.sp.aK c,y.d⟩,?_,k1,k2,k3,?_,?_⟩,k.many,k.held,k.good,fun d hd=>?_⟩;·show(s.tree.change c).at R.id=_;rw[V,if_pos B,E];rfl
   ·show(Xl c.real).isSome=!c.real.none;unfold Xl;by_cases hr:c.real.none=true;·rw[if_pos hr,hr];rfl
    ·rw[if_neg hr];have:c.real.none=false:=by simpa using hr
     rw[this];rfl
   ·show(s.pick.aK c).aL R.id=_;rw[af,B,ha];show _=(_&&decide (R.q≠[]));rw[K];simp
   ·have u:Xl c.real=some d:=hd;unfold Xl at u;split at u;·cases u
    ·obtain rfl:=Zs u;exact⟨Nat.zero_le _,Nat.zero_le _,by show false=decide (R.q≠[]);rw[K];rfl⟩
  ·rw[if_neg B];exact⟨⟨y,by show(s.tree.change c).at R.id=_;rw[V,if_neg B];exact E,k1,k2,k3,k4,by show(s.pick.aK c).aL R.id=_;rw[af];exact k5⟩,k.many,k.held,k.good,k.debt⟩
 ·dsimp only;rw[h.row,J];have el:Hn Qw.id i s.aI=s.leaf i:=rfl;rw[el];by_cases B:i=c.id
  ·cases hl:s.leaf i with
   |none=>simp
   |some l=>
    obtain⟨k,ki,_⟩:=h.at hl;have K:l.q=[]:=h.idle (by rw[←B];exact hl) hm;constructor;·rintro⟨l',d,I,hd,Z,_⟩;obtain rfl:=Zs I;have:=(k.debt d hd).2.2;rw[Z,K]at this;simp at this
    ·rintro⟨l',d,I,hd,Z,_⟩;obtain rfl:=Zs I;have aa:(if l.id=c.id then{l with debt:=Xl c.real}else l).debt=some d:=hd;rw[if_pos (ki.trans B)]at aa;have u:Xl c.real=some d:=aa;unfold Xl at u;split at u;·cases u
     ·obtain rfl:=Zs u;cases Z
  ·cases hl:s.leaf i with
   |none=>simp
   |some l=> have ki:=(h.at hl).2.1;rw[Zn,if_neg (by rw[ki];exact B)]
theorem Ng{i:Int}(h0:s.aP i=0):¬0<s.many i∧s.tree.aP i=0:=by
 unfold Qf.aP at h0;unfold Qm.aP;split at h0;·cases h0
 ·rename_i h1;split at h0;·cases h0
  ·rename_i d;split at h0;·cases h0
   ·rename_i k;refine⟨k,?_⟩;cases hc:s.tree.at i with
    |none=>rw[hc]at h1;exact absurd rfl h1
    |some c=> dsimp only;rw[if_neg d]
theorem Vl.drop(h:Vl N s){i:Int}(h0:s.aP i=0):Vl N (s.drop i):=by
 obtain⟨hm,z⟩:=Ng h0;have ha:=h.asleep hm;obtain⟨x,q,hx,i1,hu,hq,af,hk,mt,dd⟩:=h.mt.drop h.tree h.pick z ha;have B:=We z;have J:=h.tree.drop z;have Z:=Iz i1 hx hu ha hq;have I:=h.pick.drop h.pinv i1 hx hu ha hq hk;have ac:Qs (Xk (s.tree.drop i)) N (s.pick.drop i):=I.redep (Kr (J.zero (by decide))) (fun y u _=>by
  have:=Qe.at_of I.nd u;rw[Z]at this;split at this;·cases this
  ·rename_i e;exact dd _ e)
 obtain⟨pv,ae⟩:=h.pinv.drop h.pick i1 hx hu ha hq hk;have e:s.drop i={s with tree:=s.tree.drop i,pick:=s.pick.drop i,aI:=Kp Qw.id i s.aI}:=by unfold Qf.drop;rw[if_pos h0];rfl
 rw[e];have c:∀j,Hn Qw.id j (Kp Qw.id i s.aI)=if j=i then none else s.leaf j:=fun j=>Qgi i j;have E:∀l,l∈Kp Qw.id i s.aI→l∈s.aI∧l.id≠i:=fun l hl=>by have:=List.mem_filter.1 hl;exact⟨this.1,by simpa using this.2⟩
 refine⟨h.most,J,ac,pv,mt,h.nd.sublist (List.filter_sublist.map _),fun j y u ab=>?_,fun l hl=>?_,fun a j b=>?_⟩
 ·dsimp only at u;rw[B]at u;split at u;·cases u
  ·rename_i K;obtain⟨l,hl⟩:=h.lv j y u ab;exact⟨l,by show Hn Qw.id j _=_;rw[c,if_neg K];exact hl⟩
 ·obtain⟨U,V⟩:=E l hl;have k:=h.ok l U;obtain⟨y,u,k2⟩:=k.sp;exact⟨⟨y,by show(s.tree.drop i).at l.id=_;rw[B,if_neg V];exact u,by show _∧_∧_∧_∧(s.pick.drop i).aL l.id=_;rw[ae];exact k2⟩,k.many,k.held,k.good,k.debt⟩
 ·dsimp only;rw[h.row,c];have el:Hn Qw.id j s.aI=s.leaf j:=rfl;rw[el];split;·rename_i K;refine⟨fun⟨l,d,hl,hd,R,_⟩=>?_,fun⟨l,d,hl,_⟩=>(by cases hl)⟩;exfalso;obtain⟨k,ki,_⟩:=h.at hl;have aa:l.q=[]:=h.idle (by rw[←K];exact hl) hm;have:=(k.debt d hd).2.2;rw[R,aa]at this;simp at this
  ·exact Iff.rfl
theorem If{row:List Xu}{i:Int}{d:Ju}{a:Nat}{j:Int}{b:Nat}:(a,j,b)∈Hj row i d↔if j=i then d.aL=true∧a=d.elig∧b=d.due else(a,j,b)∈row:=by
 unfold Hj;by_cases e:j=i
 ·rw[if_pos e];split;·rename_i h;unfold Vf;rw[Lb];unfold Xa;rw[List.mem_filter];simp[e,h]
  ·rename_i h;unfold Xa;rw[List.mem_filter];simp[e,h]
 ·rw[if_neg e];split;·unfold Vf;rw[Lb];unfold Xa;rw[List.mem_filter];simp[e]
  ·unfold Xa;rw[List.mem_filter];simp[e]
theorem Vl.upd(h:Vl N s)(U:N≤M){i:Int}{l l':Qw}{row':List Xu}{p':Qe}(hl:s.leaf i=some l)(q:l'.id=i)(ag:l'.pk=l.pk)(aa:l'.bt=l.bt)(ab:l'.debt.isSome=l.debt.isSome)
  (h1:l'.q.length≤l'.pk)(h2:Jn l'.q≤l'.bt)(h3:∀x∈l'.q,Ll x∧x.cls=i)(h4:∀d,l'.debt=some d→d.got≤Xw∧d.run.l.length≤M∧d.aL=decide (l'.q≠[]))
  (ae:Qs (Xk s.tree) M p') (af:Uz p') (ac:Vp s.tree p') (Z:∀j x,s.pick.at j=some x→x.leaf=true→j≠i→p'.aL j=s.pick.aL j)
  (V:∀c,s.tree.at i=some c→p'.aL i=(c.sp.aJ&&decide (l'.q≠[])))
  (E:∀a j b,(a,j,b)∈row'↔if j=i then∃d,l'.debt=some d∧d.aL=true∧a=d.elig∧b=d.due else(a,j,b)∈s.row):
  Vl M {s with aI:=Lg Qw.id l' s.aI,row:=row',pick:=p'}:=by
 have u:∀j,Hn Qw.id j (Lg Qw.id l' s.aI)=if j=i then some l' else s.leaf j:=fun j=>by have:=Qeo (key:=Qw.id) (x:=l') (y:=l) (l:=s.aI) (by rw[q];exact hl) j;rw[this,q];rfl
 obtain⟨k,ki,_⟩:=h.at hl;obtain⟨c,hc,c1,c2,c3,c4,c5⟩:=k.sp;rw[ki]at hc;refine⟨h.most,h.tree,ae,af,ac,by show(List.map Qw.id (Lg Qw.id l' s.aI)).Nodup;rw[Qqa];exact h.nd,fun j y I ah=>?_,fun y I=>?_,fun a j b=>?_⟩
 ·by_cases e:j=i;·exact⟨l',by show Hn Qw.id j _=_;rw[u,if_pos e]⟩
  ·obtain⟨z,R⟩:=h.lv j y I ah;exact⟨z,by show Hn Qw.id j _=_;rw[u,if_neg e];exact R⟩
 ·rcases Qao (x:=l) h.nd I with rfl|⟨I,B⟩;·refine⟨⟨c,by show s.tree.at y.id=_;rw[q];exact hc,c1,by rw[ag];exact c2,by rw[aa];exact c3,ab.trans c4,by show p'.aL y.id=_;rw[q];exact V c hc⟩,h1,h2,fun x K=>⟨(h3 x K).1,(h3 x K).2.trans q.symm⟩,h4⟩
  ·have J:=(h.ok y I).more U;rw[q]at B;obtain⟨z,R,z1,z2⟩:=J.sp;obtain⟨x,K,_,e2,_⟩:=h.mt.fwd h.tree R;exact⟨⟨z,R,z1,by show _∧_∧_∧p'.aL y.id=_;rw[Z y.id x K (e2.trans z1) B];exact z2⟩,J.many,J.held,J.good,J.debt⟩
 ·show(a,j,b)∈row'↔_;rw[E];show _↔∃l d,Hn Qw.id j (Lg Qw.id l' s.aI)=some l∧_;rw[u];by_cases e:j=i;·rw[if_pos e,if_pos e];exact⟨fun⟨d,h⟩=>⟨l',d,rfl,h⟩,fun⟨l0,d,e0,h⟩=>by obtain rfl:=Zs e0;exact⟨d,h⟩⟩
  ·rw[if_neg e,if_neg e];exact h.row a j b
end
section
variable{N M:Nat}{s:Qf}
theorem Qjb(l:List Jr)(p:Jr):Jn (l++[p])=Jn l+p.len:=by rw[Tk];simp[Jn]
theorem Qlk{n most:Int}(h:Eo n most=0):1≤n∧n≤most∧most≤65535:=by
 unfold Eo at h;split at h;·cases h
 ·split at h;·cases h
  ·omega
theorem Mk{p:Jr}(h0:s.aQ p=0):∃c l,s.tree.at p.cls=some c∧c.sp.leaf=true∧(1≤p.len∧p.len≤s.most∧s.most≤65535)∧s.leaf p.cls=some l∧¬(l.q.length=l.pk∨(l.bt:Int)-Jn l.q<p.len):=by
 unfold Qf.aQ at h0;cases hc:s.tree.at p.cls with
 |none=>rw[hc]at h0;cases h0
 |some c=>
  rw[hc]at h0;dsimp only at h0;split at h0;·cases h0
  ·rename_i h1;split at h0;·rename_i d;exact absurd h0 d
   ·rename_i d;cases hl:s.leaf p.cls with
    |none=>rw[hl]at h0;cases h0
    |some l=>
     rw[hl]at h0;dsimp only at h0;split at h0;·cases h0
     ·rename_i k;exact⟨c,l,rfl,by simpa using h1,Qlk (by simpa using d),rfl,k⟩
theorem Qmg(l:Qw):s.setLeaf l={s with aI:=Lg Qw.id l s.aI}:=rfl
theorem Rm(l:Qw)(f:Ju→Ju):s.owe l f={s with aI:=Lg Qw.id {l with debt:=l.debt.map f} s.aI,row:=match l.debt with
  |none=>s.row
  |some d=>Hj s.row l.id (f d)}:=by
 obtain⟨i,pk,bt,q,debt⟩:=l;unfold Qf.owe;cases debt with
 |none=>rfl
 |some d=>rfl
theorem Ct{p:Jr}{now:Nat}{l:Qw}(h0:s.aQ p=0)(hl:s.leaf p.cls=some l):
  s.push p now=if l.q≠[]then s.setLeaf {l with q:=l.q++[p]}else{s.owe {l with q:=l.q++[p]} (fun d=>d.wake now p.len)with pick:=s.pick.wake p.cls now}:=by
 unfold Qf.push;rw[if_pos h0,hl];dsimp only;split;·rfl
 ·rw[Rm]
theorem Vl.offpath(h:Vl N s){i j:Int}{x:Qx}(u:s.pick.at j=some x)(hl:x.leaf=true)(k:j≠i):j∉s.pick.path 9 i:=fun q=>by obtain⟨c,hc,d⟩:=Mi h.pick h.pinv.inn q k;rw[u]at hc;obtain rfl:=Zs hc;rw[hl]at d;cases d
theorem Qgq{a b:Bool}(h:a=true↔b=true):a=b:=by cases a<;>cases b<;>simp_all
theorem Vl.push(h:Vl N s){p:Jr}(now:Nat)(h0:s.aQ p=0):Vl (N+16) (s.push p now):=by
 obtain⟨c,l,hc,ae,U,hl,ai⟩:=Mk h0;obtain⟨k,ki,_⟩:=h.at hl;obtain⟨c',I,_,c2,c3,c4,c5⟩:=k.sp;rw[ki]at I c5;rw[hc]at I;obtain rfl:=Zs I;have ah:=k.many;have ag:=k.held;have h1:(l.q++[p]).length≤l.pk:=by simp;omega
 have h2:Jn (l.q++[p])≤l.bt:=by rw[Qjb];omega
 have h3:∀x∈l.q++[p],Ll x∧x.cls=p.cls:=fun x B=>by
  rcases Zl.1 B with B|B;·have:=k.good x B;exact⟨this.1,this.2.trans ki⟩
  ·obtain rfl:x=p:=by simpa using B
   exact⟨⟨U.1,by omega⟩,rfl⟩
 rw[Ct h0 hl];by_cases Z:l.q=[]
 ·rw[if_neg (by simpa using Z),Rm];have V:=h.pick.wake p.cls now;obtain⟨pv,pm,ac⟩:=h.pinv.wake h.pick p.cls now;have al:=h.tree.pos hc;obtain⟨x,B,_,x2,x3,_⟩:=h.mt.fwd h.tree hc;refine Vl.upd (l:=l) (l':={l with q:=l.q++[p],debt:=l.debt.map fun d=>d.wake now p.len}) h (by omega) hl ki rfl rfl (by simp) h1 h2 h3 (fun d z=>?_) V.1 pv (h.mt.same V.2 pm) (fun j y E aj hj=>?_) (fun y E=>?_) (fun a j b=>?_)
  ·dsimp only at z;cases Eu:l.debt with
   |none=>rw[Eu]at z;cases z
   |some d0=>
    rw[Eu]at z;have af:d0.wake now p.len=d:=Zs z;subst af;obtain⟨g1,g2,K⟩:=k.debt d0 Eu;rw[Z]at K;have K:d0.aL=false:=by simpa using K
    unfold Ju.wake;rw[if_neg (by simp[K])];refine⟨g1,?_,by simp⟩;dsimp only;rw[Gj];omega
  ·refine Qgq ((ac j).trans ⟨fun R=>R.elim id fun hh=>absurd hh.1 ?_,.inl⟩);exact h.offpath E aj hj
  ·rw[hc]at E;obtain rfl:=Zs E;have e0:s.pick.aL p.cls=false:=by rw[c5,Z];simp
   have:decide (l.q++[p]≠[])=true:=by simp
   dsimp only;rw[this,Bool.and_true];refine Qgq ((ac p.cls).trans ⟨fun R=>?_,fun hs=>.inr ⟨Sv B (by omega),⟨x,B,x3.trans hs⟩,x,B,by omega,x2.trans ae,x3.trans hs⟩⟩);rcases R with R|⟨_,⟨y,E,ak⟩,_⟩;·rw[e0]at R;cases R
   ·rw[B]at E;obtain rfl:=Zs E;exact x3.symm.trans ak
  ·dsimp only;cases Eu:l.debt with
   |none=>
    dsimp only;rw[h.row];by_cases e:j=p.cls;·rw[if_pos e,e];refine⟨fun⟨l0,d,J,z,_⟩=>?_,fun⟨d,z,_⟩=>(by cases z)⟩;have u:s.leaf p.cls=some l0:=J;rw[hl]at u;obtain rfl:=Zs u;rw[Eu]at z;cases z
    ·rw[if_neg e]
   |some d0=>
    dsimp only;rw[If];rw[ki];by_cases e:j=p.cls;·rw[if_pos e,if_pos e];simp
    ·rw[if_neg e,if_neg e]
 ·rw[if_pos (by simpa using Z),Qmg];have aa:decide (l.q++[p]≠[])=true:=by simp
  have ab:decide (l.q≠[])=true:=by simpa using Z
  refine Vl.upd (l:=l) (l':={l with q:=l.q++[p]}) (row':=s.row) (p':=s.pick) h (by omega) hl ki rfl rfl rfl h1 h2 h3 (fun d z=>?_) (h.pick.more (by omega)) h.pinv h.mt (fun _ _ _ _ _=>rfl) (fun y E=>?_) (fun a j b=>?_);·obtain⟨g1,g2,K⟩:=k.debt d z;exact⟨g1,by omega,by dsimp only;rw[K,aa,ab]⟩
  ·rw[hc]at E;obtain rfl:=Zs E;dsimp only;rw[c5,aa,ab]
  ·rw[h.row];by_cases e:j=p.cls;·rw[if_pos e,e];refine⟨fun⟨l0,d,J,z⟩=>?_,fun⟨d,z⟩=>⟨l,d,hl,z⟩⟩;have u:s.leaf p.cls=some l0:=J;rw[hl]at u;obtain rfl:=Zs u;exact⟨d,z⟩
   ·rw[if_neg e]
theorem Qax{p:Qe}{dep:Int→Nat}(ok:Qs dep N p)(u:Uz p)(now:Nat):∀(n:Nat)(i j:Int),p.next now n i=some j→(∃c,p.at j=some c∧c.leaf=true)∧(j=i∨p.aL j=true)
 |0,i,j,h=>by rw[Qe.next]at h;cases h
 |n+1,i,j,h=>by
  rw[Qe.next]at h;cases hc:p.at i with
  |none=>rw[hc]at h;cases h
  |some c=>
   rw[hc]at h;dsimp only at h;by_cases hl:c.leaf=true;·rw[if_pos hl]at h;obtain rfl:=Zs h;exact⟨⟨c,hc,hl⟩,.inl rfl⟩
   ·rw[if_neg hl]at h;cases q:Xf now c.tree with
    |none=>rw[q]at h;cases h
    |some e=>
     rw[q]at h;dsimp only at h;obtain⟨a,k,b⟩:=e;have B:(a,k,b)∈c.tree:=List.mem_of_find?_eq_some q;have z:=((u.ent k i c hc a b).1 B).2.1;obtain⟨h1,d⟩:=Qax ok u now n k j h;refine⟨h1,.inr ?_⟩;rcases d with rfl|d;·exact z
     ·exact d
theorem Sq{l:List Xu}{x:Nat×Int}(h:low l=some x):∃a,(a,x.2,x.1)∈l:=by obtain⟨⟨a,i,b⟩,c,e⟩:=Qe9 h;exact⟨a,by rw[e];exact c⟩
theorem Vl.who(h:Vl N s){now:Nat}{id:Int}{rule:Nat}(k:s.who now=some (id,rule)):
  ∃l,s.leaf id=some l∧l.q≠[]∧(rule=1∨rule=2):=by
 unfold Qf.who at k;cases ha:Jt now s.row with
 |some x=>
  rw[ha]at k;obtain⟨e1,z⟩:=Prod.mk.inj (Zs k);unfold Jt at ha;obtain⟨a,R⟩:=Sq ha;obtain⟨l,d,hl,K,I,_⟩:=(h.row a x.2 x.1).1 (List.mem_filter.1 R).1;have u:s.leaf id=some l:=by rw[←e1];exact hl
  refine⟨l,u,?_,.inl z.symm⟩;have:=((h.at u).1.debt d K).2.2;rw[I]at this;exact of_decide_eq_true this.symm
 |none=>
  rw[ha]at k;dsimp only at k;cases hn:s.pick.next now 10 0 with
  |none=>rw[hn]at k;cases k
  |some j=>
   rw[hn]at k;obtain⟨e1,z⟩:=Prod.mk.inj (Zs k);obtain⟨⟨c,hc,q⟩,B⟩:=Qax h.pick h.pinv now 10 0 j hn;have E:s.pick.aL j=true:=by
    rcases B with rfl|B;·obtain⟨r,hr,J,_⟩:=h.mt.root;rw[hr]at hc;obtain rfl:=Zs hc;rw[J]at q;cases q
    ·exact B
   obtain⟨_,l,_,_,hl,U⟩:=h.busy hc q E;exact⟨l,by rw[←e1];exact hl,U,.inr z.symm⟩
theorem Fd{id:Int}{rule:Nat}{l:Qw}(hl:s.leaf id=some l):
  s.take id rule={s.owe {l with q:=l.q.tail} (fun d=>d.serve rule (l.q.headD Jr.zero).len (l.q.tail.headD Jr.zero).len)with pick:=s.pick.sent id ((l.q.headD Jr.zero).len*256).toNat (decide (l.q.tail≠[]))}:=by
 unfold Qf.take;rw[hl];dsimp only;rw[Rm]
theorem Vl.take(h:Vl N s){id:Int}(rule:Nat){l:Qw}(hl:s.leaf id=some l)(hq:l.q≠[]):Vl (N+16) (s.take id rule):=by
 obtain⟨k,ki,_⟩:=h.at hl;obtain⟨c,hc,ac,c2,c3,c4,c5⟩:=k.sp;rw[ki]at hc c5;rw[Fd hl,Rm];obtain⟨x,t,E⟩:∃x t,l.q=x::t:=by
  cases ag:l.q with
  |nil=>exact absurd ag hq
  |cons x t=>exact⟨x,t,rfl⟩
 have u:=k.good;rw[E]at u;have K:=k.many;have J:=k.held;rw[E]at K J;simp only[Zm,Jn]at K J;have aj:=(u x (by simp)).1.1;have aa:=h.pick.sent id ((l.q.headD Jr.zero).len*256).toNat (decide (l.q.tail≠[]));obtain⟨pv,pm,ai,B,Z⟩:=h.pinv.sent h.pick id ((l.q.headD Jr.zero).len*256).toNat (decide (l.q.tail≠[]));have ab:decide (l.q≠[])=true:=by simpa using hq
 have U:∀I,l.debt=some I→(I.serve rule (l.q.headD Jr.zero).len (l.q.tail.headD Jr.zero).len).got≤Xw∧(I.serve rule (l.q.headD Jr.zero).len (l.q.tail.headD Jr.zero).len).run.l.length≤N+16∧(I.serve rule (l.q.headD Jr.zero).len (l.q.tail.headD Jr.zero).len).aL=decide (l.q.tail≠[]):=fun I Eu=>by
  obtain⟨g1,g2,g3⟩:=k.debt I Eu;rw[ab]at g3;unfold Ju.serve;rw[if_neg (by simp[g3])];refine⟨?_,by show I.run.l.length≤_;omega,?_⟩
  ·dsimp only;split;·exact Nat.min_le_right _ _
   ·exact g1
  ·show decide (1≤(l.q.tail.headD Jr.zero).len)=_;rw[E];cases t with
   |nil=>rfl
   |cons y t=> have:=(u y (by simp)).1.1;simp[this]
 refine Vl.upd (l:=l) (l':={l with q:=l.q.tail,debt:=l.debt.map fun d=>d.serve rule (l.q.headD Jr.zero).len (l.q.tail.headD Jr.zero).len}) h (by omega) hl ki rfl rfl (by simp) (by simp[E];omega) (by simp[E];omega)
  (fun y hy=>by
   have:=k.good y (by rw[E]at hy⊢;exact Zr _ hy);exact⟨this.1,this.2.trans ki⟩) (fun d R=>?_) aa.1 pv (h.mt.same aa.2 pm) (fun j y hy ah hj=>B j (.inl (h.offpath hy ah hj))) (fun y hy=>?_) (fun a j b=>?_)
 ·dsimp only at R;cases Eu:l.debt with
  |none=>rw[Eu]at R;cases R
  |some I=> rw[Eu]at R;have ae:I.serve rule (l.q.headD Jr.zero).len (l.q.tail.headD Jr.zero).len=d:=Zs R;subst ae;exact U I Eu
 ·rw[hc]at hy;obtain rfl:=Zs hy;obtain⟨z,hz,_,z2,_⟩:=h.mt.fwd h.tree hc;dsimp only;cases ht:decide (l.q.tail≠[])with
  |true=> rw[ht]at B;rw[B id (.inr (.inl rfl)),c5,ab]
  |false=> rw[ht]at Z;rw[Z rfl ⟨z,hz,z2.trans ac⟩,Bool.and_false]
 ·dsimp only;cases Eu:l.debt with
  |none=>
   dsimp only;rw[h.row];by_cases e:j=id;·rw[if_pos e,e];refine⟨fun⟨l0,d,af,R,_⟩=>?_,fun⟨d,R,_⟩=>(by cases R)⟩;have V:s.leaf id=some l0:=af;rw[hl]at V;obtain rfl:=Zs V;rw[Eu]at R;cases R
   ·rw[if_neg e]
  |some I=>
   dsimp only;rw[If];rw[ki];by_cases e:j=id;·rw[if_pos e,if_pos e];simp
   ·rw[if_neg e,if_neg e]
end
end Go.Proofs.YtnnhmpehkbihnaaGreat
