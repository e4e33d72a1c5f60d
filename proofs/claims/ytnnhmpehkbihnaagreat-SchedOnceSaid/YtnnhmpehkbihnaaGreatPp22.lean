/- A part of the proof: no condition. -/
import Derived.Test.YtnnhmpehkbihnaaGreatPp21
import Derived.Test.YtnnhmpehkbihnaaGreatPp20
namespace Go.Proofs.YtnnhmpehkbihnaaGreat
set_option linter.unusedVariables false
set_option maxRecDepth 100000
set_option maxHeartbeats 4000000
open Go.RowKit
open Go.Proofs.Tryz
section
variable{p p':Qe}{N:Nat}{dep dep':Int→Nat}
theorem Qp.redep(h:Qp dep N p)(h0:dep' 0=0)(B:∀c∈p,c.id≠0→dep' c.id=dep c.id):Qp dep' N p:=by
 refine⟨h.nd,h.root,⟨h0,fun c hc h1=>?_⟩,h.tr,h.ok⟩;obtain⟨k1,⟨q,u⟩,J,E⟩:=h.up.2 c hc h1;have e1:=B c hc h1;obtain⟨k,d⟩:=Qe.at_mem u;have I:dep' c.par=dep c.par:=by
  by_cases z:c.par=0;·rw[z,h0,h.up.1]
  ·rw[←d];exact B q k (by rw[d];exact z)
 exact⟨k1,⟨q,u⟩,by rw[e1,I];exact J,by rw[e1];exact E⟩
theorem Qsl{i:Int}(h:p.at i=none):∀c∈p,c.id≠i:=Dx (key:=Qv.id) h
theorem Quq(x:Qv)(i:Int):Qe.at (p++[x]) i=(p.at i).or (if x.id=i then some x else none):=by
 unfold Qe.at;rw[List.find?_append];congr 1;rw[List.find?_cons];by_cases h:x.id=i;·simp[h]
 ·simp[h]
structure But(p p':Qe)(i:Int):Prop where
 oth:∀j,j≠i→(p'.at j).map (fun c=>(c.par,c.leaf,c.shares,c.fit))=(p.at j).map fun c=>(c.par,c.leaf,c.shares,c.fit)
 both:∀k q',p'.at k=some q'→(∃q,p.at k=some q∧q'.par=q.par∧q'.leaf=q.leaf∧q'.tree=q.tree∧∀j,j≠i→q'.mem.at j=q.mem.at j)∨(k=i∧q'.tree=[]∧(∀j,q'.mem.at j=none)∧p.at i=none)
 kids:p.at i=none∨p'.at i=none→∀j c,p'.at j=some c→0<j→c.par≠i
 off:p.awake i=false∧p'.awake i=false
 mem:∀k q',p'.at k=some q'→((q'.mem.at i).isSome=true↔∃c,p'.at i=some c∧0<i∧c.par=k∧c.shares=true)
 inn:∀c q,p'.at i=some c→p'.at c.par=some q→q.leaf=false
theorem But.fwd{i j:Int}(h:But p p' i)(d:j≠i){c:Qv}(hc:p.at j=some c):∃c',p'.at j=some c'∧c'.par=c.par∧c'.leaf=c.leaf∧c'.shares=c.shares∧c'.fit=c.fit:=by
 have:=h.oth j d;rw[hc]at this;cases h':p'.at j with
 |none=>rw[h']at this;cases this
 |some c'=> rw[h']at this;simp only[Option.map_some,Option.some.injEq,Prod.mk.injEq]at this;exact⟨c',rfl,this⟩
theorem But.back{i j:Int}(h:But p p' i)(d:j≠i){c:Qv}(hc:p'.at j=some c):∃c',p.at j=some c'∧c'.par=c.par∧c'.leaf=c.leaf∧c'.shares=c.shares∧c'.fit=c.fit:=by
 have:=h.oth j d;rw[hc]at this;cases h':p.at j with
 |none=>rw[h']at this;cases this
 |some c'=> rw[h']at this;simp only[Option.map_some,Option.some.injEq,Prod.mk.injEq]at this;exact⟨c',rfl,this.1.symm,this.2.1.symm,this.2.2.1.symm,this.2.2.2.symm⟩
theorem But.awake(ok:Qp dep N p)(I:Qp dep' N p'){i j:Int}(h:But p p' i)(E:j≠i):p'.awake j=p.awake j∧p'.v j=p.v j:=by
 cases hc:p.at j with
 |none=>
  have d:p'.at j=none:=by have:=h.oth j E;rw[hc]at this;simpa using this
  rw[Qe.awake_none hc,Qe.awake_none d,Qe.v_none hc,Qe.v_none d];exact⟨rfl,rfl⟩
 |some c=>
  obtain⟨c',d,e,_⟩:=h.fwd E hc;by_cases h0:0<j
  ·obtain⟨q,z⟩:=ok.par hc h0;obtain⟨R,k⟩:=I.par d h0;have B:=k;rw[e]at B;rw[Qe.awake_eq hc z h0,Qe.awake_eq d k h0,Qe.v_eq hc z h0,Qe.v_eq d k h0];rcases h.both c.par R B with⟨V,u,_,_,_,J⟩|⟨K,_,_,U⟩;·rw[z]at u;obtain rfl:=Option.some.inj u;exact Qcn (J j E)
   ·rw[K,U]at z;cases z
  ·rw[Qe.awake_neg h0,Qe.awake_neg h0,Qe.v_neg h0,Qe.v_neg h0];exact⟨rfl,rfl⟩
theorem But.path(ok:Qp dep N p)(z:Qp dep' N p'){i:Int}(h:But p p' i):∀(n:Nat)(L:Int),L<1∨((∃c,p.at L=some c)∧∃c,p'.at L=some c)→p'.path n L=p.path n L
 |0,_,_=>rfl
 |n+1,L,hL=>by
  rw[Qe.path,Qe.path];by_cases h1:L<1;·rw[if_pos h1,if_pos h1]
  ·rw[if_neg h1,if_neg h1];obtain⟨⟨c,hc⟩,c',d⟩:=hL.resolve_left h1;rw[hc,d];dsimp only;have e:c'.par=c.par:=by
    rcases h.both L c' d with⟨K,k,e,_⟩|⟨B,_,_,J⟩;·rw[hc]at k;obtain rfl:=Option.some.inj k;exact e
    ·rw[B,J]at hc;cases hc
   rw[e,But.path ok z h n c.par];obtain⟨q,E⟩:=ok.par hc (by omega);obtain⟨I,u⟩:=z.par d (by omega);rw[e]at u;exact .inr ⟨⟨q,E⟩,I,u⟩
theorem Uw.but(ok:Qp dep N p)(J:Qp dep' N p'){i:Int}(V:Uw p)(h:But p p' i):Uw p':=by
 refine⟨fun j k K z a b=>?_,fun k K z j=>?_,fun k d' K Z hk z=>?_,fun j B=>?_⟩
 ·by_cases B:j=i
  ·subst B;rw[h.off.2];refine⟨fun E=>?_,fun h=>by simp at h⟩;rcases h.both k K z with⟨q,R,_,_,ht,_⟩|⟨_,ht,_⟩;·rw[ht]at E;have:=((V.ent j k q R a b).1 E).2.1;rw[h.off.1]at this;cases this
   ·rw[ht]at E;cases E
  ·obtain⟨ha,ae⟩:=h.awake ok J B;rw[ha,ae];rcases h.both k K z with⟨q,R,_,_,ht,_⟩|⟨e,ht,_,hn⟩
   ·rw[ht,V.ent j k q R a b];refine and_congr_right fun _=>and_congr_right fun _=>and_congr_right fun _=>⟨fun⟨c,hc,h1,U⟩=>?_,fun⟨c',u,h1,U⟩=>?_⟩;·obtain⟨c',u,e1,_,_,I⟩:=h.fwd B hc;exact⟨c',u,e1.trans h1,U.trans I.symm⟩
    ·obtain⟨c,hc,e1,_,_,I⟩:=h.back B u;exact⟨c,hc,e1.trans h1,U.trans I.symm⟩
   ·rw[ht];refine⟨fun E=>(by cases E),fun⟨h0,_,_,c',u,h1,_⟩=>?_⟩;exact absurd (h1.trans e) (h.kids (.inl hn) j c' u h0)
 ·by_cases B:j=i;·subst B;exact h.mem k K z
  ·rcases h.both k K z with⟨q,R,_,_,_,E⟩|⟨e,_,E,hn⟩
   ·rw[E j B,V.memb k q R j];refine⟨fun⟨c,hc,h0,h1,U⟩=>?_,fun⟨c',u,h0,h1,U⟩=>?_⟩;·obtain⟨c',u,e1,_,I,_⟩:=h.fwd B hc;exact⟨c',u,h0,e1.trans h1,I.trans U⟩
    ·obtain⟨c,hc,e1,_,I,_⟩:=h.back B u;exact⟨c,hc,h0,e1.trans h1,I.trans U⟩
   ·rw[E j];refine⟨fun h=>by simp at h,fun⟨c',u,h0,h1,_⟩=>?_⟩;exact absurd (h1.trans e) (h.kids (.inl hn) j c' u h0)
 ·by_cases aa:k=i;·subst aa;exact h.inn d' K Z z
  ·obtain⟨d,hd,e,_⟩:=h.back aa Z;obtain⟨q,R⟩:=ok.par hd hk;rcases h.both d'.par K z with⟨q0,ac,_,hl,_⟩|⟨I,_,_,hn⟩;·rw[hl];exact V.inn k d q0 hd hk (by rw[e];exact ac)
   ·rw[e,I,hn]at R;cases R
 ·have af:j≠i:=fun e=>by rw[e,h.off.2]at B;cases B
  rw[(h.awake ok J af).1]at B;obtain⟨L,c,hc,hl,E,ha⟩:=V.low j B;have ab:L≠i:=fun e=>by rw[e,h.off.1]at ha;cases ha
  obtain⟨c',u,_,e,_⟩:=h.fwd ab hc;exact⟨L,c',u,e.trans hl,by rw[h.path ok J 9 L (.inr ⟨⟨c,hc⟩,c',u⟩)];exact E,by rw[(h.awake ok J ab).1];exact ha⟩
theorem El(i:Int):Qe.new.at i=if i=0 then some ⟨0,0,false,false,0,none,⟨[],0⟩,[],0⟩else none:=by
 unfold Qe.new Qe.at;rw[List.find?_cons];by_cases h:i=0;·simp[h]
 ·have:¬(0:Int)=i:=fun e=>h e.symm;simp[h,this]
theorem Qp.new(h0:dep 0=0):Qp dep N Qe.new:=by
 have d:∀c∈Qe.new,c=⟨0,0,false,false,0,none,⟨[],0⟩,[],0⟩:=fun c hc=>by simpa[Qe.new]using hc
 refine⟨by simp[Qe.new],⟨_,by rw[El,if_pos rfl],rfl⟩,⟨h0,fun c hc h=>?_⟩,fun q u e k=>?_,fun c hc=>?_⟩;·rw[d c hc]at h;exact absurd rfl h
 ·rw[d q u]at k;cases k
 ·rw[d c hc];exact⟨Nat.zero_le _,nofun,nofun,Nat.zero_le _,Nat.zero_le _,Nat.zero_le _⟩
theorem Qjv(j:Int):Qe.new.awake j=false:=by
 unfold Qe.awake;rw[El];split;·rfl
 ·rename_i c h;split at h;·rename_i e;subst e;rfl
  ·cases h
theorem Uw.new:Uw Qe.new:=by
 refine⟨fun j k q u a b=>?_,fun k q u j=>?_,fun k d q z E=>?_,fun j B=>?_⟩
 ·rw[Qjv];rw[El]at u;split at u;·obtain rfl:=Option.some.inj u;simp
  ·cases u
 ·rw[El]at u;split at u;·obtain rfl:=Option.some.inj u;refine⟨fun h=>by simp[Q9.at]at h,fun⟨c,hc,h0,_⟩=>?_⟩;rw[El,if_neg (by omega)]at hc;cases hc
  ·cases u
 ·rw[El,if_neg (by omega)]at z;cases z
 ·rw[Qjv]at B;cases B
theorem Qw8{s:Xm}{q:Qv}(h1:1≤s.id)(hn:p.at s.id=none)(z:p.at s.par=some q)(hl:q.leaf=false)(k:Int):
  (p.put s).at k=if k=s.par then some {q with mem:=if s.shares then q.mem.add s.id s.share else q.mem,under:=q.under+1}else if k=s.id then some (Xw s)else p.at k:=by
 rw[Qqu h1 hn z hl];have c:=(Qe.at_mem z).2;have d:Qe.at (p++[Xw s]) q.id=some q:=by rw[c];exact Qk7 z
 have:=Ks (x:={q with mem:=if s.shares then q.mem.add s.id s.share else q.mem,under:=q.under+1}) (y:=q) d k;rw[this];show(if k=q.id then _ else _)=_;rw[c];split;·rfl
 ·rw[Quq];by_cases u:k=s.id;·rw[u,hn,if_pos rfl];show(if s.id=s.id then some (Xw s)else none)=_;rw[if_pos rfl]
  ·have:(Xw s).id≠k:=fun e=>u e.symm;rw[if_neg u,if_neg this];cases p.at k<;>rfl
theorem Qp.put(E:Qp dep N p){s:Xm}{q:Qv}(h1:1≤s.id)(hn:p.at s.id=none)(z:p.at s.par=some q)(hl:q.leaf=false)(U:q.under<65536)
  (h0:dep' 0=0)(hd:∀c∈p,c.id≠0→dep' c.id=dep c.id)(hs:dep' s.id=dep' s.par+1)(h8:dep' s.id≤8):Qp dep' N (p.put s):=by
 have d:=E.redep h0 hd;have Z:=Qsl hn;have I:Qp dep' N (p++[Xw s]):=by
  have look:∀{i c},p.at i=some c→Qe.at (p++[Xw s]) i=some c:=fun h=>Qk7 h;refine⟨?_,?_,⟨h0,fun c hc ab=>?_⟩,fun x J e R=>?_,fun c hc=>?_⟩
  ·rw[List.map_append];refine List.nodup_append.2 ⟨d.nd,by simp,fun a ha b hb=>?_⟩;obtain⟨c,hc,rfl⟩:=List.mem_map.1 ha;obtain rfl:b=s.id:=by simpa[Xw]using hb
   exact Z c hc
  ·obtain⟨r,hr,aa⟩:=d.root;exact⟨r,look hr,aa⟩
  ·rcases List.mem_append.1 hc with hc|hc;·obtain⟨k1,⟨q,z⟩,k3⟩:=d.up.2 c hc ab;exact⟨k1,⟨q,look z⟩,k3⟩
   ·obtain rfl:c=Xw s:=by simpa using hc
    exact⟨h1,⟨q,look z⟩,hs,h8⟩
  ·rcases List.mem_append.1 J with J|J;·obtain⟨c,hc,k⟩:=d.tr x J e R;exact⟨c,look hc,k⟩
   ·obtain rfl:x=Xw s:=by simpa using J
    cases R
  ·rcases List.mem_append.1 hc with hc|hc;·exact d.ok c hc
   ·obtain rfl:c=Xw s:=by simpa using hc
    refine⟨Nat.zero_le _,fun r hr=>?_,nofun,Nat.zero_le _,Nat.zero_le _,Nat.zero_le _⟩;have u:Kq s.upper=some r:=hr;unfold Kq at u;split at u;·cases u
    ·obtain rfl:=Option.some.inj u;exact Nat.zero_le _
 rw[Qqu h1 hn z hl];obtain⟨V,ac⟩:=Qe.at_mem z;have B:Qe.at (p++[Xw s]) q.id=some q:=by rw[ac];exact Qk7 z
 have K:=E.ok q V;have kf:Yy N (if s.shares then q.mem.add s.id s.share else q.mem):=by
  split;·exact K.fam.add _ _
  ·exact K.fam
 exact I.set (Nat.le_refl _) (x:={q with mem:=if s.shares then q.mem.add s.id s.share else q.mem,under:=q.under+1}) (y:=q) B rfl rfl ⟨K.total,K.lim,kf.1,kf.2,K.tree,U⟩
  (fun e R=>I.tr q (Qe.at_mem B).1 e R)
theorem Uw.put(z:Qp dep N p)(hv:Uw p){s:Xm}{q:Qv}(h1:1≤s.id)(hn:p.at s.id=none)(J:p.at s.par=some q)(hl:q.leaf=false)(V:Qp dep' N (p.put s)):
  Uw (p.put s)∧(∀j,(p.put s).awake j=p.awake j):=by
 have u:=Qw8 h1 hn J hl;have U:s.par≠s.id:=fun e=>by rw[e,hn]at J;cases J
 have R:q.mem.at s.id=none:=by
  cases hx:q.mem.at s.id with
  |none=>rfl
  |some x=> obtain⟨c,hc,_⟩:=(hv.memb s.par q J s.id).1 (by rw[hx];rfl);rw[hn]at hc;cases hc
 have K:∀j,(if s.shares then q.mem.add s.id s.share else q.mem).at j=if j=s.id∧s.shares=true then some ⟨s.id,0,0,.new s.share,false⟩else q.mem.at j:=fun j=>by
  by_cases hs:s.shares=true;·rw[if_pos hs,Qw4];simp[R,hs]
  ·rw[if_neg hs,if_neg (fun h=>hs h.2)]
 have ab:∀j c,(p.put s).at j=some c→0<j→c.par≠s.id:=fun j c hc B=>by
  rw[u]at hc;split at hc;·obtain rfl:=Option.some.inj hc;rename_i e;obtain⟨r,hr⟩:=z.par J (by omega);rintro e2;dsimp only at e2;rw[e2,hn]at hr;cases hr
  ·split at hc;·obtain rfl:=Option.some.inj hc;exact U
   ·obtain⟨r,hr⟩:=z.par hc B;rintro e2;rw[e2,hn]at hr;cases hr
 have I:(p.put s).at s.id=some (Xw s):=by rw[u,if_neg (fun e=>U e.symm),if_pos rfl]
 have aa:(p.put s).at s.par=some {q with mem:=if s.shares then q.mem.add s.id s.share else q.mem,under:=q.under+1}:=by rw[u,if_pos rfl]
 have E:(p.put s).awake s.id=false:=by
  rw[Qe.awake_eq I (q:={q with mem:=if s.shares then q.mem.add s.id s.share else q.mem,under:=q.under+1}) aa h1];unfold Q9.up;dsimp only;rw[K];by_cases hs:s.shares=true;·rw[if_pos ⟨rfl,hs⟩];rfl
  ·rw[if_neg (fun h=>hs h.2),R];rfl
 have hb:But p (p.put s) s.id:=by
  refine⟨fun j B=>?_,fun k q' d=>?_,fun _=>ab,⟨Qe.awake_none hn,E⟩,fun k q' d=>?_,fun c r hc hr=>?_⟩
  ·rw[u,if_neg B];split;·rename_i e;rw[e,J];rfl
   ·rfl
  ·rw[u]at d;split at d
   ·rename_i e;obtain rfl:=Option.some.inj d;exact .inl ⟨q,by rw[e];exact J,rfl,rfl,rfl,fun j B=>by
     dsimp only;rw[K,if_neg (fun h=>B h.1)]⟩
   ·split at d;·rename_i e;obtain rfl:=Option.some.inj d;exact .inr ⟨e,rfl,fun _=>rfl,hn⟩
    ·exact .inl ⟨q',d,rfl,rfl,rfl,fun _ _=>rfl⟩
  ·rw[I];rw[u]at d;have hR:(∃c,some (Xw s)=some c∧0<s.id∧c.par=k∧c.shares=true)↔s.par=k∧s.shares=true:=⟨fun⟨c,hc,_,h2,h3⟩=>by
    obtain rfl:=Option.some.inj hc;exact⟨h2,h3⟩,fun h=>⟨_,rfl,h1,h.1,h.2⟩⟩
   rw[hR];split at d
   ·rename_i e;obtain rfl:=Option.some.inj d;dsimp only;rw[K];by_cases hs:s.shares=true;·simp[hs,e]
    ·simp[hs,R]
   ·rename_i e;have Z:¬(s.par=k∧s.shares=true):=fun h=>e h.1.symm;split at d;·obtain rfl:=Option.some.inj d;refine⟨fun h=>?_,fun h=>absurd h Z⟩;simp[Xw,Q9.at]at h
    ·refine⟨fun h=>?_,fun h=>absurd h Z⟩;obtain⟨c,hc,_⟩:=(hv.memb k q' d s.id).1 h;rw[hn]at hc;cases hc
  ·rw[I]at hc;obtain rfl:=Option.some.inj hc;have ac:(p.put s).at s.par=some r:=hr;rw[aa]at ac;obtain rfl:=Option.some.inj ac;exact hl
 refine⟨hv.but z V hb,fun j=>?_⟩;by_cases B:j=s.id;·rw[B,E,Qe.awake_none hn]
 ·exact(hb.awake z V B).1
theorem Qaf(i k:Int):Qe.at (p.filter fun x=>!decide (x.id=i)) k=if k=i then none else p.at k:=by
 unfold Qe.at;induction p with
 |nil=>simp
 |cons z l q=>
  rw[List.filter_cons];by_cases c:z.id=i
  ·simp only[c,decide_true,Bool.not_true,Bool.false_eq_true,if_false];rw[q,List.find?_cons];by_cases e:k=i;·rw[if_pos e,if_pos e]
   ·have:¬z.id=k:=fun d=>e (by rw[←d,c]);rw[if_neg e,if_neg e];simp only[this,decide_false]
  ·simp only[c,decide_false,Bool.not_false,if_true];rw[List.find?_cons,List.find?_cons];by_cases e:z.id=k;·have:¬k=i:=fun d=>c (by rw[e,d]);simp only[e,decide_true];rw[if_neg this]
   ·simp only[e,decide_false];exact q
theorem Qe2{i:Int}{c q:Qv}(h1:1≤i)(hc:p.at i=some c)(z:c.under=0)(ha:p.awake i=false)(u:p.at c.par=some q)(k:Int):
  (p.drop i).at k=if k=i then none else if k=c.par then some {q with mem:=q.mem.drop i,under:=q.under-1}else p.at k:=by
 rw[drop_eq h1 hc z ha u,Qaf];split;·rfl
 ·have d:=(Qe.at_mem u).2;have:=Ks (p:=p) (x:={q with mem:=q.mem.drop i,under:=q.under-1}) (y:=q) (show p.at q.id=_ by rw[d];exact u) k;rw[this];show(if k=q.id then _ else _)=_;rw[d]
theorem Qp.drop(I:Qp dep N p)(hv:Uw p){i:Int}{c q:Qv}(h1:1≤i)(hc:p.at i=some c)(hu:c.under=0)(ha:p.awake i=false)(J:p.at c.par=some q)(hk:∀j d,p.at j=some d→0<j→d.par≠i):Qp dep N (p.drop i):=by
 obtain⟨ab,R⟩:=Qe.at_mem J;have kq:=I.ok q ab;have kf:Yy N (q.mem.drop i):=kq.fam.drop i;have k:=I.set (Nat.le_refl N) (x:={q with mem:=q.mem.drop i,under:=q.under-1}) (y:=q) (show p.at q.id=_ by rw[R];exact J) rfl rfl ⟨kq.total,kq.lim,kf.1,kf.2,kq.tree,by have:=kq.under;dsimp only;omega⟩ (fun e U=>I.tr q ab e U);have aa:=Qe2 h1 hc hu ha J;rw[drop_eq h1 hc hu ha J]at aa⊢;generalize af:p.set {q with mem:=q.mem.drop i,under:=q.under-1}=V at k aa⊢;have E:∀j,V.at j=if j=c.par then some {q with mem:=q.mem.drop i,under:=q.under-1}else p.at j:=fun j=>by rw[←af,Ks (p:=p) (x:={q with mem:=q.mem.drop i,under:=q.under-1}) (y:=q) (show p.at q.id=_ by rw[R];exact J) j];show(if j=q.id then _ else _)=_;rw[R]
 have ac:∀j d,V.at j=some d→0<j→d.par≠i:=fun j d Z hj=>by
  rw[E]at Z;split at Z;·rename_i e;obtain rfl:=Option.some.inj Z;exact hk c.par q J (by omega)
  ·exact hk j d Z hj
 have B:∀x,x∈V.filter (fun x=>!decide (x.id=i))→x∈V∧x.id≠i:=fun x K=>by have:=List.mem_filter.1 K;exact⟨this.1,by simpa using this.2⟩
 refine⟨k.nd.sublist (List.filter_sublist.map _),?_,⟨k.up.1,fun x K ag=>?_⟩,fun x K e U=>?_,fun x K=>k.ok x (B x K).1⟩;·obtain⟨r,hr,ae⟩:=k.root;exact⟨r,by rw[Qaf,if_neg (by omega)];exact hr,ae⟩
 ·obtain⟨z,ah⟩:=B x K;obtain⟨k1,⟨r,hr⟩,k3⟩:=k.up.2 x z ag;have u:V.at x.id=some x:=Qe.at_of k.nd z;exact⟨k1,⟨r,by rw[Qaf,if_neg (ac x.id x u k1)];exact hr⟩,k3⟩
 ·obtain⟨z,ah⟩:=B x K;obtain⟨d,Z,k2,k3⟩:=k.tr x z e U;refine⟨d,?_,k2,k3⟩;rw[Qaf];split
  ·rename_i e2;exfalso;have u:V.at x.id=some x:=Qe.at_of k.nd z;obtain⟨a,j,b⟩:=e;dsimp only at e2 U;subst e2;rw[E]at u;split at u;·obtain rfl:=Option.some.inj u;have:=((hv.ent j c.par q J a b).1 U).2.1;rw[ha]at this;cases this
   ·have:=((hv.ent j x.id x u a b).1 U).2.1;rw[ha]at this;cases this
  ·exact Z
theorem Uw.drop(J:Qp dep N p)(hv:Uw p){i:Int}{c q:Qv}(h1:1≤i)(hc:p.at i=some c)(hu:c.under=0)(ha:p.awake i=false)(R:p.at c.par=some q)(Z:∀j d,p.at j=some d→0<j→d.par≠i):
  Uw (p.drop i)∧(∀j,(p.drop i).awake j=p.awake j):=by
 have V:=J.drop hv h1 hc hu ha R Z;have B:=Qe2 h1 hc hu ha R;have K:(p.drop i).at i=none:=by rw[B,if_pos rfl]
 have I:(p.drop i).awake i=false:=Qe.awake_none K;have aa:c.par≠i:=Z i c hc (by omega);have U:∀j d,(p.drop i).at j=some d→0<j→d.par≠i:=fun j d z E=>by
  rw[B]at z;split at z;·cases z
  ·split at z;·rename_i e;obtain rfl:=Option.some.inj z;exact Z c.par q R (by omega)
   ·exact Z j d z E
 have hb:But p (p.drop i) i:=by
  refine⟨fun j E=>?_,fun k q' u=>?_,fun _=>U,⟨ha,I⟩,fun k q' u=>?_,fun d r z hr=>by rw[K]at z;cases z⟩
  ·rw[B,if_neg E];split;·rename_i e;rw[e,R];rfl
   ·rfl
  ·rw[B]at u;split at u;·cases u
   ·split at u
    ·rename_i e;obtain rfl:=Option.some.inj u;exact .inl ⟨q,by rw[e];exact R,rfl,rfl,rfl,fun j E=>by
      dsimp only;rw[Qcl,if_neg E]⟩
    ·exact .inl ⟨q',u,rfl,rfl,rfl,fun _ _=>rfl⟩
  ·rw[K];refine⟨fun h=>?_,fun⟨d,z,_⟩=>by cases z⟩;rw[B]at u;split at u;·cases u
   ·split at u;·obtain rfl:=Option.some.inj u;dsimp only at h;rw[Qcl,if_pos rfl]at h;cases h
    ·rename_i e;obtain⟨d,z,_,h2,_⟩:=(hv.memb k q' u i).1 h;rw[hc]at z;obtain rfl:=Option.some.inj z;exact absurd h2.symm e
 refine⟨hv.but J V hb,fun j=>?_⟩;by_cases E:j=i;·rw[E,I,ha]
 ·exact(hb.awake J V E).1
theorem Qn8(B:Qp dep N p){s:Xm}{c q:Qv}(h1:1≤s.id)(hc:p.at s.id=some c)(ha:p.awake s.id=false)(J:p.at c.par=some q)(k:Int):
  (p.renew s).at k=if k=s.id then some (Vx c s)else if k=c.par then some {q with mem:=if s.shares then(q.mem.drop s.id).add s.id s.share else q.mem.drop s.id}else p.at k:=by
 obtain⟨z,d⟩:=B.pid hc (by omega) J;have I:=(Qe.at_mem hc).2;rw[Qg2 B h1 hc ha J];have e1:∀j,(p.set {q with mem:=q.mem.drop s.id}).at j=if j=c.par then some {q with mem:=q.mem.drop s.id}else p.at j:=fun j=>by rw[Ks (p:=p) (x:={q with mem:=q.mem.drop s.id}) (y:=q) (show p.at q.id=_ by rw[d];exact J) j];show(if j=q.id then _ else _)=_;rw[d]
 have K:s.id≠c.par:=fun e=>z (by rw[d,←e]);have R:∀j,((p.set {q with mem:=q.mem.drop s.id}).set (Vx c s)).at j=if j=s.id then some (Vx c s)else if j=c.par then some {q with mem:=q.mem.drop s.id}else p.at j:=fun j=>by rw[Ks (x:=Vx c s) (y:=c) (show Qe.at _ c.id=_ by rw[I,e1,if_neg K];exact hc) j];show(if j=c.id then _ else _)=_;rw[I,e1]
 split
 ·rw[Ks (x:={q with mem:=(q.mem.drop s.id).add s.id s.share}) (y:={q with mem:=q.mem.drop s.id}) (show Qe.at _ q.id=_ by rw[R q.id,if_neg z,if_pos d]) k];show(if k=q.id then _ else _)=_;rw[R];by_cases E:k=s.id;·rw[if_neg (fun e=>z (e.symm.trans E)),if_pos E,if_pos E]
  ·rw[if_neg E,if_neg E];by_cases u:k=c.par;·rw[if_pos (u.trans d.symm),if_pos u]
   ·rw[if_neg (fun e=>u (e.trans d)),if_neg u,if_neg u]
 ·exact R k
theorem Qp.renew(d:Qp dep N p){s:Xm}{c q:Qv}(h1:1≤s.id)(hc:p.at s.id=some c)(ha:p.awake s.id=false)(V:p.at c.par=some q):Qp dep N (p.renew s):=by
 obtain⟨U,u⟩:=d.pid hc (by omega) V;obtain⟨ab,I⟩:=Qe.at_mem hc;have R:=(Qe.at_mem V).1;rw[Qg2 d h1 hc ha V];have kq:=d.ok q R;have J:=d.set (Nat.le_refl N) (x:={q with mem:=q.mem.drop s.id}) (y:=q) (show p.at q.id=_ by rw[u];exact V) rfl rfl (kq.withMem (Nat.le_refl _) (kq.fam.drop _)) (fun e K=>d.tr q R e K);have e1:∀j,(p.set {q with mem:=q.mem.drop s.id}).at j=if j=c.par then some {q with mem:=q.mem.drop s.id}else p.at j:=fun j=>by rw[Ks (p:=p) (x:={q with mem:=q.mem.drop s.id}) (y:=q) (show p.at q.id=_ by rw[u];exact V) j];show(if j=q.id then _ else _)=_;rw[u]
 have aa:s.id≠c.par:=fun e=>U (by rw[u,←e]);generalize p.set {q with mem:=q.mem.drop s.id}=p1 at J e1⊢;have B:p1.at s.id=some c:=by rw[e1,if_neg aa];exact hc
 have Z:=d.ok c ab;have k:=J.set (Nat.le_refl N) (x:=Vx c s) (y:=c) (show p1.at c.id=_ by rw[I];exact B) rfl rfl ⟨Nat.zero_le _,fun r hr=>by
  have z:Kq s.upper=some r:=hr;unfold Kq at z;split at z;·cases z
  ·obtain rfl:=Option.some.inj z;exact Nat.zero_le _,Z.mem,Z.mark,Z.tree,Z.under⟩ (fun e K=>J.tr c (Qe.at_mem B).1 e K)
 have e2:∀j,(p1.set (Vx c s)).at j=if j=s.id then some (Vx c s)else p1.at j:=fun j=>by rw[Ks (x:=Vx c s) (y:=c) (show p1.at c.id=_ by rw[I];exact B) j];show(if j=c.id then _ else _)=_;rw[I]
 generalize p1.set (Vx c s)=p2 at k e2⊢;split
 ·have E:p2.at q.id=some {q with mem:=q.mem.drop s.id}:=by rw[e2 q.id,if_neg U,e1 q.id,if_pos u]
  have ac:=k.ok _ (Qe.at_mem E).1;exact k.set (Nat.le_refl N) (x:={q with mem:=(q.mem.drop s.id).add s.id s.share}) (y:={q with mem:=q.mem.drop s.id}) E rfl rfl (kq.withMem (Nat.le_refl _) ((kq.fam.drop _).add _ _)) (fun e K=>k.tr _ (Qe.at_mem E).1 e K)
 ·exact k
theorem Uw.renew(B:Qp dep N p)(hv:Uw p){s:Xm}{c q:Qv}(h1:1≤s.id)(hc:p.at s.id=some c)(ha:p.awake s.id=false)(V:p.at c.par=some q):
  Uw (p.renew s)∧(∀j,(p.renew s).awake j=p.awake j):=by
 have Z:=B.renew h1 hc ha V;have z:=Qn8 B h1 hc ha V;obtain⟨ae,af⟩:=B.pid hc (by omega) V;have ab:s.id≠c.par:=fun e=>ae (by rw[af,←e]);have I:(p.renew s).at s.id=some (Vx c s):=by rw[z,if_pos rfl]
 have K:(p.renew s).at c.par=some {q with mem:=if s.shares then(q.mem.drop s.id).add s.id s.share else q.mem.drop s.id}:=by rw[z,if_neg (Ne.symm ab),if_pos rfl]
 have R:∀j,(if s.shares then(q.mem.drop s.id).add s.id s.share else q.mem.drop s.id).at j=if j=s.id then(if s.shares=true then some ⟨s.id,0,0,.new s.share,false⟩else none)else q.mem.at j:=fun j=>by
  by_cases hs:s.shares=true
  ·rw[if_pos hs,Qw4,Qcl,Qcl];by_cases E:j=s.id;·simp[E,hs]
   ·simp[E]
  ·rw[if_neg hs,Qcl];simp[hs]
 have J:(p.renew s).awake s.id=false:=by
  rw[Qe.awake_eq I (q:={q with mem:=if s.shares then(q.mem.drop s.id).add s.id s.share else q.mem.drop s.id}) K h1];unfold Q9.up;dsimp only;rw[R,if_pos rfl];by_cases hs:s.shares=true;·rw[if_pos hs];rfl
  ·rw[if_neg hs];rfl
 have hb:But p (p.renew s) s.id:=by
  refine⟨fun j E=>?_,fun k q' u=>?_,fun h=>?_,⟨ha,J⟩,fun k q' u=>?_,fun d r U hr=>?_⟩
  ·rw[z,if_neg E];split;·rename_i e;rw[e,V];rfl
   ·rfl
  ·rw[z]at u;split at u;·rename_i e;obtain rfl:=Option.some.inj u;exact .inl ⟨c,by rw[e];exact hc,rfl,rfl,rfl,fun _ _=>rfl⟩
   ·split at u
    ·rename_i e;obtain rfl:=Option.some.inj u;exact .inl ⟨q,by rw[e];exact V,rfl,rfl,rfl,fun j E=>by
      dsimp only;rw[R,if_neg E]⟩
    ·exact .inl ⟨q',u,rfl,rfl,rfl,fun _ _=>rfl⟩
  ·rw[hc,I]at h;rcases h with h|h<;>cases h
  ·rw[I];have hR:(∃d,some (Vx c s)=some d∧0<s.id∧d.par=k∧d.shares=true)↔c.par=k∧s.shares=true:=⟨fun⟨d,U,_,h2,h3⟩=>by
    obtain rfl:=Option.some.inj U;exact⟨h2,h3⟩,fun h=>⟨_,rfl,h1,h.1,h.2⟩⟩
   rw[hR];by_cases hk:k=c.par
   ·rw[hk,K]at u;obtain rfl:=Option.some.inj u;dsimp only;rw[R,if_pos rfl];by_cases hs:s.shares=true;·simp[hs,hk]
    ·simp[hs]
   ·have ac:¬(c.par=k∧s.shares=true):=fun h=>hk h.1.symm;refine⟨fun h=>?_,fun h=>absurd h ac⟩;have:∀q0,p.at k=some q0→(q0.mem.at s.id).isSome=true→False:=fun q0 h0 hm=>by obtain⟨d,U,_,h2,_⟩:=(hv.memb k q0 h0 s.id).1 hm;rw[hc]at U;obtain rfl:=Option.some.inj U;exact hk h2.symm
    rw[z]at u;by_cases e:k=s.id;·rw[if_pos e]at u;obtain rfl:=Option.some.inj u;exact(this c (by rw[e];exact hc) h).elim
    ·rw[if_neg e,if_neg hk]at u;exact(this q' u h).elim
  ·rw[I]at U;obtain rfl:=Option.some.inj U;have aa:(p.renew s).at c.par=some r:=hr;rw[K]at aa;obtain rfl:=Option.some.inj aa;exact hv.inn s.id c q hc (by omega) V
 refine⟨hv.but B Z hb,fun j=>?_⟩;by_cases E:j=s.id;·rw[E,J,ha]
 ·exact(hb.awake B Z E).1
end
section
variable{s:Xm}
theorem Qld(h:s.mayE=0):s.named=true∧s.curvesB=true∧s.shapedB s.leaf=true∧s.sharedB=true∧s.under=true:=by
 unfold Xm.mayE at h;split at h;·cases h
 ·rename_i h1;split at h;·cases h
  ·rename_i q;split at h;·cases h
   ·rename_i d;split at h;·cases h
    ·rename_i c;split at h;·cases h
     ·rename_i k;exact⟨by simpa using h1,by simpa using q,by simpa using d,by simpa using c,by simpa using k⟩
theorem Qbk(h:s.mayE=0):1≤s.id∧s.id≤65535∧0≤s.par∧s.par≤65535∧s.id≠s.par:=by have:=(Qld h).1;unfold Xm.named inB at this;simp only[Bool.and_eq_true,decide_eq_true_eq]at this;obtain⟨⟨h1,c⟩,d⟩:=this;exact⟨h1.1,h1.2,c.1,c.2,d⟩
theorem Qhe(h:s.mayE=0):s.real.May∧s.share.May∧s.upper.May:=by have:=(Qld h).2.1;unfold Xm.curvesB at this;simpa only[Bool.and_eq_true,decide_eq_true_eq]using this
theorem Qhf(h:s.mayE=0)(hl:s.leaf=true):1≤s.pk∧s.pk≤4096∧1≤s.bt∧s.bt≤16777216:=by have:=(Qld h).2.2.1;rw[hl]at this;unfold Xm.shapedB inB at this;simp only[if_true,Bool.and_eq_true,decide_eq_true_eq]at this;obtain⟨_,h1,c⟩:=this;exact⟨h1.1,h1.2,c.1,c.2⟩
end
section
variable{h:Qm}
theorem Qhg{i:Int}(hn:h.at i=none):∀c∈h,c.sp.id≠i:=by simpa[Qm.at]using hn
theorem Dq(hs:Ld h){c:Kk}(hc:c∈h):h.at c.sp.id=some c:=by have hn:(h.map Kk.id).Nodup:=List.pairwise_map.2 (hs.imp fun{a b}d(e:a.sp.id=b.sp.id)=>by omega);exact Gs (key:=Kk.id) hn hc rfl
theorem Qyn(c:Kk)(hn:h.at c.sp.id=none)(k:Int):Qm.at (Qbb c h) k=if k=c.sp.id then some c else h.at k:=by
 have d:=Qhg hn;clear hn;unfold Qm.at;induction h with
 |nil=>
  rw[Qbb,List.find?_cons];by_cases e:k=c.sp.id;·simp[e]
  ·have:¬c.sp.id=k:=fun q=>e q.symm;simp[e,this]
 |cons x l u=>
  have u:=u fun y B=>d y (List.mem_cons_of_mem _ B);have z:=d x List.mem_cons_self;rw[Qbb];split
  ·rw[List.find?_cons];by_cases e:k=c.sp.id;·simp[e]
   ·have:¬c.sp.id=k:=fun q=>e q.symm;simp only[this,decide_false];rw[if_neg e]
  ·rw[List.find?_cons,List.find?_cons];by_cases e:x.sp.id=k;·have:¬k=c.sp.id:=fun q=>z (by rw[e,q]);simp only[e,decide_true];rw[if_neg this]
   ·simp only[e,decide_false];exact u
theorem Qyo(f:Kk→Kk)(hf:∀c,(f c).sp.id=c.sp.id)(i k:Int):Qm.at (h.map fun x=>if x.sp.id=i then f x else x) k=if k=i then(h.at i).map f else h.at k:=by
 unfold Qm.at;induction h with
 |nil=>simp
 |cons x l u=>
  rw[List.map_cons,List.find?_cons,List.find?_cons,List.find?_cons];by_cases d:x.sp.id=i
  ·rw[if_pos d];by_cases e:k=i;·simp[hf,d,e]
   ·have h1:¬(f x).sp.id=k:=fun q=>e (by rw[←q,hf,d]);have z:¬x.sp.id=k:=fun q=>e (by rw[←q,d]);simp only[h1,z,decide_false];rw[u,if_neg e,if_neg e]
  ·rw[if_neg d];by_cases e:x.sp.id=k;·have:¬k=i:=fun q=>d (by rw[e,q]);simp only[e,decide_true];rw[if_neg this]
   ·simp only[e,d,decide_false];exact u
theorem Qq4(i k:Int):Qm.at (h.filter fun x=>!decide (x.sp.id=i)) k=if k=i then none else h.at k:=by
 unfold Qm.at;induction h with
 |nil=>simp
 |cons z l q=>
  rw[List.filter_cons];by_cases c:z.sp.id=i
  ·simp only[c,decide_true,Bool.not_true,Bool.false_eq_true,if_false];rw[q,List.find?_cons];by_cases e:k=i;·rw[if_pos e,if_pos e]
   ·have:¬z.sp.id=k:=fun d=>e (by rw[←d,c]);rw[if_neg e,if_neg e];simp only[this,decide_false]
  ·simp only[c,decide_false,Bool.not_false,if_true];rw[List.find?_cons,List.find?_cons];by_cases e:z.sp.id=k;·have:¬k=i:=fun d=>c (by rw[e,d]);simp only[e,decide_true];rw[if_neg this]
   ·simp only[e,decide_false];exact q
structure Jd(h:Qm):Prop where
 sorted:Ld h
 may:∀c∈h,c.sp.mayE=0
 par:∀c∈h,(c.sp.par=0∧c.d=1)∨∃q,h.at c.sp.par=some q∧q.sp.leaf=false∧c.d=q.d+1
 dep:∀c∈h,1≤c.d∧c.d≤8
 many:h.length≤64
def J5(h:Qm)(i:Int):Nat:=match h.at i with
 |none=>0
 |some c=>c.d
theorem Kt{i:Int}{c:Kk}(hc:h.at i=some c):J5 h i=c.d:=by unfold J5;rw[hc]
theorem Hl{i:Int}(hc:h.at i=none):J5 h i=0:=by unfold J5;rw[hc]
theorem Jd.nil:Jd []:=⟨List.Pairwise.nil,nofun,nofun,nofun,Nat.zero_le _⟩
theorem Jd.pos(ok:Jd h){i:Int}{c:Kk}(hc:h.at i=some c):1≤i∧i≤65535∧0≤c.sp.par∧i≠c.sp.par∧c.sp.id=i∧c∈h:=by obtain⟨d,hi⟩:=Qm.at_mem hc;have:=Qbk (ok.may c d);rw[hi]at this;exact⟨this.1,this.2.1,this.2.2.1,this.2.2.2.2,hi,d⟩
theorem Jd.zero(ok:Jd h){i:Int}(hi:i<1):h.at i=none:=by
 cases hc:h.at i with
 |none=>rfl
 |some c=>have:=(ok.pos hc).1;omega
theorem Jd.nodup(ok:Jd h):(h.map Kk.id).Nodup:=List.pairwise_map.2 (ok.sorted.imp fun{a b}c(e:a.sp.id=b.sp.id)=>by omega)
theorem Qn9(ok:Jd h){par:Int}(c:h.depth par≠0):(par=0∧h.depth par=1)∨∃q,h.at par=some q∧q.sp.leaf=false∧h.depth par=q.d+1∧q.d<8:=by
 unfold Qm.depth at c⊢;split at c;·rename_i e;rw[if_pos e];exact .inl ⟨e,rfl⟩
 ·rename_i e;rw[if_neg e];cases k:h.at par with
  |none=>rw[k]at c;exact absurd rfl c
  |some q=>
   rw[k]at c;dsimp only at c⊢;split at c;·exact absurd rfl c
   ·rename_i d;rw[if_neg d];simp only[Bool.or_eq_true,decide_eq_true_eq,not_or,Bool.not_eq_true]at d;exact .inr ⟨q,rfl,d.1,rfl,by omega⟩
theorem Vt{s:Xm}(h0:h.addE s=0):s.mayE=0∧h.length<64∧h.at s.id=none∧h.depth s.par≠0:=by
 unfold Qm.addE at h0;split at h0;·cases h0
 ·rename_i h1;split at h0;·cases h0
  ·rename_i k;split at h0;·cases h0
   ·rename_i d;split at h0;·cases h0
    ·rename_i c;exact⟨by omega,by omega,by simpa using d,c⟩
theorem Qdo{s:Xm}(h0:h.addE s=0):h.add s=Qbb ⟨s,h.depth s.par⟩ h:=by unfold Qm.add;rw[if_pos h0]
theorem Qq5{s:Xm}(h0:h.addE s=0)(k:Int):(h.add s).at k=if k=s.id then some ⟨s,h.depth s.par⟩else h.at k:=by rw[Qdo h0];exact Qyn ⟨s,h.depth s.par⟩ (Vt h0).2.2.1 k
theorem Jd.add(ok:Jd h){s:Xm}(h0:h.addE s=0):Jd (h.add s):=by
 obtain⟨h1,V,I,R⟩:=Vt h0;have u:=Qq5 h0;have J:=Qn9 ok R;have B:=Qhg I;have E:s.par≠s.id:=fun e=>(Qbk h1).2.2.2.2 e.symm;rw[Qdo h0]at u⊢;have d:∀x,x∈Qbb ⟨s,h.depth s.par⟩ h→x∈h∨x=⟨s,h.depth s.par⟩:=fun x K=>by have:=(Gi ⟨s,h.depth s.par⟩ h).mem_iff.1 K;simpa using this
 refine⟨Qg3 _ ok.sorted B,fun c hc=>?_,fun c hc=>?_,fun c hc=>?_,?_⟩
 ·rcases d c hc with hc|rfl;·exact ok.may c hc
  ·exact h1
 ·rcases d c hc with hc|rfl
  ·refine(ok.par c hc).imp id fun⟨q,z,k⟩=>⟨q,?_,k⟩;rw[u,if_neg ?_];·exact z
   ·intro e;rw[e,I]at z;cases z
  ·refine J.imp (fun h=>h) fun⟨q,z,k1,k2,_⟩=>⟨q,?_,k1,k2⟩;show Qm.at _ s.par=_;rw[u,if_neg E];exact z
 ·rcases d c hc with hc|rfl;·exact ok.dep c hc
  ·rcases J with⟨_,e⟩|⟨q,z,_,e,U⟩;·show 1≤h.depth s.par∧h.depth s.par≤8;omega
   ·show 1≤h.depth s.par∧h.depth s.par≤8;omega
 ·have:=(Gi ⟨s,h.depth s.par⟩ h).length_eq;simp only[List.length_append,List.length_cons,List.length_nil]at this;omega
theorem Oj{s:Xm}(h0:h.changeE s=0):∃c,h.at s.id=some c∧(c.sp.renew s).mayE=0:=by
 unfold Qm.changeE at h0;cases hc:h.at s.id with
 |none=>rw[hc]at h0;cases h0
 |some c=>
  rw[hc]at h0;dsimp only at h0;split at h0;·cases h0
  ·rename_i e;exact⟨c,rfl,by omega⟩
theorem Qag{s:Xm}(h0:h.changeE s=0)(k:Int):(h.change s).at k=if k=s.id then(h.at s.id).map (fun x=>⟨x.sp.renew s,x.d⟩)else h.at k:=by unfold Qm.change;rw[if_pos h0];exact Qyo (fun x=>⟨x.sp.renew s,x.d⟩) (fun _=>rfl) s.id k
theorem Jd.change(ok:Jd h){s:Xm}(h0:h.changeE s=0):Jd (h.change s):=by
 obtain⟨K,z,I⟩:=Oj h0;have u:=Qag h0;unfold Qm.change at u⊢;rw[if_pos h0]at u⊢;have d:∀x,x∈(h.map fun x=>if x.sp.id=s.id then(⟨x.sp.renew s,x.d⟩:Kk)else x)→∃y∈h,x.d=y.d∧x.sp.par=y.sp.par∧x.sp.leaf=y.sp.leaf∧x.sp.mayE=0:=fun x R=>by
  obtain⟨y,k,rfl⟩:=List.mem_map.1 R;refine⟨y,k,?_⟩;by_cases e:y.sp.id=s.id
  ·rw[if_pos e];have:y=K:=by have h1:=Dq ok.sorted k;rw[e,z]at h1;exact(Option.some.inj h1).symm
   rw[this];exact⟨rfl,rfl,rfl,I⟩
  ·rw[if_neg e];exact⟨rfl,rfl,rfl,ok.may y k⟩
 refine⟨?_,fun c hc=>(d c hc).choose_spec.2.2.2.2,fun c hc=>?_,fun c hc=>?_,by rw[List.length_map];exact ok.many⟩
 ·refine List.pairwise_map.2 (ok.sorted.imp fun{a b}E=>?_);have e:∀x:Kk,(if x.sp.id=s.id then(⟨x.sp.renew s,x.d⟩:Kk)else x).sp.id=x.sp.id:=fun x=>by split<;>rfl
  rw[e,e];exact E
 ·obtain⟨y,k,e1,J,U,_⟩:=d c hc;rw[e1,J];refine(ok.par y k).imp id fun⟨q,B,k1,k2⟩=>?_;rw[u];split;·rename_i e;rw[e]at B;rw[B];exact⟨_,rfl,k1,k2⟩
  ·exact⟨q,B,k1,k2⟩
 ·obtain⟨y,k,e1,_⟩:=d c hc;rw[e1];exact ok.dep y k
theorem Qbl{i:Int}(h0:h.dropE i=0):∃c,h.at i=some c∧h.under i=[]:=by
 unfold Qm.dropE at h0;cases hc:h.at i with
 |none=>rw[hc]at h0;cases h0
 |some c=>
  rw[hc]at h0;dsimp only at h0;split at h0;·cases h0
  ·rename_i e;exact⟨c,rfl,by simpa using e⟩
theorem Qhh{i:Int}(d:h.under i=[]):∀c∈h,c.sp.par≠i:=fun c hc e=>by have:c.sp.id∈h.under i:=List.mem_map.2 ⟨c,List.mem_filter.2 ⟨hc,by simpa using e⟩,rfl⟩;rw[d]at this;cases this
theorem Qhi{i:Int}(h0:h.dropE i=0)(k:Int):(h.drop i).at k=if k=i then none else h.at k:=by unfold Qm.drop;rw[if_pos h0];exact Qq4 i k
theorem Jd.drop(ok:Jd h){i:Int}(h0:h.dropE i=0):Jd (h.drop i):=by obtain⟨K,B,I⟩:=Qbl h0;have u:=Qhi h0;have z:=Qhh I;unfold Qm.drop at u⊢;rw[if_pos h0]at u⊢;have d:∀x,x∈(h.filter fun x=>!decide (x.sp.id=i))→x∈h:=fun x J=>(List.mem_filter.1 J).1;refine⟨ok.sorted.filter _,fun c hc=>ok.may c (d c hc),fun c hc=>?_,fun c hc=>ok.dep c (d c hc),Nat.le_trans (List.length_filter_le _ _) ok.many⟩;refine(ok.par c (d c hc)).imp id fun⟨q,E,k⟩=>⟨q,?_,k⟩;rw[u,if_neg (z c (d c hc))];exact E
theorem Qoa(ok:Jd h):∀{n:Nat}{i j:Int}{c:Kk},J5 h i<n→j∈h.path n i→h.at j=some c→c.sp.par≠0→c.sp.par∈h.path n i
 |0,i,j,c,hd,_,_,_=>by omega
 |n+1,i,j,c,hd,d,hc,hp=>by
  rw[Qm.path]at d⊢;cases u:h.at i with
  |none=>rw[u]at d;cases d
  |some x=>
   rw[u]at d;dsimp only at d⊢;rw[Kt u]at hd;obtain⟨z,B⟩:=Qm.at_mem u;have key:x.sp.par≠0→∃q,h.at x.sp.par=some q∧x.d=q.d+1∧1≤q.d:=fun h0=>by
    rcases ok.par x z with h1|⟨q,k,_,E⟩;·exact absurd h1.1 h0
    ·exact⟨q,k,E,(ok.dep q (Qm.at_mem k).1).1⟩
   rcases List.mem_cons.1 d with rfl|d;·rw[u]at hc;obtain rfl:=Option.some.inj hc;obtain⟨q,k,e,e1⟩:=key hp;refine List.mem_cons_of_mem _ ?_;obtain⟨m,rfl⟩:∃m,n=m+1:=⟨n-1,by omega⟩;rw[Qm.path,k];exact List.mem_cons_self
   ·by_cases h0:x.sp.par=0
    ·have I:=ok.zero (i:=x.sp.par) (by omega);cases n with
     |zero=>rw[Qm.path]at d;cases d
     |succ m=>rw[Qm.path,I]at d;cases d
    ·obtain⟨q,k,e,e1⟩:=key h0;refine List.mem_cons_of_mem _ (Qoa ok ?_ d hc hp);rw[Kt k];omega
theorem Yb{id x:Int}:x∈h.leaves id↔∃c∈h,c.sp.id=x∧c.sp.leaf=true∧(id=0∨id∈h.path 9 x):=by
 unfold Qm.leaves Qm.below;constructor;·intro q;obtain⟨c,hc,rfl⟩:=List.mem_map.1 q;obtain⟨h1,d⟩:=List.mem_filter.1 hc;simp only[Bool.and_eq_true,Bool.or_eq_true,decide_eq_true_eq,List.contains_iff_mem]at d;exact⟨c,h1,rfl,d.1,d.2⟩
 ·rintro⟨c,hc,rfl,hl,k⟩;refine List.mem_map.2 ⟨c,List.mem_filter.2 ⟨hc,?_⟩,rfl⟩;simp only[Bool.and_eq_true,Bool.or_eq_true,decide_eq_true_eq,List.contains_iff_mem];exact⟨hl,k⟩
theorem Kv(ok:Jd h)(id:Int):(h.leaves id).Pairwise (· < ·):=by unfold Qm.leaves;exact List.pairwise_map.2 (ok.sorted.filter _)
end
structure Kj(h:Qm)(p:Qe):Prop where
 root:∃r,p.at 0=some r∧r.leaf=false∧r.under=(h.under 0).length
 cls:∀i,i≠0→(p.at i).map (fun x=>(x.par,x.leaf,x.shares,x.under))=(h.at i).map fun c=>(c.sp.par,c.sp.leaf,c.sp.shares,(h.under i).length)
section
variable{h:Qm}{p p':Qe}{N M:Nat}{dep:Int→Nat}
theorem Kj.fwd(m:Kj h p)(ok:Jd h){i:Int}{c:Kk}(hc:h.at i=some c):∃x,p.at i=some x∧x.par=c.sp.par∧x.leaf=c.sp.leaf∧x.shares=c.sp.shares∧x.under=(h.under i).length:=by
 have h0:=(ok.pos hc).1;have:=m.cls i (by omega);rw[hc]at this;cases d:p.at i with
 |none=>rw[d]at this;cases this
 |some x=> rw[d]at this;simp only[Option.map_some,Option.some.injEq,Prod.mk.injEq]at this;exact⟨x,rfl,this⟩
theorem Kj.back(m:Kj h p){i:Int}(hi:i≠0){x:Qv}(d:p.at i=some x):∃c,h.at i=some c∧x.par=c.sp.par∧x.leaf=c.sp.leaf∧x.shares=c.sp.shares∧x.under=(h.under i).length:=by
 have:=m.cls i hi;rw[d]at this;cases hc:h.at i with
 |none=>rw[hc]at this;cases this
 |some c=> rw[hc]at this;simp only[Option.map_some,Option.some.injEq,Prod.mk.injEq]at this;exact⟨c,rfl,this⟩
theorem Kj.no(m:Kj h p){i:Int}(hi:i≠0)(hn:h.at i=none):p.at i=none:=by have:=m.cls i hi;rw[hn]at this;simpa using this
theorem Kj.path(m:Kj h p)(ok:Jd h):∀(n:Nat)(i:Int),p.path n i=h.path n i
 |0,_=>rfl
 |n+1,i=>by
  rw[Qe.path,Qm.path];by_cases hi:i<1;·rw[if_pos hi,ok.zero hi]
  ·rw[if_neg hi];cases hc:h.at i with
   |none=>rw[m.no (by omega) hc]
   |some c=> obtain⟨x,d,e,_⟩:=m.fwd ok hc;rw[d];dsimp only;rw[e,m.path ok n]
theorem Kj.par(m:Kj h p)(ok:Jd h){c:Kk}(hc:c∈h):∃q,p.at c.sp.par=some q∧q.leaf=false∧q.under=(h.under c.sp.par).length:=by
 rcases ok.par c hc with⟨e,_⟩|⟨q,z,hl,_⟩;·rw[e];exact m.root
 ·obtain⟨x,k,_,u,_,d⟩:=m.fwd ok z;exact⟨x,k,u.trans hl,d⟩
theorem Kj.same(m:Kj h p)(hs:Z5 p p')(B:Vd p p'):Kj h p':=by
 have u:∀i,(p'.at i).map Qv.under=(p.at i).map Qv.under:=fun i=>by
  have:=B i 0;cases c:p.at i with
  |none=>rw[hs.none c]
  |some x=> obtain⟨y,k,_⟩:=hs.get c;rw[c,k]at this;simp only[Option.map_some,Option.some.injEq,Prod.mk.injEq]at this;rw[k];simp[this.2]
 refine⟨?_,fun i hi=>?_⟩;·obtain⟨r,hr,hl,E⟩:=m.root;obtain⟨I,d,_,q,_⟩:=hs.get hr;have:=u 0;rw[hr,d]at this;simp only[Option.map_some,Option.some.injEq]at this;exact⟨I,d,q.trans hl,this.trans E⟩
 ·rw[←m.cls i hi];have:=u i;cases c:p.at i with
  |none=>rw[hs.none c]
  |some x=> obtain⟨y,k,e1,q,z⟩:=hs.get c;rw[c,k]at this;simp only[Option.map_some,Option.some.injEq]at this;rw[k];simp[this,e1,q,z]
theorem Kj.new:Kj [] Qe.new:=by refine⟨⟨_,by rw[El,if_pos rfl],rfl,rfl⟩,fun i hi=>?_⟩;rw[El,if_neg hi];rfl
theorem Qdp(h:Qm)(i:Int):(h.under i).length≤h.length:=by unfold Qm.under;rw[List.length_map];exact List.length_filter_le _ _
theorem Em(x:Int):∀l:List Int,(Qci x l).length=l.length+1
 |[]=>rfl
 |y::l=>by
  rw[Qci];split;·rfl
  ·simp[Em x l]
theorem Qob(ok:Jd h){i:Int}(hi:i≠0)(hn:h.at i=none):h.under i=[]:=by
 unfold Qm.under;rw[List.map_eq_nil_iff,List.filter_eq_nil_iff];intro c hc e;simp only[decide_eq_true_eq]at e;rcases ok.par c hc with⟨k,_⟩|⟨q,d,_⟩;·exact hi (e.symm.trans k)
 ·rw[e,hn]at d;cases d
theorem Kj.add(m:Kj h p)(ok:Jd h){s:Xm}(h0:h.addE s=0):
  ∃q,p.at s.par=some q∧q.leaf=false∧q.under≤64∧p.at s.id=none∧1≤s.id∧Kj (h.add s) (p.put s)∧
   J5 (h.add s) 0=0∧J5 (h.add s) s.id=J5 (h.add s) s.par+1∧J5 (h.add s) s.id≤8∧∀i,i≠s.id→J5 (h.add s) i=J5 h i:=by
 obtain⟨h1,h2,h3,h4⟩:=Vt h0;obtain⟨i1,i2,i3,i4,i5⟩:=Qbk h1;have hn:=m.no (by omega) h3;have z:=Qq5 h0;have hd:=Qn9 ok h4;have R:=ok.add h0;have u:∃q,p.at s.par=some q∧q.leaf=false∧q.under=(h.under s.par).length:=by
  rcases hd with⟨e,_⟩|⟨q,u,hl,_⟩;·rw[e];exact m.root
  ·obtain⟨x,J,_,d,_,e3⟩:=m.fwd ok u;exact⟨x,J,d.trans hl,e3⟩
 obtain⟨q,u,hl,I⟩:=u;have K:∀k,(h.add s).under k=if s.par=k then Qci s.id (h.under k)else h.under k:=fun k=>by rw[Qdo h0];exact Qdj ⟨s,h.depth s.par⟩ k ok.sorted
 have B:=Qw8 i1 hn u hl;have E:∀i,i≠s.id→J5 (h.add s) i=J5 h i:=fun i hi=>by unfold J5;rw[z,if_neg hi]
 refine⟨q,u,hl,by rw[I];exact Nat.le_trans (Qdp _ _) (by omega),hn,i1,⟨?_,fun i hi=>?_⟩,?_,?_,?_,E⟩
 ·by_cases e:s.par=0;·refine⟨{q with mem:=if s.shares then q.mem.add s.id s.share else q.mem,under:=q.under+1},by rw[B,if_pos e.symm],hl,?_⟩;rw[K,if_pos e,Em,←e,←I]
  ·obtain⟨r,hr,U,Z⟩:=m.root;refine⟨r,by rw[B,if_neg (Ne.symm e),if_neg (by omega)];exact hr,U,?_⟩;rw[K,if_neg e,Z]
 ·rw[B,z,K];by_cases e:i=s.par
  ·have V:s.par≠s.id:=fun e=>i5 e.symm;subst e;rw[if_pos rfl,if_neg (c:=s.par=s.id) V,if_pos rfl,Em];have hc:=m.cls s.par hi;rw[u]at hc;cases J:h.at s.par with
   |none=>rw[J]at hc;cases hc
   |some c=> rw[J]at hc;simp only[Option.map_some,Option.some.injEq,Prod.mk.injEq]at hc;simp[hc.1,hc.2.1,hc.2.2.1,hc.2.2.2]
  ·rw[if_neg e,if_neg (Ne.symm e)];by_cases d:i=s.id;·rw[if_pos d,if_pos d,d,Qob ok (by omega) h3];rfl
   ·rw[if_neg d,if_neg d];exact m.cls i hi
 ·exact Hl (R.zero (by decide))
 ·rw[Kt (by rw[z,if_pos rfl]),E s.par (fun e=>i5 e.symm)];rcases hd with⟨e,d⟩|⟨q,u,_,d,_⟩;·show h.depth s.par=_;rw[d,e,Hl (ok.zero (by decide))]
  ·show h.depth s.par=_;rw[d,Kt u]
 ·rw[Kt (by rw[z,if_pos rfl])];rcases hd with⟨e,d⟩|⟨q,u,_,d,_⟩;·show h.depth s.par≤8;omega
  ·show h.depth s.par≤8;omega
theorem Kj.renew(m:Kj h p)(ok:Jd h)(J:Qp dep N p){s:Xm}(h0:h.changeE s=0)(ha:p.awake s.id=false):
  ∃c q,p.at s.id=some c∧1≤s.id∧p.at c.par=some q∧Kj (h.change s) (p.renew s)∧∀i,J5 (h.change s) i=J5 h i:=by
 obtain⟨c0,d,hm⟩:=Oj h0;obtain⟨R,_,_,i4,i5,i6⟩:=ok.pos d;obtain⟨c,hc,e1,Z,e3,e4⟩:=m.fwd ok d;obtain⟨q,u⟩:=J.par hc (by omega);have B:=Qag h0;have z:=Qn8 J R hc ha u;have K:∀k,(h.change s).under k=h.under k:=fun k=>by unfold Qm.change;rw[if_pos h0];exact Qei h s k
 have V:c.par≠s.id:=by rw[e1];exact fun e=>i4 e.symm
 refine⟨c,q,hc,R,u,⟨?_,fun i hi=>?_⟩,fun i=>?_⟩
 ·obtain⟨r,hr,E,I⟩:=m.root;rw[K];by_cases e:0=c.par
  ·refine⟨{q with mem:=if s.shares then(q.mem.drop s.id).add s.id s.share else q.mem.drop s.id},by rw[z,if_neg (by omega),if_pos e],?_,?_⟩;·rw[←e,hr]at u;obtain rfl:=Option.some.inj u;exact E
   ·rw[←e,hr]at u;obtain rfl:=Option.some.inj u;exact I
  ·exact⟨r,by rw[z,if_neg (by omega),if_neg e];exact hr,E,I⟩
 ·rw[z,B,K];by_cases e:i=s.id;·rw[if_pos e,if_pos e,d,e];simp only[Option.map_some,Option.some.injEq,Prod.mk.injEq];exact⟨e1,Z,rfl,e4⟩
  ·rw[if_neg e,if_neg e];split;·rename_i U;have:=m.cls i hi;rw[U,u]at this;rw[U,←this];rfl
   ·exact m.cls i hi
 ·unfold J5;rw[B];by_cases e:i=s.id;·rw[if_pos e,e,d];rfl
  ·rw[if_neg e]
theorem Qur{i:Int}{c:Kk}(hc:c∈h)(hi:c.sp.par=i):1≤(h.under i).length:=by have:c.sp.id∈h.under i:=List.mem_map.2 ⟨c,List.mem_filter.2 ⟨hc,by simpa using hi⟩,rfl⟩;exact List.length_pos_of_mem this
theorem Kj.drop(m:Kj h p)(ok:Jd h)(ag:Qp dep N p){i:Int}(h0:h.dropE i=0)(ha:p.awake i=false):
  ∃c q,p.at i=some c∧1≤i∧c.under=0∧p.at c.par=some q∧1≤q.under∧(∀j d,p.at j=some d→0<j→d.par≠i)∧Kj (h.drop i) (p.drop i)∧∀j,j≠i→J5 (h.drop i) j=J5 h j:=by
 obtain⟨c0,J,U⟩:=Qbl h0;obtain⟨i1,_,_,i4,i5,i6⟩:=ok.pos J;obtain⟨c,hc,e1,e2,e3,e4⟩:=m.fwd ok J;obtain⟨q,K,ah,R⟩:=m.par ok i6;rw[←e1]at K;have ab:c.under=0:=by rw[e4,U];rfl
 have I:=Qhi h0;have B:=Qe2 i1 hc ab ha K;have aa:∀j d,p.at j=some d→0<j→d.par≠i:=fun j d hd hj e=>by obtain⟨d0,Gk,k1,_⟩:=m.back (by omega) hd;exact Qhh U d0 (Qm.at_mem Gk).1 (k1.symm.trans e)
 have hu:∀k,(h.drop i).under k=(h.under k).filter fun y=>!decide (y=i):=fun k=>by unfold Qm.drop;rw[if_pos h0];exact Lf h i k
 have E:∀k,k≠c.par→(h.drop i).under k=h.under k:=fun k hk=>by rw[hu k];rw[←Lf];exact Qej ok.nodup J (by rw[←e1];exact hk)
 have Z:((h.drop i).under c.par).length=q.under-1:=by
  rw[hu,R,e1];have u:i∈h.under c0.sp.par:=List.mem_map.2 ⟨c0,List.mem_filter.2 ⟨i6,by simp⟩,i5⟩;have hs:=Le ok.sorted c0.sp.par;generalize h.under c0.sp.par=l at u hs;clear hu E B I;induction l with
  |nil=>cases u
  |cons y l ih=>
   rw[List.filter_cons];have ac:=List.pairwise_cons.1 hs;by_cases e:y=i
   ·have:l.filter (fun y=>!decide (y=i))=l:=List.filter_eq_self.2 fun z hz=>by
     have:=ac.1 z hz;have:z≠i:=by omega
     simpa using this
    simp[e,this]
   ·have hm:i∈l:=(List.mem_cons.1 u).resolve_left (fun e'=>e e'.symm);have:=ih hm ac.2;have hp:1≤l.length:=List.length_pos_of_mem hm;simp only[e,decide_false,Bool.not_false,if_true,List.length_cons];omega
 have ae:1≤q.under:=by rw[R];exact Qur i6 rfl
 refine⟨c,q,hc,i1,ab,K,ae,aa,⟨?_,fun k hk=>?_⟩,fun j hj=>?_⟩
 ·obtain⟨r,hr,V,af⟩:=m.root;by_cases e:0=c.par
  ·refine⟨{q with mem:=q.mem.drop i,under:=q.under-1},by rw[B,if_neg (by omega),if_pos e],?_,?_⟩;·rw[←e,hr]at K;obtain rfl:=Option.some.inj K;exact V
   ·rw[e];exact Z.symm
  ·exact⟨r,by rw[B,if_neg (by omega),if_neg e];exact hr,V,by rw[E 0 e];exact af⟩
 ·rw[B,I];by_cases e:k=i;·rw[if_pos e,if_pos e];rfl
  ·rw[if_neg e,if_neg e];split
   ·rename_i e5;have:=m.cls k hk;rw[e5,K]at this;rw[e5,Z];cases hx:h.at c.par with
    |none=>rw[hx]at this;cases this
    |some x=> rw[hx]at this;simp only[Option.map_some,Option.some.injEq,Prod.mk.injEq]at this;simp[this.1,this.2.1,this.2.2.1]
   ·rename_i e5;rw[E k e5];exact m.cls k hk
 ·unfold J5;rw[I,if_neg hj]
end
section
variable{X:Type}{key:X→Int}{l:List X}
theorem Qle{x y:X}(h:Vp key (key x) l=some y)(k:Int):Vp key k (Dc key x l)=if k=key x then some x else Vp key k l:=by
 unfold Vp Dc at*;induction l with
 |nil=>cases h
 |cons z l E=>
  rw[List.map_cons,List.find?_cons,List.find?_cons];rw[List.find?_cons]at h;by_cases q:key z=key x
  ·rw[if_pos q];by_cases e:k=key x;·simp[e]
   ·have h1:¬key x=k:=fun c=>e c.symm;have J:¬key z=k:=fun c=>e (by rw[←c,q]);simp only[h1,J,decide_false];rw[if_neg e];clear h E;induction l with
    |nil=>rfl
    |cons u l d=>
     rw[List.map_cons,List.find?_cons,List.find?_cons];by_cases B:key u=key x;·rw[if_pos B];have K:¬key u=k:=fun c=>e (by rw[←c,B]);simp only[h1,K,decide_false];exact d
     ·rw[if_neg B];by_cases I:key u=k;·simp only[I,decide_true]
      ·simp only[I,decide_false];exact d
  ·rw[if_neg q];simp only[q,decide_false]at h;by_cases e:key z=k;·have:¬k=key x:=fun c=>q (by rw[e,c]);simp only[e,decide_true];rw[if_neg this]
   ·simp only[e,decide_false];exact E h
theorem Qe3(x:X)(k:Int):Vp key k (l++[x])=(Vp key k l).or (if key x=k then some x else none):=by unfold Vp;rw[List.find?_append];congr 1;rw[List.find?_cons];by_cases h:key x=k<;>simp[h]
theorem Qoc(i k:Int):Vp key k (Yw key i l)=if k=i then none else Vp key k l:=by
 unfold Vp Yw;induction l with
 |nil=>simp
 |cons z l q=>
  rw[List.filter_cons];by_cases c:key z=i
  ·simp only[c,decide_true,Bool.not_true,Bool.false_eq_true,if_false];rw[q,List.find?_cons];by_cases e:k=i;·rw[if_pos e,if_pos e]
   ·have:¬key z=k:=fun d=>e (by rw[←d,c]);rw[if_neg e,if_neg e];simp only[this,decide_false]
  ·simp only[c,decide_false,Bool.not_false,if_true];rw[List.find?_cons,List.find?_cons];by_cases e:key z=k;·have:¬k=i:=fun d=>c (by rw[e,d]);simp only[e,decide_true];rw[if_neg this]
   ·simp only[e,decide_false];exact q
theorem Qus(x:X):(Dc key x l).map key=l.map key:=by
 unfold Dc;rw[List.map_map];refine List.map_congr_left fun y _=>?_;simp only[Function.comp];split;·rename_i h;exact h.symm
 ·rfl
theorem Qsm{f:X→X}(hf:∀x,key (f x)=key x)(k:Int):Vp key k (l.map f)=(Vp key k l).map f:=by
 unfold Vp;induction l with
 |nil=>rfl
 |cons z l c=>
  rw[List.map_cons,List.find?_cons,List.find?_cons,hf];by_cases h:key z=k;·simp[h]
  ·simp only[h,decide_false];exact c
end
structure Qdq(N:Nat)(h:Qm)(p:Qe)(l:Qy):Prop where
 sp:∃c,h.at l.id=some c∧c.sp.leaf=true∧(l.pk:Int)=c.sp.pk∧(l.bt:Int)=c.sp.bt∧l.debt.isSome=!c.sp.real.none∧p.awake l.id=(c.sp.shares&&decide (l.q≠[]))
 many:l.q.length≤l.pk
 held:Q0 l.q≤l.bt
 good:∀x∈l.q,Uc x∧x.cls=l.id
 debt:∀d,l.debt=some d→d.got≤Jz∧d.run.l.length≤N∧d.awake=decide (l.q≠[])
def Qz0(leaves:List Qy)(row:List J6):Prop:=∀a i b,(a,i,b)∈row↔∃l d,Vp Qy.id i leaves=some l∧l.debt=some d∧d.awake=true∧a=d.elig∧b=d.due
structure X6(N:Nat)(s:Qg):Prop where
 most:1≤s.most∧s.most<65536
 tree:Jd s.tree
 pick:Qp (J5 s.tree) N s.pick
 pinv:Uw s.pick
 mt:Kj s.tree s.pick
 nd:(s.leaves.map Qy.id).Nodup
 lv:∀i c,s.tree.at i=some c→c.sp.leaf=true→∃l,s.leaf i=some l
 ok:∀l∈s.leaves,Qdq N s.tree s.pick l
 row:Qz0 s.leaves s.row
section
variable{N M:Nat}{s:Qg}
theorem X6.at(h:X6 N s){i:Int}{l:Qy}(hl:s.leaf i=some l):Qdq N s.tree s.pick l∧l.id=i∧l∈s.leaves:=by obtain⟨c,hi⟩:=Yh (key:=Qy.id) hl;exact⟨h.ok l c,hi,c⟩
theorem X6.leaf_of(h:X6 N s){l:Qy}(hl:l∈s.leaves):s.leaf l.id=some l:=Gs (key:=Qy.id) h.nd hl rfl
theorem Qdq.more{h:Qm}{p:Qe}{l:Qy}(k:Qdq N h p l)(q:N≤M):Qdq M h p l:=⟨k.sp,k.many,k.held,k.good,fun d c=>⟨(k.debt d c).1,Nat.le_trans (k.debt d c).2.1 q,(k.debt d c).2.2⟩⟩
theorem X6.more(h:X6 N s)(c:N≤M):X6 M s:=⟨h.most,h.tree,h.pick.more c,h.pinv,h.mt,h.nd,h.lv,fun l hl=>(h.ok l hl).more c,h.row⟩
theorem X6.new{most:Int}(h1:1≤most)(k:most<65536):X6 N (Qg.new most):=
 ⟨⟨h1,k⟩,Jd.nil,Qp.new rfl,Uw.new,Kj.new,List.nodup_nil,fun i c hc=>(by cases hc),nofun,fun a i b=>⟨fun h=>(by cases h),fun⟨l,d,h,_⟩=>(by cases h)⟩⟩
theorem Qsn:∀{l:List Int}{x:Int},(∀y∈l,0≤y)→x∈l→0<x→0<l.sum
 |y::l,x,h,k,h0=>by
  rw[List.sum_cons];have c:=h y List.mem_cons_self;have d:∀{l:List Int},(∀y∈l,0≤y)→0≤l.sum:=fun{l}h=>by
   induction l with
   |nil=>simp
   |cons z l q=>rw[List.sum_cons];have:=h z List.mem_cons_self;have:=q fun y c=>h y (List.mem_cons_of_mem _ c);omega
  rcases List.mem_cons.1 k with rfl|k;·have:=d fun y c=>h y (List.mem_cons_of_mem _ c);omega
  ·have:=Qsn (fun y c=>h y (List.mem_cons_of_mem _ c)) k h0;omega
theorem Qod{id x:Int}(d:x∈s.tree.leaves id)(k:s.qOf x≠[]):0<s.many id:=by
 unfold Qg.many;refine Qsn (x:=((s.qOf x).length:Int)) (fun y c=>?_) (List.mem_map.2 ⟨x,d,rfl⟩) ?_;·obtain⟨z,_,rfl⟩:=List.mem_map.1 c;omega
 ·have:=List.length_pos_iff.2 k;omega
theorem U8{i:Int}{l:Qy}(h:s.leaf i=some l):s.qOf i=l.q:=by unfold Qg.qOf;rw[h];rfl
theorem X6.busy(h:X6 N s){L:Int}{x:Qv}(u:s.pick.at L=some x)(hl:x.leaf=true)(ha:s.pick.awake L=true):∃c l,s.tree.at L=some c∧c.sp.leaf=true∧s.leaf L=some l∧l.q≠[]:=by
 have h0:L≠0:=fun e=>by obtain⟨r,hr,q,_⟩:=h.mt.root;rw[e,hr]at u;obtain rfl:=Option.some.inj u;rw[q]at hl;cases hl
 obtain⟨c,hc,_,z,_⟩:=h.mt.back h0 u;obtain⟨l,d⟩:=h.lv L c hc (z.symm.trans hl);obtain⟨k,I,_⟩:=h.at d;obtain⟨c',E,_,_,_,_,B⟩:=k.sp;refine⟨c,l,hc,z.symm.trans hl,d,?_⟩;rw[I,ha]at B;have:=B.symm;simp only[Bool.and_eq_true,decide_eq_true_eq]at this;exact this.2
theorem X6.asleep(h:X6 N s){i:Int}(E:¬0<s.many i):s.pick.awake i=false:=by
 cases ha:s.pick.awake i with
 |false=>rfl
 |true=> obtain⟨L,x,J,hl,B,d⟩:=h.pinv.low i ha;obtain⟨c,l,hc,q,k,I⟩:=h.busy J hl d;rw[h.mt.path h.tree]at B;obtain⟨u,z⟩:=Qm.at_mem hc;exact absurd (Qod (Yb.2 ⟨c,u,z,q,.inr B⟩) (by rw[U8 k];exact I)) E
theorem X6.add(h:X6 N s){c:Xm}(h0:s.addE c=0):X6 N (s.add c):=by
 have B:s.tree.addE c=0:=h0;obtain⟨q,hq,ae,ag,hn,i1,mt,d0,d1,d8,dd⟩:=h.mt.add h.tree B;have U:=Qq5 B;have V:=(Vt B).2.2.1;have may:=(Vt B).1;have ac:Qp (J5 (s.tree.add c)) N (s.pick.put c):=h.pick.put i1 hn hq ae (by omega) d0 (fun x z ah=>dd x.id (Qsl hn x z)) d1 d8;obtain⟨pv,ab⟩:=h.pinv.put h.pick i1 hn hq ae ac;have e:s.add c={s with tree:=s.tree.add c,pick:=s.pick.put c,leaves:=if c.leaf then s.leaves++[⟨c.id,c.pk.toNat,c.bt.toNat,[],Jn c.real⟩]else s.leaves}:=by unfold Qg.add;rw[if_pos h0]
 rw[e];have J:∀l∈s.leaves,l.id≠c.id:=fun l hl e=>by obtain⟨x,z,_⟩:=(h.ok l hl).sp;rw[e,V]at z;cases z
 have K:∀l∈s.leaves,Qdq N (s.tree.add c) (s.pick.put c) l:=fun l hl=>by have k:=h.ok l hl;obtain⟨x,z,k2⟩:=k.sp;exact⟨⟨x,by rw[U,if_neg (J l hl)];exact z,by rw[ab];exact k2⟩,k.many,k.held,k.good,k.debt⟩
 have E:∀i,i≠c.id→Vp Qy.id i (if c.leaf then s.leaves++[⟨c.id,c.pk.toNat,c.bt.toNat,[],Jn c.real⟩]else s.leaves)=s.leaf i:=fun i hi=>by
  split;·rw[Qe3,if_neg (fun e=>hi e.symm)];show(s.leaf i).or none=_;cases s.leaf i<;>rfl
  ·rfl
 refine⟨h.most,h.tree.add B,ac,pv,mt,?_,fun i x z Z=>?_,fun l hl=>?_,fun a i b=>?_⟩
 ·dsimp only;split
  ·rw[List.map_append];refine List.nodup_append.2 ⟨h.nd,by simp,fun a ha b hb=>?_⟩;obtain⟨l,hl,rfl⟩:=List.mem_map.1 ha;obtain rfl:b=c.id:=by simpa using hb
   exact J l hl
  ·exact h.nd
 ·dsimp only at z;rw[U]at z;by_cases R:i=c.id
  ·rw[if_pos R]at z;obtain rfl:=Option.some.inj z;dsimp only at Z;refine⟨⟨c.id,c.pk.toNat,c.bt.toNat,[],Jn c.real⟩,?_⟩;show Vp Qy.id i (if c.leaf then _ else _)=_;rw[if_pos Z,Qe3,R,if_pos rfl];have:Vp Qy.id c.id s.leaves=none:=by
    cases hf:Vp Qy.id c.id s.leaves with
    |none=>rfl
    |some l=>exact absurd (Yh hf).2 (J l (Yh hf).1)
   rw[this];rfl
  ·rw[if_neg R]at z;obtain⟨l,hl⟩:=h.lv i x z Z;exact⟨l,(E i R).trans hl⟩
 ·dsimp only at hl⊢;split at hl
  ·rename_i aa;rcases List.mem_append.1 hl with hl|hl;·exact K l hl
   ·obtain rfl:l=⟨c.id,c.pk.toNat,c.bt.toNat,[],Jn c.real⟩:=by simpa using hl
    obtain⟨b1,b2,b3,b4⟩:=Qhf may aa;refine⟨⟨⟨c,s.tree.depth c.par⟩,by rw[U,if_pos rfl],aa,?_,?_,?_,?_⟩,Nat.zero_le _,?_,nofun,fun d hd=>?_⟩;·show((c.pk.toNat:Nat):Int)=c.pk;omega
    ·show((c.bt.toNat:Nat):Int)=c.bt;omega
    ·show(Jn c.real).isSome=!c.real.none;unfold Jn;by_cases hr:c.real.none=true;·rw[if_pos hr,hr];rfl
     ·rw[if_neg hr];have:c.real.none=false:=by simpa using hr
      rw[this];rfl
    ·show(s.pick.put c).awake c.id=_;rw[ab,Qe.awake_none hn];simp
    ·show Q0 []≤((c.bt.toNat:Nat):Int);simp only[Q0];omega
    ·have u:Jn c.real=some d:=hd;unfold Jn at u;split at u;·cases u
     ·obtain rfl:=Option.some.inj u;exact⟨Nat.zero_le _,Nat.zero_le _,rfl⟩
  ·exact K l hl
 ·dsimp only;rw[h.row];by_cases R:i=c.id
  ·subst R;have hf:s.leaf c.id=none:=by
    cases hf:s.leaf c.id with
    |none=>rfl
    |some l=>exact absurd (Yh (key:=Qy.id) hf).2 (J l (Yh (key:=Qy.id) hf).1)
   constructor;·rintro⟨l,d,hl,_⟩;have I:s.leaf c.id=some l:=hl;rw[hf]at I;cases I
   ·rintro⟨l,d,hl,hd,ha,_⟩;exfalso;split at hl
    ·rw[Qe3]at hl;have af:Vp Qy.id c.id s.leaves=none:=hf;rw[af,if_pos rfl]at hl;obtain rfl:=Option.some.inj hl;have u:Jn c.real=some d:=hd;unfold Jn at u;split at u;·cases u
     ·obtain rfl:=Option.some.inj u;cases ha
    ·have I:s.leaf c.id=some l:=hl;rw[hf]at I;cases I
  ·rw[E i R];rfl
theorem Gj{c:Xm}(h0:s.changeE c=0):¬0<s.many c.id∧s.tree.changeE c=0:=by
 unfold Qg.changeE at h0;split at h0;·cases h0
 ·split at h0;·cases h0
  ·rename_i h1;exact⟨h1,h0⟩
theorem Qq6{h:Qm}{i:Int}{c:Kk}(hc:h.at i=some c):i∈h.path 9 i:=by rw[Qm.path,hc];exact List.mem_cons_self
theorem X6.idle(h:X6 N s){i:Int}{l:Qy}(hl:s.leaf i=some l)(z:¬0<s.many i):l.q=[]:=by
 obtain⟨k,E,_⟩:=h.at hl;obtain⟨c,hc,d,_⟩:=k.sp;rw[E]at hc;obtain⟨q,u⟩:=Qm.at_mem hc;cases B:l.q with
 |nil=>rfl
 |cons x t=>exact absurd (Qod (Yb.2 ⟨c,q,u,d,.inr (Qq6 hc)⟩) (by rw[U8 hl,B];simp)) z
theorem X6.change(h:X6 N s){c:Xm}(h0:s.changeE c=0):X6 N (s.change c):=by
 obtain⟨hm,Z⟩:=Gj h0;have ha:=h.asleep hm;obtain⟨x,q,hx,i1,hq,mt,dd⟩:=h.mt.renew h.tree h.pick Z ha;have U:=Qag Z;have ah:Qp (J5 (s.tree.change c)) N (s.pick.renew c):=(h.pick.renew i1 hx ha hq).redep (by rw[dd,h.pick.up.1]) (fun _ _ _=>dd _);obtain⟨pv,ae⟩:=h.pinv.renew h.pick i1 hx ha hq;have e:s.change c={s with tree:=s.tree.change c,pick:=s.pick.renew c,leaves:=s.leaves.map fun l=>if l.id=c.id then{l with debt:=Jn c.real}else l}:=by unfold Qg.change;rw[if_pos h0]
 rw[e];have hf:∀l:Qy,(if l.id=c.id then{l with debt:=Jn c.real}else l).id=l.id:=fun l=>by split<;>rfl
 have I:∀i,Vp Qy.id i (s.leaves.map fun l=>if l.id=c.id then{l with debt:=Jn c.real}else l)=(s.leaf i).map fun l=>if l.id=c.id then{l with debt:=Jn c.real}else l:=fun i=>Qsm hf i;refine⟨h.most,h.tree.change Z,ah,pv,mt,?_,fun i y E af=>?_,fun l hl=>?_,fun a i b=>?_⟩;·dsimp only;rw[List.map_map];have:(Qy.id∘fun l:Qy=>if l.id=c.id then{l with debt:=Jn c.real}else l)=Qy.id:=funext hf;rw[this];exact h.nd
 ·dsimp only at E;rw[U]at E;have:∃y',s.tree.at i=some y'∧y'.sp.leaf=true:=by
   split at E
   ·rename_i B;cases hz:s.tree.at c.id with
    |none=>rw[hz]at E;cases E
    |some z=> rw[hz]at E;obtain rfl:=Option.some.inj E;exact⟨z,by rw[B];exact hz,af⟩
   ·exact⟨y,E,af⟩
  obtain⟨y',ag,J⟩:=this;obtain⟨l,hl⟩:=h.lv i y' ag J;exact⟨_,by show Vp Qy.id i _=_;rw[I,hl];rfl⟩
 ·obtain⟨R,aa,rfl⟩:=List.mem_map.1 hl;have k:=h.ok R aa;obtain⟨y,E,k1,k2,k3,k4,k5⟩:=k.sp;by_cases B:R.id=c.id
  ·rw[if_pos B];have ab:=h.leaf_of aa;rw[B]at ab;have K:=h.idle ab hm;rw[B]at E;refine⟨⟨⟨y.sp.renew c,y.d⟩,?_,k1,k2,k3,?_,?_⟩,k.many,k.held,k.good,fun d hd=>?_⟩;·show(s.tree.change c).at R.id=_;rw[U,if_pos B,E];rfl
   ·show(Jn c.real).isSome=!c.real.none;unfold Jn;by_cases hr:c.real.none=true;·rw[if_pos hr,hr];rfl
    ·rw[if_neg hr];have:c.real.none=false:=by simpa using hr
     rw[this];rfl
   ·show(s.pick.renew c).awake R.id=_;rw[ae,B,ha];show _=(_&&decide (R.q≠[]));rw[K];simp
   ·have u:Jn c.real=some d:=hd;unfold Jn at u;split at u;·cases u
    ·obtain rfl:=Option.some.inj u;exact⟨Nat.zero_le _,Nat.zero_le _,by show false=decide (R.q≠[]);rw[K];rfl⟩
  ·rw[if_neg B];exact⟨⟨y,by show(s.tree.change c).at R.id=_;rw[U,if_neg B];exact E,k1,k2,k3,k4,by show(s.pick.renew c).awake R.id=_;rw[ae];exact k5⟩,k.many,k.held,k.good,k.debt⟩
 ·dsimp only;rw[h.row,I];have el:Vp Qy.id i s.leaves=s.leaf i:=rfl;rw[el];by_cases B:i=c.id
  ·cases hl:s.leaf i with
   |none=>simp
   |some l=>
    obtain⟨k,ki,_⟩:=h.at hl;have K:l.q=[]:=h.idle (by rw[←B];exact hl) hm;constructor;·rintro⟨l',d,J,hd,V,_⟩;obtain rfl:=Option.some.inj J;have:=(k.debt d hd).2.2;rw[V,K]at this;simp at this
    ·rintro⟨l',d,J,hd,V,_⟩;obtain rfl:=Option.some.inj J;have ac:(if l.id=c.id then{l with debt:=Jn c.real}else l).debt=some d:=hd;rw[if_pos (ki.trans B)]at ac;have u:Jn c.real=some d:=ac;unfold Jn at u;split at u;·cases u
     ·obtain rfl:=Option.some.inj u;cases V
  ·cases hl:s.leaf i with
   |none=>simp
   |some l=> have ki:=(h.at hl).2.1;rw[Option.map_some,if_neg (by rw[ki];exact B)]
theorem Qcp{i:Int}(h0:s.dropE i=0):¬0<s.many i∧s.tree.dropE i=0:=by
 unfold Qg.dropE at h0;unfold Qm.dropE;split at h0;·cases h0
 ·rename_i h1;split at h0;·cases h0
  ·rename_i k;split at h0;·cases h0
   ·rename_i d;refine⟨d,?_⟩;cases hc:s.tree.at i with
    |none=>rw[hc]at h1;exact absurd rfl h1
    |some c=> dsimp only;rw[if_neg k]
theorem X6.drop(h:X6 N s){i:Int}(h0:s.dropE i=0):X6 N (s.drop i):=by
 obtain⟨hm,z⟩:=Qcp h0;have ha:=h.asleep hm;obtain⟨x,q,hx,Z,V,hq,ah,hk,mt,dd⟩:=h.mt.drop h.tree h.pick z ha;have E:=Qhi z;have I:=h.tree.drop z;have ab:=Qe2 Z hx V ha hq;have B:=h.pick.drop h.pinv Z hx V ha hq hk;have af:Qp (J5 (s.tree.drop i)) N (s.pick.drop i):=B.redep (Hl (I.zero (by decide))) (fun y u _=>by
  have:=Qe.at_of B.nd u;rw[ab]at this;split at this;·cases this
  ·rename_i e;exact dd _ e)
 obtain⟨pv,ae⟩:=h.pinv.drop h.pick Z hx V ha hq hk;have e:s.drop i={s with tree:=s.tree.drop i,pick:=s.pick.drop i,leaves:=Yw Qy.id i s.leaves}:=by unfold Qg.drop;rw[if_pos h0];rfl
 rw[e];have c:∀j,Vp Qy.id j (Yw Qy.id i s.leaves)=if j=i then none else s.leaf j:=fun j=>Qoc i j;have J:∀l,l∈Yw Qy.id i s.leaves→l∈s.leaves∧l.id≠i:=fun l hl=>by have:=List.mem_filter.1 hl;exact⟨this.1,by simpa using this.2⟩
 refine⟨h.most,I,af,pv,mt,h.nd.sublist (List.filter_sublist.map _),fun j y u ag=>?_,fun l hl=>?_,fun a j b=>?_⟩
 ·dsimp only at u;rw[E]at u;split at u;·cases u
  ·rename_i R;obtain⟨l,hl⟩:=h.lv j y u ag;exact⟨l,by show Vp Qy.id j _=_;rw[c,if_neg R];exact hl⟩
 ·obtain⟨U,aa⟩:=J l hl;have k:=h.ok l U;obtain⟨y,u,k2⟩:=k.sp;exact⟨⟨y,by show(s.tree.drop i).at l.id=_;rw[E,if_neg aa];exact u,by show _∧_∧_∧_∧(s.pick.drop i).awake l.id=_;rw[ae];exact k2⟩,k.many,k.held,k.good,k.debt⟩
 ·dsimp only;rw[h.row,c];have el:Vp Qy.id j s.leaves=s.leaf j:=rfl;rw[el];split;·rename_i R;refine⟨fun⟨l,d,hl,hd,ac,_⟩=>?_,fun⟨l,d,hl,_⟩=>(by cases hl)⟩;exfalso;obtain⟨k,ki,_⟩:=h.at hl;have K:l.q=[]:=h.idle (by rw[←R];exact hl) hm;have:=(k.debt d hd).2.2;rw[ac,K]at this;simp at this
  ·exact Iff.rfl
theorem Qel{row:List J6}{i:Int}{d:Jq}{a:Nat}{j:Int}{b:Nat}:(a,j,b)∈Hb row i d↔if j=i then d.awake=true∧a=d.elig∧b=d.due else(a,j,b)∈row:=by
 unfold Hb;by_cases e:j=i
 ·rw[if_pos e];split;·rename_i h;unfold Kg;rw[Oz];unfold Jc;rw[List.mem_filter];simp[e,h]
  ·rename_i h;unfold Jc;rw[List.mem_filter];simp[e,h]
 ·rw[if_neg e];split;·unfold Kg;rw[Oz];unfold Jc;rw[List.mem_filter];simp[e]
  ·unfold Jc;rw[List.mem_filter];simp[e]
theorem X6.upd(h:X6 N s)(af:N≤M){i:Int}{l l':Qy}{row':List J6}{p':Qe}(hl:s.leaf i=some l)(q:l'.id=i)(ab:l'.pk=l.pk)(aa:l'.bt=l.bt)(Z:l'.debt.isSome=l.debt.isSome)
  (h1:l'.q.length≤l'.pk)(h2:Q0 l'.q≤l'.bt)(h3:∀x∈l'.q,Uc x∧x.cls=i)(h4:∀d,l'.debt=some d→d.got≤Jz∧d.run.l.length≤M∧d.awake=decide (l'.q≠[]))
  (V:Qp (J5 s.tree) M p') (ac:Uw p') (ag:Kj s.tree p') (ah:∀j x,s.pick.at j=some x→x.leaf=true→j≠i→p'.awake j=s.pick.awake j)
  (U:∀c,s.tree.at i=some c→p'.awake i=(c.sp.shares&&decide (l'.q≠[])))
  (I:∀a j b,(a,j,b)∈row'↔if j=i then∃d,l'.debt=some d∧d.awake=true∧a=d.elig∧b=d.due else(a,j,b)∈s.row):
  X6 M {s with leaves:=Dc Qy.id l' s.leaves,row:=row',pick:=p'}:=by
 have u:∀j,Vp Qy.id j (Dc Qy.id l' s.leaves)=if j=i then some l' else s.leaf j:=fun j=>by have:=Qle (key:=Qy.id) (x:=l') (y:=l) (l:=s.leaves) (by rw[q];exact hl) j;rw[this,q];rfl
 obtain⟨k,ki,_⟩:=h.at hl;obtain⟨c,hc,c1,c2,c3,c4,c5⟩:=k.sp;rw[ki]at hc;refine⟨h.most,h.tree,V,ac,ag,by show(List.map Qy.id (Dc Qy.id l' s.leaves)).Nodup;rw[Qus];exact h.nd,fun j y E ae=>?_,fun y E=>?_,fun a j b=>?_⟩
 ·by_cases e:j=i;·exact⟨l',by show Vp Qy.id j _=_;rw[u,if_pos e]⟩
  ·obtain⟨z,K⟩:=h.lv j y E ae;exact⟨z,by show Vp Qy.id j _=_;rw[u,if_neg e];exact K⟩
 ·rcases Qfj (x:=l) h.nd E with rfl|⟨E,J⟩;·refine⟨⟨c,by show s.tree.at y.id=_;rw[q];exact hc,c1,by rw[ab];exact c2,by rw[aa];exact c3,Z.trans c4,by show p'.awake y.id=_;rw[q];exact U c hc⟩,h1,h2,fun x R=>⟨(h3 x R).1,(h3 x R).2.trans q.symm⟩,h4⟩
  ·have B:=(h.ok y E).more af;rw[q]at J;obtain⟨z,K,z1,z2⟩:=B.sp;obtain⟨x,R,_,e2,_⟩:=h.mt.fwd h.tree K;exact⟨⟨z,K,z1,by show _∧_∧_∧p'.awake y.id=_;rw[ah y.id x R (e2.trans z1) J];exact z2⟩,B.many,B.held,B.good,B.debt⟩
 ·show(a,j,b)∈row'↔_;rw[I];show _↔∃l d,Vp Qy.id j (Dc Qy.id l' s.leaves)=some l∧_;rw[u];by_cases e:j=i;·rw[if_pos e,if_pos e];exact⟨fun⟨d,h⟩=>⟨l',d,rfl,h⟩,fun⟨l0,d,e0,h⟩=>by obtain rfl:=Option.some.inj e0;exact⟨d,h⟩⟩
  ·rw[if_neg e,if_neg e];exact h.row a j b
end
end Go.Proofs.YtnnhmpehkbihnaaGreat
