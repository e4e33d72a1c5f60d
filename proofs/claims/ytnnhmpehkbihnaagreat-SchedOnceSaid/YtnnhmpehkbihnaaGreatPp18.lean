/- A part of the proof: no condition. -/
import Derived.Test.YtnnhmpehkbihnaaGreatPp17
namespace Go.Proofs.YtnnhmpehkbihnaaGreat
set_option linter.unusedVariables false
set_option maxRecDepth 100000
set_option maxHeartbeats 4000000
open Go.RowKit
open Go.Proofs.Tryz
section
variable{p:Qe}{N M:Nat}{dep:Int→Nat}
theorem Vi{x y:Qv}(h:p.at x.id=some y):(p.set x).at x.id=some x:=by
 unfold Qe.at Qe.set at*;induction p with
 |nil=>cases h
 |cons z p d=>
  rw[List.map_cons,List.find?_cons];rw[List.find?_cons]at h;by_cases c:z.id=x.id;·simp[c]
  ·simp only[c,decide_false,if_false]at h⊢;exact d h
theorem Kr{x:Qv}{i:Int}(h:i≠x.id):(p.set x).at i=p.at i:=by
 unfold Qe.at Qe.set;induction p with
 |nil=>rfl
 |cons z p k=>
  rw[List.map_cons,List.find?_cons,List.find?_cons];by_cases c:z.id=x.id;·rw[if_pos c];have h1:¬x.id=i:=fun e=>h e.symm;have q:¬z.id=i:=fun e=>h (by rw[←e,c]);simp only[h1,q,decide_false];exact k
  ·rw[if_neg c];by_cases d:z.id=i;·simp[d]
   ·simp only[d,decide_false];exact k
theorem Ks{x y:Qv}(h:p.at x.id=some y)(i:Int):(p.set x).at i=if i=x.id then some x else p.at i:=by
 split;·rename_i e;rw[e];exact Vi h
 ·rename_i e;exact Kr e
theorem Qsg(x:Qv):(p.set x).map Qv.id=p.map Qv.id:=by
 unfold Qe.set;rw[List.map_map];refine List.map_congr_left fun y _=>?_;simp only[Function.comp];split;·rename_i h;exact h.symm
 ·rfl
theorem mem_set{x y:Qv}(h:y∈p.set x):y=x∨(y∈p∧y.id≠x.id):=by
 obtain⟨z,c,rfl⟩:=List.mem_map.1 h;by_cases e:z.id=x.id;·rw[if_pos e];exact .inl rfl
 ·rw[if_neg e];exact .inr ⟨c,e⟩
theorem Qp.set(h:Qp dep N p)(hm:N≤M){x y:Qv}(I:p.at x.id=some y)(Z:x.par=y.par)(hl:x.leaf=y.leaf)(hk:Ee M x)
  (ht:∀e∈x.tree,∃c,p.at e.2.1=some c∧c.par=x.id∧0<e.2.1):Qp dep M (p.set x):=by
 have K:=(Qe.at_mem I).2;have look:∀{i c},p.at i=some c→∃c',(p.set x).at i=some c'∧c'.par=c.par∧c'.leaf=c.leaf:=fun{i c}hc=>by
  rw[Ks I];by_cases e:i=x.id;·subst e;rw[I]at hc;obtain rfl:=Option.some.inj hc;exact⟨x,by rw[if_pos rfl],Z,hl⟩
  ·exact⟨c,by rw[if_neg e];exact hc,rfl,rfl⟩
 refine⟨by rw[Qsg];exact h.nd,?_,⟨h.up.1,fun c hc h0=>?_⟩,fun q u e V=>?_,fun c hc=>?_⟩;·obtain⟨r,hr,U⟩:=h.root;obtain⟨r',h1,_,B⟩:=look hr;exact⟨r',h1,B.trans U⟩
 ·obtain⟨z,J,d⟩:∃z,z∈p∧z.id=c.id∧z.par=c.par:=by
   rcases mem_set hc with rfl|⟨hc,_⟩;·exact⟨y,(Qe.at_mem I).1,K,Z.symm⟩
   ·exact⟨c,hc,rfl,rfl⟩
  have:=h.up.2 z J (by rw[d.1];exact h0);rw[d.1,d.2]at this;obtain⟨h1,⟨q,u⟩,E⟩:=this;obtain⟨q',R,_⟩:=look u;exact⟨h1,⟨q',R⟩,E⟩
 ·rcases mem_set u with rfl|⟨u,_⟩;·obtain⟨c,hc,h1,B⟩:=ht e V;obtain⟨c',k,E,_⟩:=look hc;exact⟨c',k,E.trans h1,B⟩
  ·obtain⟨c,hc,h1,B⟩:=h.tr q u e V;obtain⟨c',k,E,_⟩:=look hc;exact⟨c',k,E.trans h1,B⟩
 ·rcases mem_set hc with rfl|⟨hc,_⟩;·exact hk
  ·exact(h.ok c hc).more hm
theorem Qp.more(h:Qp dep N p)(d:N≤M):Qp dep M p:=⟨h.nd,h.root,h.up,h.tr,fun c hc=>(h.ok c hc).more d⟩
def Va(p:Qe):List Int→Prop
 |[]=>True
 |id::rest=>0<id∧(∃c,p.at id=some c∧c.par=Gk rest)∧Va p rest
def Z5(p p':Qe):Prop:=∀i,(p'.at i).map (fun c=>(c.par,c.leaf,c.shares))=(p.at i).map (fun c=>(c.par,c.leaf,c.shares))
theorem Z5.get{p p':Qe}(h:Z5 p p'){i:Int}{c:Qv}(hc:p.at i=some c):∃c',p'.at i=some c'∧c'.par=c.par∧c'.leaf=c.leaf∧c'.shares=c.shares:=by
 have:=h i;rw[hc]at this;cases h':p'.at i with
 |none=>rw[h']at this;cases this
 |some c'=> rw[h']at this;simp only[Option.map_some,Option.some.injEq,Prod.mk.injEq]at this;exact⟨c',rfl,this⟩
theorem Z5.refl(p:Qe):Z5 p p:=fun _=>rfl
theorem Z5.trans{p p' p'':Qe}(h:Z5 p p')(h':Z5 p' p''):Z5 p p'':=fun i=>(h' i).trans (h i)
theorem Z5.set{x y:Qv}(c:p.at x.id=some y)(d:x.par=y.par)(hl:x.leaf=y.leaf)(hs:x.shares=y.shares):Z5 p (p.set x):=fun i=>by
 rw[Ks c];by_cases e:i=x.id;·subst e;rw[if_pos rfl,c];simp[d,hl,hs]
 ·rw[if_neg e]
theorem Va.same{p p':Qe}(h:Z5 p p'):∀{l:List Int},Va p l→Va p' l
 |[],_=>trivial
 |id::rest,⟨h1,⟨c,hc,hp⟩,h3⟩=>by obtain⟨c',d,e,_⟩:=h.get hc;exact⟨h1,⟨c',d,e.trans hp⟩,Va.same h h3⟩
theorem Qp.pid(h:Qp dep N p){i:Int}{c q:Qv}(hc:p.at i=some c)(hi:0<i)(u:p.at c.par=some q):q.id≠i∧q.id=c.par:=by obtain⟨k,rfl⟩:=Qe.at_mem hc;have h1:=(Qe.at_mem u).2;have d:=(h.up.2 c k (by omega)).2.2.1;refine⟨fun e=>?_,h1⟩;rw[h1]at e;rw[e]at d;omega
def Yy(N:Nat)(f:Q9):Prop:=(∀x∈f.all,x.total≤Jz∧x.run.l.length≤N∧x.v≤Qx)∧f.mark≤Qx
theorem reach_le(r:Jo)(y:Nat):r.reach y≤Qx:=by
 unfold Jo.reach Yo;split
 ·split;·exact Nat.zero_le _
  ·exact Nat.le_refl _
 ·split;·exact Nat.le_refl _
  ·exact Nat.min_le_left _ _
theorem Yy.more{f:Q9}(h:Yy N f)(d:N≤M):Yy M f:=⟨fun x c=>⟨(h.1 x c).1,Nat.le_trans (h.1 x c).2.1 d,(h.1 x c).2.2⟩,h.2⟩
theorem Qnu{f:Q9}{a x:Zq}(h:x∈(f.set a).all):x=a∨x∈f.all:=by
 obtain⟨z,c,rfl⟩:=List.mem_map.1 h;split;·exact .inl rfl
 ·exact .inr c
theorem Yy.set{f:Q9}{a:Zq}(h:Yy N f)(d:N≤M)(ha:a.total≤Jz∧a.run.l.length≤M∧a.v≤Qx):Yy M (f.set a):=⟨fun x c=>(Qnu c).elim (fun e=>e▸ha) (fun c=>(h.more d).1 x c),h.2⟩
theorem Yy.made{f:Q9}{a:Zq}{v:Nat}(h:Yy N f)(d:N≤M)(ha:a.total≤Jz∧a.run.l.length≤M)(c:v≤Qx):Yy M (f.made a v):=by have h1:=h.set (a:={a with v:=v}) d ⟨ha.1,ha.2,c⟩;exact⟨h1.1,Nat.max_le.2 ⟨h.2,c⟩⟩
theorem Qwt{f:Q9}(h:Yy N f){x:Zq}(k:x∈f.all):f.start x≤Qx:=by have d:=(h.1 x k).2.2;have q:=h.2;unfold Q9.start;have h1:f.most≤Qx:=Qgw _ fun z c=>(h.1 z (List.mem_filter.1 c).1).2.2;have u:f.least≤Qx:=Qdg _;split<;>omega
theorem Yy.wake{f:Q9}(h:Yy N f)(i:Int):Yy (N+1) (f.wake i):=by
 unfold Q9.wake;cases d:f.at i with
 |none=>exact h.more (Nat.le_succ _)
 |some m=>
  have c:=(Q9.at_mem d).1;dsimp only;split;·exact h.more (Nat.le_succ _)
  ·exact h.made (Nat.le_succ _) ⟨(h.1 m c).1,by have:=(h.1 m c).2.1;dsimp only;rw[Oe];omega⟩ (Qwt h c)
theorem Yy.sleep{f:Q9}(h:Yy N f)(i:Int):Yy N (f.sleep i):=by
 unfold Q9.sleep;cases c:f.at i with
 |none=>exact h
 |some m=>exact h.set (Nat.le_refl _) (h.1 m (Q9.at_mem c).1)
theorem Yy.gain{f:Q9}(h:Yy N f)(i:Int)(g:Nat):Yy N (f.gain i g):=by
 unfold Q9.gain;cases d:f.at i with
 |none=>exact h
 |some m=>
  have c:=h.1 m (Q9.at_mem d).1;have ht:m.total+min g (Jz-m.total)≤Jz:=by have:=c.1;omega
  dsimp only;split;·exact h.made (Nat.le_refl _) ⟨ht,c.2.1⟩ (reach_le _ _)
  ·exact h.set (Nat.le_refl _) ⟨ht,c.2⟩
theorem Yy.add{f:Q9}(h:Yy N f)(i:Int)(c:Z6):Yy N (f.add i c):=by
 unfold Q9.add;cases d:f.at i with
 |some m=>exact h
 |none=>
  refine⟨fun x d=>?_,h.2⟩;rcases List.mem_append.1 d with d|d;·exact h.1 x d
  ·obtain rfl:x=_:=by simpa using d
   exact⟨Nat.zero_le _,Nat.zero_le _,Nat.zero_le _⟩
theorem Yy.drop{f:Q9}(h:Yy N f)(i:Int):Yy N (f.drop i):=⟨fun x c=>h.1 x (List.mem_filter.1 c).1,h.2⟩
theorem Ee.fam{c:Qv}(h:Ee N c):Yy N c.mem:=⟨h.mem,h.mark⟩
theorem Ee.withMem{c:Qv}(h:Ee N c){f:Q9}(d:N≤M)(hf:Yy M f):Ee M {c with mem:=f}:=⟨h.total,(h.more d).lim,hf.1,hf.2,(h.more d).tree,h.under⟩
theorem Eg{i:Int}{c q:Qv}{f:Q9→Q9}(hc:p.at i=some c)(d:p.at c.par=some q):p.fam i f=p.set {q with mem:=f q.mem}:=by unfold Qe.fam;rw[hc];dsimp only;rw[d]
theorem Qp.fam(h:Qp dep N p)(E:N≤M){i:Int}{c q:Qv}{f:Q9→Q9}(hc:p.at i=some c)(hi:0<i)(z:p.at c.par=some q)(hf:Yy M (f q.mem)):
  Qp dep M (p.fam i f)∧Z5 p (p.fam i f)∧(p.fam i f).at i=some c∧(p.fam i f).at c.par=some {q with mem:=f q.mem}:=by
 rw[Eg hc z];obtain⟨B,u⟩:=h.pid hc hi z;have d:p.at ({q with mem:=f q.mem}:Qv).id=some q:=by show p.at q.id=_;rw[u];exact z
 have k:=(Qe.at_mem z).1;refine⟨h.set E d rfl rfl ((h.ok q k).withMem E hf) (fun e I=>h.tr q k e I),Z5.set d rfl rfl rfl,?_,?_⟩;·exact(Kr (x:={q with mem:=f q.mem}) (show i≠q.id from fun e=>B e.symm)).trans hc
 ·rw[←u];exact Vi d
theorem Qua{l:Yt}{r:Jo}{now t:Nat}(h:l.wake now t=some r)(hl:∀r,l=some r→r.l.length≤N):r.l.length≤N+1:=by
 unfold Yt.wake at h;cases l with
 |none=>cases h
 |some c=> obtain rfl:=Option.some.inj h;have:=hl c rfl;rw[Oe];omega
theorem Qp.up1(h:Qp dep N p)(now:Nat){i:Int}{c q:Qv}(hc:p.at i=some c)(hi:0<i)(I:p.at c.par=some q):Qp dep (N+1) (p.up1 now i)∧Z5 p (p.up1 now i):=by
 unfold Qe.up1;rw[hc];dsimp only;split;·exact⟨h.more (Nat.le_succ _),Z5.refl _⟩
 ·have z:=(Qe.at_mem I).1;have E:=(Qe.at_mem hc).2;obtain⟨h1,J,B,R⟩:=h.fam (f:=fun f=>f.wake i) (Nat.le_succ N) hc hi I ((h.ok q z).fam.wake i);have u:(p.fam i fun f=>f.wake i).at ({c with limit:=c.limit.wake now c.total}:Qv).id=some c:=by show Qe.at _ c.id=_;rw[E];exact B
  have k:=h.ok c (Qe.at_mem hc).1;have d:=h1.ok c (Qe.at_mem B).1;refine⟨h1.set (Nat.le_refl _) u rfl rfl ⟨k.total,fun r hr=>Qua hr k.lim,d.mem,d.mark,d.tree,k.under⟩ (fun e K=>h1.tr c (Qe.at_mem B).1 e K),J.trans (Z5.set u rfl rfl rfl)⟩
theorem Qp.note(h:Qp dep N p){i:Int}{c q:Qv}(hc:p.at i=some c)(hi:0<i)(E:p.at c.par=some q):Qp dep (N+1) (p.note i)∧Z5 p (p.note i):=by
 rw[E9 hc E];obtain⟨I,B⟩:=h.pid hc hi E;have u:=(Qe.at_mem E).1;have d:=h.ok q u;have key:∀t:List J6,t.length≤N+1→(∀e∈t,e.2.1=i∨e∈q.tree)→Qp dep (N+1) (p.set {q with tree:=t})∧Z5 p (p.set {q with tree:=t}):=fun t hl ht=>by
  have z:p.at ({q with tree:=t}:Qv).id=some q:=by show p.at q.id=_;rw[B];exact E
  refine⟨h.set (Nat.le_succ _) z rfl rfl ⟨d.total,(d.more (Nat.le_succ _)).lim,(d.more (Nat.le_succ _)).mem,d.mark,hl,d.under⟩ (fun e k=>?_),Z5.set z rfl rfl rfl⟩;rcases ht e k with k|k;·exact⟨c,by rw[k];exact hc,B.symm,by rw[k];exact hi⟩
  ·exact h.tr q u e k
 have J:(Jc i q.tree).length≤q.tree.length:=List.length_filter_le _ _;split
 ·refine key _ ?_ fun e k=>?_;·have:=(D8 (p.v i,i,c.fit) (Jc i q.tree)).length_eq;unfold Kg;have K:=d.tree;simp only[List.length_cons]at this;omega
  ·rcases Oz.1 k with rfl|k;·exact .inl rfl
   ·exact .inr (List.mem_filter.1 k).1
 ·exact key _ (by have:=d.tree;omega) fun e k=>.inr (List.mem_filter.1 k).1
theorem Qp.gain1(h:Qp dep N p)(g:Nat){i:Int}{c q:Qv}(hc:p.at i=some c)(hi:0<i)(K:p.at c.par=some q):Qp dep (N+1) (p.gain1 g i)∧Z5 p (p.gain1 g i):=by
 unfold Qe.gain1;rw[hc];dsimp only;obtain⟨B,J⟩:=h.pid hc hi K;have u:=(Qe.at_mem hc).2;have d:=h.ok c (Qe.at_mem hc).1;have k:p.at ({c with total:=c.total+min g (Jz-c.total)}:Qv).id=some c:=by show p.at c.id=_;rw[u];exact hc
 have h1:=h.set (Nat.le_succ N) k rfl rfl ⟨(by have:=d.total;dsimp only;omega),(d.more (Nat.le_succ _)).lim,(d.more (Nat.le_succ _)).mem,d.mark,(d.more (Nat.le_succ _)).tree,d.under⟩ (fun e U=>h.tr c (Qe.at_mem hc).1 e U);have R:=Z5.set (p:=p) k rfl rfl rfl;have I:(p.set {c with total:=c.total+min g (Jz-c.total)}).at i=some {c with total:=c.total+min g (Jz-c.total)}:=by have:=Vi k;rw[←u];exact this
 have z:(p.set {c with total:=c.total+min g (Jz-c.total)}).at c.par=some q:=by exact(Kr (x:={c with total:=c.total+min g (Jz-c.total)}) (show c.par≠c.id from fun e=>B (by rw[J,e,u]))).trans K
 have E:=(h1.ok q (Qe.at_mem z).1).fam.gain i g;obtain⟨k1,k2,_⟩:=h1.fam (f:=fun f=>f.gain i g) (Nat.le_refl _) I hi z E;exact⟨k1,R.trans k2⟩
theorem Qp.rest1(h:Qp dep N p)(sl:Bool){i:Int}{c q:Qv}(hc:p.at i=some c)(hi:0<i)(d:p.at c.par=some q):Qp dep (N+1) (p.rest1 sl i)∧Z5 p (p.rest1 sl i):=by
 unfold Qe.rest1;rw[hc];dsimp only;split;·obtain⟨k1,k2,k,u⟩:=h.fam (f:=fun f=>f.sleep i) (Nat.le_refl _) hc hi d ((h.ok q (Qe.at_mem d).1).fam.sleep i);obtain⟨l1,l2⟩:=k1.note k hi u;exact⟨l1,k2.trans l2⟩
 ·exact h.note hc hi d
structure Yd(dep:Int→Nat)(N L:Nat)(p0:Qe)(rest:List Int)(p:Qe):Prop where
 len:rest.length≤L
 ok:Qp dep (N+(L-rest.length)) p
 path:Va p rest
 same:Z5 p0 p
theorem Yd.head{p0:Qe}{L:Nat}{id:Int}{rest:List Int}(h:Yd dep N L p0 (id::rest) p):0<id∧∃c q,p.at id=some c∧p.at c.par=some q∧c.par=Gk rest:=by obtain⟨h1,⟨c,hc,d⟩,_⟩:=h.path;obtain⟨q,k⟩:=h.ok.par hc h1;exact⟨h1,c,q,hc,k,d⟩
theorem Yd.next{p0:Qe}{L:Nat}{id:Int}{rest:List Int}(h:Yd dep N L p0 (id::rest) p){p':Qe}(d:Qp dep (N+(L-(id::rest).length)+1) p')(hs:Z5 p p'):
  0<id∧dep (Gk rest)<dep id∧Yd dep N L p0 rest p'∧(∃c,p.at id=some c)∧∃c',p'.at id=some c'∧c'.par=Gk rest:=by
 obtain⟨h1,c,q,hc,J,B⟩:=h.head;obtain⟨E,k⟩:=Qe.at_mem hc;have I:=(h.ok.up.2 c E (by omega)).2.2.1;rw[B,k]at I;obtain⟨c',u,z,_⟩:=hs.get hc;have hl:=h.len;simp only[List.length_cons]at hl d;refine⟨h1,by omega,⟨by omega,?_,Va.same hs h.path.2.2,h.same.trans hs⟩,⟨c,hc⟩,c',u,z.trans B⟩;rw[show N+(L-rest.length)=N+(L-(rest.length+1))+1 by omega];exact d
end
section
attribute [local go_sem] Qq
attribute [local irreducible] Y4 Jm
section
variable{A:Og}{w:World}{F:Fp}{b:Nat}{p:Qe}{N:Nat}{dep:Int→Nat}
theorem Qqr(now x:Nat)(w:World):Cl 139 #[.pointer none,.int .u64 (now:Int),.int .u64 (x:Int)] w fun e w'=>e=.returned (.tuple #[])∧Qc Qb w w':=by have d:=O (Qed w);go_enter func139,ntmps139;go_wp2_with fail;refine d.out.mono ?_;rintro e w1⟨rfl,c⟩;have k:=O c;clear c;go_wp2;refine bodyPost_end (by simp[*,results,Tryz.results139,go_sem]) rfl ⟨rfl,k.out⟩
theorem Qnv{v:Value}{l:Yt}{G:Fp}(h:Dd v l w G)(hn:∀r,l=some r→r.l.length<549755813888)(now x:Nat)(h1:now<18446744073709551616)(k:x<18446744073709551616):
  Cl 139 #[v,.int .u64 (now:Int),.int .u64 (x:Int)] w fun e w'=>e=.returned (.tuple #[])∧Dd v (l.wake now x) w' (Qn G w w')∧Qc G w w':=by
 rcases h with⟨rfl,rfl,d⟩|⟨q,rfl,h⟩;·refine(Qqr now x w).mono ?_;rintro e w1⟨rfl,c⟩;exact⟨rfl,.inl ⟨rfl,rfl,d.ext (c.none (F:=G))⟩,c.none⟩
 ·refine(Qqe h hn now x h1 k).mono ?_;rintro e w1⟨rfl,h',c⟩;exact⟨rfl,.inr ⟨q,rfl,h'⟩,c⟩
theorem Qo.famAt(h:Qo A w F b p){i:Int}{q:Qv}(z:p.at i=some q):
  ∃G:Fp,Jb w G (A.pf i) q.mem∧(∀k,G k→F k)∧∀w1 w2 f,Qc Qb w w1→Jb w2 (Qn G w1 w2) (A.pf i) f→Qc G w1 w2→Qo A w2 (Qn F w w2) b (p.set {q with mem:=f})∧Qc F w w2:=by
 obtain⟨u,hi⟩:=Qe.at_mem z;obtain⟨G,h1,E,I⟩:=h.famOf u;rw[hi]at h1;refine⟨G,h1,E,fun w1 w2 f d hf B=>?_⟩;have c:Qc G w w2:=d.none.trans' B;exact I w2 f (by rw[hi];exact Jb.obj.more hf (Yl d.size) ((Jb.obj.bd h1).ext c)) c
theorem Qo.limAt(h:Qo A w F b p){i:Int}{q:Qv}(z:p.at i=some q):
  ∃G:Fp,Dd (A.vl i) q.limit w G∧(∀k,G k→F k)∧∀w1 w2 f,Qc Qb w w1→Dd (A.vl i) f w2 (Qn G w1 w2)→Qc G w1 w2→Qo A w2 (Qn F w w2) b (p.set {q with limit:=f})∧Qc F w w2:=by
 obtain⟨u,hi⟩:=Qe.at_mem z;obtain⟨G,h1,E,I⟩:=h.limOf u;rw[hi]at h1;refine⟨G,h1,E,fun w1 w2 f d hf B=>?_⟩;have c:Qc G w w2:=d.none.trans' B;exact I w2 f (by rw[hi];exact(Dd.good _ _).more hf (Yl d.size) (((Dd.good _ _).bd h1).ext c)) c
theorem Qub(h:Qo A w F b p)(k:Qp dep N p)(hN:N<549755813887){i:Int}{c q:Qv}(hi:0<i)(hc:p.at i=some c)(U:p.at c.par=some q)(now:Nat)(ae:now<18446744073709551616)
  {Bp Bn:Nat}(R:Qh w Bp #[ptr b] 77)(V:Qh w Bn #[.int .u64 (now:Int)] 29)(ar:¬F Bp)(ao:¬F Bn):
  Cl 137 #[.int .i64 i,ptr (A.ad i),.pointer (some ⟨Bp,0,none⟩),.pointer (some ⟨Bn,0,none⟩)] w fun e w'=>e=.returned (.tuple #[])∧Qo A w' (Qn F w w') b (p.up1 now i)∧Qc F w w':=by
 have J:=O (U7 h k i);have a0:=Zv R;have ah:=(Qo.obj A).bd h;obtain⟨c0,c1,I,c3,c4,c5,c6,c7⟩:=Q7 (h.cell hc);have B:Hid (∀w',Qc Qb w w'→Qo A w' (Qn F w w') b p∧Qc F w w'):=O (fun w' d=>(Qo.obj A).same h d);have stay:∀w',Qc Qb w w'→p.up1 now i=p→Qo A w' (Qn F w w') b (p.up1 now i)∧Qc F w w':=fun w' d e=>by rw[e];exact B.out w' d
 rcases Bool.eq_false_or_eq_true (p.awake i)with z|z
 ·have e:p.up1 now i=p:=by unfold Qe.up1;rw[hc];simp[z]
  have ST:=O (fun w'(d:Qc Qb w w')=>stay w' d e);rw[z]at J;unfold ptr at*;clear h k hc U z R V stay B e;go_enter func137,ntmps137;go_wp2_with fail;refine J.out.mono ?_;rintro e w1⟨rfl,d⟩;have ac:=O (ST.out _ d);clear d;go_wp2;refine bodyPost_ret (results_none rfl _ _ _) rfl ⟨rfl,ac.out⟩
 ·rw[z]at J;cases E:c.shares with
  |false=>
   have e:p.up1 now i=p:=by unfold Qe.up1;rw[hc];simp[E]
   have ST:=O (fun w'(d:Qc Qb w w')=>stay w' d e);have HC:=O (h.cell hc);have HS:=O E;unfold ptr at*;clear h k hc U z R V stay B e E c0 c1 I c3 c4 c5 c6 c7;go_enter func137,ntmps137;go_wp2_with fail;refine J.out.mono ?_;rintro e w1⟨rfl,d⟩;have ac:=O (ST.out _ d);obtain⟨c0,c1,I,c3,c4,c5,c6,c7⟩:=Q7 (d.blk HC.out (fun h=>h));rw[HS.out]at I;clear d;go_wp2;refine bodyPost_ret (results_none rfl _ _ _) rfl ⟨rfl,ac.out⟩
  |true=>
   obtain⟨k1,k2,k3,k4⟩:=k.fam (f:=fun f=>f.wake i) (Nat.le_succ N) hc hi U ((k.ok q (Qe.at_mem U).1).fam.wake i);have e:p.up1 now i=(p.fam i fun f=>f.wake i).set {c with limit:=c.limit.wake now c.total}:=by unfold Qe.up1;rw[hc];simp[E,z]
   rw[e];have e2:=Eg (f:=fun f=>f.wake i) hc U;obtain⟨G,hF,an,aa⟩:=h.famAt U;have u:=k.ok q (Qe.at_mem U).1;have ai:=O (fun w'(d:Qc Qb w w')=>Qql (Jb.obj.keep hF d (Je.none G)) (fun x hx=>⟨(u.mem x hx).1,by have:=(u.mem x hx).2.1;omega,(u.mem x hx).2.2⟩) u.mark i);have al:Hid (∀w1 w2,Qc Qb w w1→Jb w2 (Qn G w1 w2) (A.pf c.par) (q.mem.wake i)→Qc G w1 w2→Qo A w2 (Qn F w w2) b (p.fam i fun f=>f.wake i)∧Qc F w w2):=O (fun w1 w2 d hf I=>by rw[e2];exact aa w1 w2 _ d hf I);have K:=k.ok c (Qe.at_mem hc).1;have ag:Hid (∀w2,Qo A w2 (Qn F w w2) b (p.fam i fun f=>f.wake i)→Qc F w w2→Cl 139 #[A.vl i,.int .u64 (now:Int),.int .u64 (c.total:Int)] w2.drew fun e w'=>e=.returned (.tuple #[])∧Qo A w' (Qn F w w') b ((p.fam i fun f=>f.wake i).set {c with limit:=c.limit.wake now c.total})∧Qc F w w'):=O (by
    intro w2 h2 am;obtain⟨G2,hl,aq,ab⟩:=h2.drew.limAt k3;refine(Qnv hl (fun r hr=>by have:=K.lim r hr;omega) now c.total ae (by have:=K.total;have:=Xu;omega)).mono ?_;rintro e w3⟨rfl,h3,af⟩;obtain⟨m1,m2⟩:=ab _ w3 _ (Qc.refl Qb _) h3 af;exact⟨rfl,(Qo.obj A).two (w1:=w2) m1 ah am m2.undrew⟩)
   have HL:=O (fun w'(d:Qc Qb w w')=>((Qo.obj A).keep h d (Je.none F)).look1 c.par);rw[Xc U]at HL;have HC:=O (h.cell hc);have HQ:=O (h.cell U);have HB:=O h.blk;have ap:=O R;have aj:=O V;have HS:=O E;have K3:=O k3;unfold ptr at*;clear h k hc U z R V stay B e E c0 c1 I c3 c4 c5 c6 c7 k1 k2 k3 k4 e2 hF an aa u K;go_enter func137,ntmps137;go_wp2_with fail;refine J.out.mono ?_;rintro e w1⟨rfl,d⟩;have C1:=O d;obtain⟨_,_,I,_,_,_,_,_⟩:=Q7 (d.blk HC.out (fun h=>h));rw[HS.out]at I;have Z:=d.drew;obtain⟨d0,_,_,_,_,_,_,_⟩:=Q7 (Z.blk HC.out (fun h=>h));obtain⟨_,_,_,_,_,q5,_,_⟩:=Q7 (Z.blk HQ.out (fun h=>h));have hL:=HL.out _ Z;have e0:=Zv (Z.blk HB.out (fun h=>h));have e1:=Zv (Z.blk ap.out (fun h=>h));unfold ptr at*;clear d a0;go_wp2_with fail;refine Qi [(0,0),(0,1),(0,2),(0,3),(0,4),(0,5),(0,6),(0,7),(0,8),(0,9),(0,10),(0,11),(0,12),(2,13)] (by kernel_rfl) (by kernel_rfl) ?_ ?_;·exact fun _ _ _ _ _ h=>h
   simp only[Zs,Zf,Ze,Zd];iterate 13 (refine Zz (by kernel_rfl) (by go_simp;try with_reducible rfl) ?_)
   clear d0 q5 hL e0 e1 I;refine Jj ?_;go_wp2_with fail;refine(ai.out _ Z).mono ?_;rintro e w2⟨rfl,h2,I⟩;obtain⟨m1,m2⟩:=al.out _ _ Z h2 I;have M:=O (And.intro m1 m2);have ak:=O (ag.out w2 m1 m2);obtain⟨_,_,_,d3,d4,_,_,_⟩:=Q7 (m1.drew.cell K3.out);have e2:=Zv (m2.blk aj.out ao).drew;clear h2 I m1 m2 Z;go_wp2_with fail;refine Zu ?_;go_wp2_with fail;refine Qi [(0,0),(0,1),(0,2),(0,3),(0,4),(0,5),(0,6),(0,7),(0,8),(2,9)] (by kernel_rfl) (by kernel_rfl) ?_ ?_;·exact fun _ _ _ _ _ h=>h
   simp only[Zs,Zf,Ze,Zd];iterate 9 (refine Zz (by kernel_rfl) (by go_simp;try with_reducible rfl) ?_)
   clear d3 d4 e2;refine Jj ?_;go_wp2_with fail;refine ak.out.mono ?_;rintro e w3⟨rfl,h3⟩;have H3:=O h3;clear h3;go_wp2_with fail;refine Zu ?_;go_wp2;refine bodyPost_end (results_none rfl _ _ _) rfl ⟨rfl,H3.out⟩
theorem Qg0(h:Qo A w F b p)(d:Qp dep N p)(I:N<549755813888){i:Int}{c q:Qv}(hi:0<i)(hc:p.at i=some c)(u:p.at c.par=some q){z:Nat}{v:Value}(k:Qh w z #[ptr b] 77):
  Cl 140 #[.int .i64 i,v,.pointer (some ⟨z,0,none⟩)] w fun e w'=>e=.returned (.tuple #[])∧Qo A w' (Qn F w w') b (p.note i)∧Qc F w w':=by
 have E:=O (Qbe h d I hi hc u);have J:=Zv k;unfold ptr at*;clear h d hc u k;go_enter func140,ntmps140;go_wp2_with fail;refine E.out.mono ?_;rintro e w1⟨rfl,h1⟩;have B:=O h1;clear h1;go_wp2;refine bodyPost_end (results_none rfl _ _ _) rfl ⟨rfl,B.out⟩
theorem Qsh(d:Qp dep N p):∀(n:Nat)(i:Int),0≤i→dep i<n→(i=0∨∃c,p.at i=some c)→Va p (p.path n i)∧Gk (p.path n i)=i∧(p.path n i).length≤dep i
 |0,i,_,h,_=>by omega
 |n+1,i,h0,h,hi=>by
  rw[Qe.path];by_cases h1:i<1
  ·have:i=0:=by omega
   subst this;rw[if_pos h1];exact⟨trivial,rfl,Nat.zero_le _⟩
  ·rw[if_neg h1];rcases hi with rfl|⟨c,hc⟩;·omega
   ·rw[hc];dsimp only;obtain⟨I,z⟩:=Qe.at_mem hc;have u:=d.up.2 c I (by omega);rw[z]at u;obtain⟨E,⟨q,B⟩,K,_⟩:=u;have k:=d.pos B;obtain⟨k1,k2,J⟩:=Qsh d n c.par k (by omega) (.inr ⟨q,B⟩);exact⟨⟨by omega,⟨c,hc,k2.symm⟩,k1⟩,rfl,by simp only[List.length_cons];omega⟩
end
section
variable{A:Og}{w:World}{F:Fp}{b:Nat}{p:Qe}{N:Nat}{dep:Int→Nat}
theorem Yd.start{l:List Int}(c:Qp dep N p)(d:Va p l):Yd dep N l.length p l p:=⟨Nat.le_refl _,by rw[Nat.sub_self];exact c,d,Z5.refl p⟩
theorem Hj{c:Qe→Int→Qe}{L:Nat}{p0:Qe}(d:∀id rest p,Yd dep N L p0 (id::rest) p→Qp dep (N+(L-(id::rest).length)+1) (c p id)∧Z5 p (c p id)):
  ∀(l:List Int)(p:Qe),Yd dep N L p0 l p→Yd dep N L p0 [] (l.foldl c p)
 |[],p,h=>h
 |id::rest,p,h=>by obtain⟨h1,k⟩:=d id rest p h;exact Hj d rest _ (h.next h1 k).2.2.1
theorem Oq(d:Qp dep N p){i:Int}{c:Qv}(hc:p.at i=some c):Va p (p.path 9 i)∧Gk (p.path 9 i)=i∧(p.path 9 i).length≤8:=by
 have h0:=d.pos hc;have B:dep i≤8:=by
  obtain⟨q,k⟩:=Qe.at_mem hc;by_cases h:i=0;·rw[h,d.up.1];omega
  ·have:=(d.up.2 c q (by omega)).2.2.2;rwa[k]at this
 obtain⟨h1,u,z⟩:=Qsh d 9 i h0 (by omega) (.inr ⟨c,hc⟩);exact⟨h1,u,by omega⟩
theorem Qaa(now:Nat){L:Nat}{p0:Qe}:∀id rest p,Yd dep N L p0 (id::rest) p→Qp dep (N+(L-(id::rest).length)+1) (p.up1 now id)∧Z5 p (p.up1 now id):=fun id rest p h=>by obtain⟨h1,c,q,hc,d,_⟩:=h.head;exact h.ok.up1 now hc h1 d
theorem Qbf{L:Nat}{p0:Qe}:∀id rest p,Yd dep N L p0 (id::rest) p→Qp dep (N+(L-(id::rest).length)+1) (p.note id)∧Z5 p (p.note id):=fun id rest p h=>by obtain⟨h1,c,q,hc,d,_⟩:=h.head;exact h.ok.note hc h1 d
theorem Qp.wake(d:Qp dep N p)(i:Int)(now:Nat):Qp dep (N+16) (p.wake i now)∧Z5 p (p.wake i now):=by
 unfold Qe.wake;cases hc:p.at i with
 |none=>exact⟨d.more (by omega),Z5.refl _⟩
 |some c=>
  dsimp only;split;·exact⟨d.more (by omega),Z5.refl _⟩
  ·obtain⟨h1,_,u⟩:=Oq d hc;have k:=Hj (Qaa now) _ _ (Yd.start d h1);have q:=Hj Qbf _ _ (Yd.start (N:=N+(p.path 9 i).length) (by simpa using k.ok) (Va.same k.same h1));refine⟨q.ok.more (by simp;omega),k.same.trans q.same⟩
theorem Qqs(h:Qo A w F b p)(I:Qp dep N p)(hN:N<549755813000)(i:Int)(now:Nat)(ac:now<18446744073709551616):
  Cl 76 #[ptr b,.int .i64 i,.int .u64 (now:Int)] w fun e w'=>e=.returned (.tuple #[])∧Qo A w' (Qn F w w') b (p.wake i now)∧Qc F w w':=by
 have V:=(Qo.obj A).bd h;obtain⟨W,hW⟩:=Zx ((w.alloc (.cells #[.pointer (some ⟨b,0,none⟩)] 77)).alloc (.cells #[.int .u64 (now:Int)] 29));have C0:Hid (Qc Qb w W):=O (by rw[hW];exact((Qc.refl _ _).alloc _).alloc _);have B3:Hid (Qh W w.heap.size #[ptr b] 77):=O (by rw[hW];exact(Qh.new _ _ _).alloc _);have B5:Hid (Qh W (w.heap.size+1) #[.int .u64 (now:Int)] 29):=O (by rw[hW];exact Qh.new' _ _ (by simp));have hP:=(Qo.obj A).keep h C0.out (Je.none F);have Z:=O (V6 hP i);have u:¬F w.heap.size:=fun hk=>by have:=V _ hk;omega
 have B:¬F (w.heap.size+1):=fun hk=>by have:=V _ hk;omega
 have l3:=B3.out.lt;have l5:=B5.out.lt;have ae:Hid (∀w' p',Qo A w' (Qn F W w') b p'→Qc F W w'→Qo A w' (Qn F w w') b p'∧Qc F w w'):=O (fun w' p' h' c'=>by
  have K:Qc F w w':=C0.out.none.trans' c';exact⟨(Qo.obj A).more h' (Yl C0.out.size) (V.ext K),K⟩)
 have z:Hid (Qo A W (Qn F w W) b p∧Qc F w W):=O ((Qo.obj A).same h C0.out);unfold Qe.wake;cases hc:p.at i with
 |none=> rw[Ef hc]at Z;dsimp only;have a3:=Zv (hW▸B3.out);unfold ptr at*;clear h I hc hP u B l3 l5;go_enter func76,ntmps76;go_wp2_with fail;rw[←hW]at a3⊢;clear hW;refine Z.out.mono ?_;rintro e w1⟨rfl,rfl⟩;go_wp2;all_goals refine bodyPost_ret (results_none rfl _ _ _) rfl ⟨rfl,z.out⟩
 |some c=>
  rw[Xc hc]at Z;have a3:=Zv (hW▸B3.out);obtain⟨c0,c1,K,c3,c4,c5,c6,c7⟩:=Q7 (hP.cell hc);by_cases k:i<1∨c.leaf=false∨c.shares=false
  ·have e:(if(decide (i<1)||!c.leaf||!c.shares)=true then p else(p.path 9 i).foldl Qe.note ((p.path 9 i).foldl (Qe.up1 now) p))=p:=by rw[if_pos];rcases k with h1|h1|h1<;>simp[h1]
   dsimp only;rw[e];have fin:∀{d:Bool},decide (i<1)=d→(d=true∨c.leaf=false∨c.shares=false)→Cl 76 #[ptr b,.int .i64 i,.int .u64 (now:Int)] w fun e w'=>e=.returned (.tuple #[])∧Qo A w' (Qn F w w') b p∧Qc F w w':=by
    intro d hd k;have hx:(i<1)=(d=true):=by rw[←hd];simp
    generalize c.leaf=lf at c1 k;generalize c.shares=sh at K k;have q3:=hW▸c1;unfold ptr at*;clear h I hc hP u B l3 l5 e c0 c3 c4 c5 c6 c7;cases d with
    |true=>
     have Jl:i<1:=by simpa using hx
     go_enter func76,ntmps76;go_wp2_with fail;rw[←hW]at a3⊢;clear hW q3;refine Z.out.mono ?_;rintro e w1⟨rfl,rfl⟩;go_wp2;refine bodyPost_ret (results_none rfl _ _ _) rfl ⟨rfl,z.out⟩
    |false=>
     have Jl:¬i<1:=by simpa using hx
     cases lf with
     |false=> go_enter func76,ntmps76;go_wp2_with fail;rw[←hW]at a3⊢;clear hW q3;refine Z.out.mono ?_;rintro e w1⟨rfl,rfl⟩;go_wp2;refine bodyPost_ret (results_none rfl _ _ _) rfl ⟨rfl,z.out⟩
     |true=>
      obtain rfl:sh=false:=by simpa using k
      go_enter func76,ntmps76;go_wp2_with fail;rw[←hW]at a3⊢;clear hW q3;refine Z.out.mono ?_;rintro e w1⟨rfl,rfl⟩;go_wp2;refine bodyPost_ret (results_none rfl _ _ _) rfl ⟨rfl,z.out⟩
   exact fin rfl (k.imp (fun h=>by simpa using h) id)
  ·have hi:0<i:=by omega
   have R:c.leaf=true:=by cases h:c.leaf<;>simp_all
   have ab:c.shares=true:=by cases h:c.shares<;>simp_all
   have Jl:¬i<1:=by omega
   rw[R]at c1;rw[ab]at K;have e:(if(decide (i<1)||!c.leaf||!c.shares)=true then p else(p.path 9 i).foldl Qe.note ((p.path 9 i).foldl (Qe.up1 now) p))=(p.path 9 i).foldl Qe.note ((p.path 9 i).foldl (Qe.up1 now) p):=by rw[if_neg (by simp[R,ab,Jl])]
   dsimp only;rw[e];obtain⟨p1,p2,p3⟩:=Oq I hc;generalize p.path 9 i=l at p1 p2 p3⊢;have g0:=Yd.start I p1;have g1:=Hj (Qaa now) _ _ g0;have g2:Yd dep (N+l.length) l.length (l.foldl (Qe.up1 now) p) l (l.foldl (Qe.up1 now) p):=Yd.start (by simpa using g1.ok) (Va.same g1.same p1);have H1:=O (Di 137 #[.pointer (some ⟨w.heap.size,0,none⟩),.pointer (some ⟨w.heap.size+1,0,none⟩)] (enters_of func137 (by kernel_rfl) rfl) (fun p id=>p.up1 now id) (Yd dep N l.length p) dep
    (fun id rest p' k=>k.next (Qaa now id rest p' k).1 (Qaa now id rest p' k).2)
    (fun id rest p' w' k aa J=>by
     obtain⟨h1,c',q,U,hq,_⟩:=k.head;exact Qub aa k.ok (by omega) h1 U hq now ac (J.blk B3.out u) (J.blk B5.out B) (Qn.not u l3) (Qn.not B l5))
    hP l g0 i p2.symm)
   have H2:Hid (∀w1,Qo A w1 (Qn F W w1) b (l.foldl (fun p id=>p.up1 now id) p)→Qc F W w1→Cl 136 #[ptr b,.int .i64 i,.func (.func 140) #[] #[.pointer (some ⟨w.heap.size,0,none⟩)]] w1 fun e w'=>e=.returned (.tuple #[])∧Qo A w' (Qn F W w') b (l.foldl Qe.note (l.foldl (Qe.up1 now) p))∧Qc F W w'):=O (by
    intro w1 h1 E;refine(Di 140 #[.pointer (some ⟨w.heap.size,0,none⟩)] (enters_of func140 (by kernel_rfl) rfl) Qe.note (Yd dep (N+l.length) l.length (l.foldl (Qe.up1 now) p)) dep
     (fun id rest p' k=>k.next (Qbf id rest p' k).1 (Qbf id rest p' k).2)
     (fun id rest p' w' k aa J=>by
      obtain⟨ah,c',q,U,hq,_⟩:=k.head;exact Qg0 aa k.ok (by omega) ah U hq (J.blk (E.blk B3.out u) (Qn.not u l3)))
     h1 l g2 i p2.symm).mono ?_
    rintro e w2⟨rfl,h2,K⟩;obtain⟨m1,m2⟩:=(Qo.obj A).two h2 ((Qo.obj A).bd hP) E K;exact⟨rfl,m1,m2⟩)
   have ag:=O (And.intro u B);unfold ptr at*;clear h I hc hP u B l3 l5 e c0 c3 c4 c5 c6 c7 k p1 p2 p3 g0 g1 g2 R ab;go_enter func76,ntmps76;go_wp2_with fail;rw[←hW]at a3⊢;clear hW;refine Z.out.mono ?_;rintro e w1⟨rfl,rfl⟩;go_wp2_with fail;refine H1.out.mono ?_;rintro e w1⟨rfl,h1,E⟩;have H3:=O (H2.out w1 h1 E);have a4:=Zv (E.blk B3.out ag.out.1);unfold ptr at*;clear h1 E a3 c1 K;go_wp2_with fail;refine H3.out.mono ?_;rintro e w2⟨rfl,h2,af⟩;have FF:=O (ae.out _ _ h2 af);clear h2 af;go_wp2;refine bodyPost_end (results_none rfl _ _ _) rfl ⟨rfl,FF.out⟩
end
end
section
attribute [local go_sem] Qq
attribute [local go_sem ↓] Xe Xn
attribute [local irreducible] Y4 Jm
section
variable{A:Og}{w:World}{F:Fp}{b:Nat}{p:Qe}{N:Nat}{dep:Int→Nat}
theorem Qnw(h:Qo A w F b p)(I:Qp dep N p)(hN:N<549755813887){i:Int}{c q:Qv}(hi:0<i)(hc:p.at i=some c)(hq:p.at c.par=some q)(g:Nat)(hg:g<18446744073709551616)
  {Bp Bg:Nat}(ab:Qh w Bp #[ptr b] 77)(R:Qh w Bg #[.int .u64 (g:Int)] 29)(ah:¬F Bp)(ae:¬F Bg):
  Cl 162 #[.int .i64 i,ptr (A.ad i),.pointer (some ⟨Bg,0,none⟩),.pointer (some ⟨Bp,0,none⟩)] w fun e w'=>e=.returned (.tuple #[])∧Qo A w' (Qn F w w') b (p.gain1 g i)∧Qc F w w':=by
 have af:=(Qo.obj A).bd h;obtain⟨V,E⟩:=Qe.at_mem hc;have J:=I.ok c V;obtain⟨ag,ai⟩:=I.pid hc hi hq;obtain⟨T,hT⟩:=Zx (c.total+min g (Jz-c.total));have aj:=J.total;have hC:=Xu;have e1:IntKind.u64.wrap (4611686018427387904-(c.total:Int))=((Jz-c.total:Nat):Int):=by rw[IntWalk.u64_in _ (by omega)];omega
 have e2:min (g:Int) ((Jz-c.total:Nat):Int)=((min g (Jz-c.total):Nat):Int):=by omega
 have e3:IntKind.u64.wrap ((c.total:Int)+((min g (Jz-c.total):Nat):Int))=(T:Int):=by rw[IntWalk.u64_in _ (by omega)];omega
 have d:=h.cell hc;obtain⟨W,hW⟩:=Zx ((w.setCell ⟨A.ad i,3,none⟩ (.int .u64 (T:Int))).drew);have Z:p.at ({c with total:=T}:Qv).id=some c:=by show p.at c.id=_;rw[E];exact hc
 have K:Hid (Qo A W (Qn F w W) b (p.set {c with total:=T})∧Qc F w W):=O (by
  refine h.setC (c:=c) (c':={c with total:=T}) V rfl rfl rfl rfl ?_ ?_;·rw[hW,E];exact((Qc.refl (fun k=>k=A.ad i) w).setCell (a:=⟨A.ad i,3,none⟩) _ (.inl rfl)).drew
  ·rw[hW,E];exact(d.set' 3 (.int .u64 (T:Int)) rfl).drew)
 have U:(p.set {c with total:=T}).at i=some {c with total:=T}:=by have:=Vi Z;rw[←E];exact this
 have z:(p.set {c with total:=T}).at c.par=some q:=(Kr (x:={c with total:=T}) (show c.par≠c.id from fun e=>ag (by rw[ai,e,E]))).trans hq;have e:p.gain1 g i=(p.set {c with total:=T}).set {q with mem:=q.mem.gain i g}:=by unfold Qe.gain1;rw[hc];dsimp only;rw[←hT];exact Eg (c:={c with total:=T}) U z
 rw[e];have B:=I.ok q (Qe.at_mem hq).1;have HG:Hid (∀w1,Qc Qb W w1→Cl 163 #[ptr (A.pf c.par),.int .i64 i,.int .u64 (g:Int)] w1 fun e w'=>e=.returned (.tuple #[])∧Qo A w' (Qn F w w') b ((p.set {c with total:=T}).set {q with mem:=q.mem.gain i g})∧Qc F w w'):=O (by
  intro w1 cc;obtain⟨G,hF,ak,aa⟩:=K.out.1.famAt z;refine(Qqi (Jb.obj.keep hF cc (Je.none G)) (fun x hx=>⟨(B.mem x hx).1,by have:=(B.mem x hx).2.1;omega⟩) i g hg).mono ?_;rintro e w2⟨rfl,hf,c2⟩;obtain⟨m1,m2⟩:=aa w1 w2 _ cc hf c2;exact⟨rfl,(Qo.obj A).two m1 af K.out.2 m2⟩)
 obtain⟨_,_,_,d3,_,_,_,_⟩:=Q7 d.drew;have z3:=d.frozen 3;have ac:=d.drew.frozen 3;have y3:=(Q7 d).2.2.2.1;have b2:=Zv R.drew;have X0:Hid (Qh W Bp #[ptr b] 77∧Qh W Bg #[.int .u64 (g:Int)] 29∧Qh W (A.ad i) (Qbc {c with total:=T} (A.vl i) (A.pf i) (A.pt i)) 143):=O ⟨K.out.2.blk ab ah,K.out.2.blk R ae,K.out.1.cell U⟩;obtain⟨x0,x1,x2⟩:=X0.out;obtain⟨g0,_,_,_,_,_,_,_⟩:=Q7 x2.drew;have g1:=Zv x0.drew;have g2:=Zv x1.drew;have g3:=K.out.1.drew.look1 c.par;rw[Xc z]at g3;have g4:=Zv K.out.1.drew.blk;obtain⟨_,_,_,_,_,g5,_,_⟩:=Q7 (K.out.1.drew.cell z);generalize Jz-c.total=u at e1 e2 e3;generalize min g u=u2 at e2 e3;unfold ptr at*;clear h I hc hq J d ab R B hT e x0 x1 x2 V Z z U;go_enter func162,ntmps162;go_wp2_with fail;refine Qi [(0,0),(0,1),(0,2),(0,3),(0,4),(0,5),(0,6),(0,7),(0,8),(0,9),(0,10),(0,11),(0,12),(0,13),(2,14)] (by kernel_rfl) (by kernel_rfl) ?_ ?_;·exact fun _ _ _ _ _ h=>h
 simp only[Zs,Zf,Ze,Zd];iterate 14 (refine Zz (by kernel_rfl) (by go_simp;try with_reducible rfl) ?_)
 refine Jj ?_;go_wp2_with fail;refine Zu ?_;rw[←hW];clear hW d3 z3 ac y3 b2;go_wp2_with fail;refine Qi [(0,0),(0,1),(0,2),(0,3),(0,4),(0,5),(0,6),(0,7),(0,8),(0,9),(0,10),(0,11),(0,12),(0,13),(2,14)] (by kernel_rfl) (by kernel_rfl) ?_ ?_;·exact fun _ _ _ _ _ h=>h
 simp only[Zs,Zf,Ze,Zd];iterate 14 (refine Zz (by kernel_rfl) (by go_simp;try with_reducible rfl) ?_)
 clear g0 g1 g2 g3 g4 g5;refine Jj ?_;go_wp2_with fail;refine(HG.out _ (Qc.refl _ _).drew).mono ?_;rintro e w2⟨rfl,h2⟩;have H2:=O h2;clear h2;go_wp2_with fail;refine Zu ?_;go_wp2;refine bodyPost_end (results_none rfl _ _ _) rfl ⟨rfl,H2.out⟩
end
end
section
attribute [local go_sem] Qq
attribute [local irreducible] Y4 Jm
section
variable{A:Og}{w:World}{F:Fp}{b:Nat}{p:Qe}{N:Nat}{dep:Int→Nat}
theorem Qnx(h:Qo A w F b p)(d:Qp dep N p)(hN:N<549755813887){i:Int}{c q:Qv}(hi:0<i)(hc:p.at i=some c)(J:p.at c.par=some q)(sl:Bool)
  {Bp Bs:Nat}(k:Qh w Bp #[ptr b] 77)(E:Qh w Bs #[.bool sl] 4)(ag:¬F Bp):
  Cl 164 #[.int .i64 i,ptr (A.ad i),.pointer (some ⟨Bs,0,none⟩),.pointer (some ⟨Bp,0,none⟩)] w fun e w'=>e=.returned (.tuple #[])∧Qo A w' (Qn F w w') b (p.rest1 sl i)∧Qc F w w':=by
 have ah:=(Qo.obj A).bd h;have y0:=Zv E;have y1:=Zv k;have U:=Q7 (h.cell hc);obtain⟨_,c1,_,_,_,_,c6,_⟩:=U;have ac:=O k;have R:∀r:Bool,(sl&&(c.leaf||decide (c.tree.length=0)))=r→p.rest1 sl i=Qe.note (if r then p.fam i (fun f=>f.sleep i)else p) i:=fun r hr=>by unfold Qe.rest1;rw[hc];dsimp only;rw[hr]
 have af:=O (Qbe h d (by omega) hi hc J);obtain⟨k1,k2,k3,k4⟩:=d.fam (f:=fun f=>f.sleep i) (Nat.le_refl _) hc hi J ((d.ok q (Qe.at_mem J).1).fam.sleep i);have B:=Eg (f:=fun f=>f.sleep i) hc J;have aa:Hid (∀w1,Qc Qb w w1→Cl 166 #[ptr (A.pf c.par),.int .i64 i] w1 fun e w'=>e=.returned (.tuple #[])∧Qo A w' (Qn F w w') b (p.fam i fun f=>f.sleep i)∧Qc F w w'):=O (by
  intro w1 cc;obtain⟨G,hF,ai,ae⟩:=h.famAt J;refine(Qnk (Jb.obj.keep hF cc (Je.none G)) i).mono ?_;rintro e w2⟨rfl,hf,I⟩;obtain⟨m1,m2⟩:=ae w1 w2 _ cc hf I;exact⟨rfl,B▸m1,m2⟩)
 have ab:Hid (∀w2,Qo A w2 (Qn F w w2) b (p.fam i fun f=>f.sleep i)→Qc F w w2→Cl 141 #[ptr b,.int .i64 i] w2 fun e w'=>e=.returned (.tuple #[])∧Qo A w' (Qn F w w') b ((p.fam i fun f=>f.sleep i).note i)∧Qc F w w'):=O (by
  intro w2 Z I;refine(Qbe Z k1 (by omega) hi k3 k4).mono ?_;rintro e w3⟨rfl,z,c3⟩;obtain⟨m1,m2⟩:=(Qo.obj A).two z ah I c3;exact⟨rfl,m1,m2⟩)
 obtain⟨d0,_,_,_,_,_,_,_⟩:=Q7 (h.drew.cell hc);obtain⟨_,_,_,_,_,f5,_,_⟩:=Q7 (h.drew.cell J);have hL:=h.drew.look1 c.par;rw[Xc J]at hL;have y2:=Zv h.drew.blk;have y3:=Zv k.drew;obtain⟨G6,ht⟩:=h.tre hc;have u:=O (Qto ht);generalize K:c.leaf=lf at c1 R;cases sl with
 |false=> rw[R false (by simp)];simp only[Bool.false_eq_true,if_false];unfold ptr at*;clear h d hc J k E k1 k2 k3 k4 B R ht d0 f5 hL y2 y3 K;go_enter func164,ntmps164;go_wp2_with fail;refine af.out.mono ?_;rintro e w3⟨rfl,z⟩;have V:=O z;clear z;go_wp2;refine bodyPost_end (results_none rfl _ _ _) rfl ⟨rfl,V.out⟩
 |true=>
  cases lf with
  |true=>
   rw[R true (by simp)];simp only[if_true];unfold ptr at*;clear h d hc J k E k1 k2 k3 k4 B R ht K;go_enter func164,ntmps164;go_wp2_with fail;refine Qi [(0,0),(0,1),(0,2),(0,3),(0,4),(0,5),(0,6),(0,7),(0,8),(0,9),(0,10),(0,11),(0,12),(2,13)] (by kernel_rfl) (by kernel_rfl) ?_ ?_;·exact fun _ _ _ _ _ h=>h
   simp only[Zs,Zf,Ze,Zd];iterate 13 (refine Zz (by kernel_rfl) (by go_simp;try with_reducible rfl) ?_)
   clear d0 f5 hL y2 y3 y1;refine Jj ?_;go_wp2_with fail;refine(aa.out _ (Qc.refl _ _).drew).mono ?_;rintro e w2⟨rfl,Z,I⟩;have H2:=O (ab.out _ Z I);have y1:=Zv (I.blk ac.out ag);unfold ptr at*;clear Z I;go_wp2_with fail;refine Zu ?_;go_wp2_with fail;refine H2.out.mono ?_;rintro e w3⟨rfl,z⟩;have V:=O z;clear z;go_wp2;refine bodyPost_end (results_none rfl _ _ _) rfl ⟨rfl,V.out⟩
  |false=>
   by_cases h0:c.tree.length=0
   ·rw[R true (by simp[h0])];simp only[if_true];have e0:((c.tree.length:Nat):Int)=0:=by omega
    rw[e0]at u;unfold ptr at*;clear h d hc J k E k1 k2 k3 k4 B R ht K;go_enter func164,ntmps164;go_wp2_with fail;refine u.out.mono ?_;rintro e w1⟨rfl,rfl⟩;go_wp2_with fail;refine Qi [(0,0),(0,1),(0,2),(0,3),(0,4),(0,5),(0,6),(0,7),(0,8),(0,9),(0,10),(0,11),(0,12),(2,13)] (by kernel_rfl) (by kernel_rfl) ?_ ?_;·exact fun _ _ _ _ _ h=>h
    simp only[Zs,Zf,Ze,Zd];iterate 13 (refine Zz (by kernel_rfl) (by go_simp;try with_reducible rfl) ?_)
    clear d0 f5 hL y2 y3 y1;refine Jj ?_;go_wp2_with fail;refine(aa.out _ (Qc.refl _ _).drew).mono ?_;rintro e w2⟨rfl,Z,I⟩;have H2:=O (ab.out _ Z I);have y1:=Zv (I.blk ac.out ag);unfold ptr at*;clear Z I;go_wp2_with fail;refine Zu ?_;go_wp2_with fail;refine H2.out.mono ?_;rintro e w3⟨rfl,z⟩;have V:=O z;clear z;go_wp2;refine bodyPost_end (results_none rfl _ _ _) rfl ⟨rfl,V.out⟩
   ·rw[R false (by simp[h0])];simp only[Bool.false_eq_true,if_false];have e0:(((c.tree.length:Nat):Int)==0)=false:=by rw[beq_eq_false_iff_ne];omega
    have e1:((c.tree.length:Nat):Int)≠0:=by omega
    generalize((c.tree.length:Nat):Int)=tl at u e0 e1;unfold ptr at*;clear h d hc J k E k1 k2 k3 k4 B R ht K d0 f5 hL y2 y3;go_enter func164,ntmps164;go_wp2_with fail;refine u.out.mono ?_;rintro e w1⟨rfl,rfl⟩;go_wp2_with fail;refine af.out.mono ?_;rintro e w3⟨rfl,z⟩;have V:=O z;clear z;go_wp2;refine bodyPost_end (results_none rfl _ _ _) rfl ⟨rfl,V.out⟩
theorem Dj(g:Nat){L:Nat}{p0:Qe}:∀id rest p,Yd dep N L p0 (id::rest) p→Qp dep (N+(L-(id::rest).length)+1) (p.gain1 g id)∧Z5 p (p.gain1 g id):=fun id rest p h=>by obtain⟨h1,c,q,hc,d,_⟩:=h.head;exact h.ok.gain1 g hc h1 d
theorem Eh(sl:Bool){L:Nat}{p0:Qe}:∀id rest p,Yd dep N L p0 (id::rest) p→Qp dep (N+(L-(id::rest).length)+1) (p.rest1 sl id)∧Z5 p (p.rest1 sl id):=fun id rest p h=>by obtain⟨h1,c,q,hc,d,_⟩:=h.head;exact h.ok.rest1 sl hc h1 d
theorem Qp.sent(d:Qp dep N p)(i:Int)(g:Nat)(more:Bool):Qp dep (N+16) (p.sent i g more)∧Z5 p (p.sent i g more):=by
 unfold Qe.sent;cases hc:p.at i with
 |none=>exact⟨d.more (by omega),Z5.refl _⟩
 |some c=>
  dsimp only;split;·exact⟨d.more (by omega),Z5.refl _⟩
  ·obtain⟨h1,_,u⟩:=Oq d hc;have k:=Hj (Dj g) _ _ (Yd.start d h1);have q:=Hj (Eh (!more&&((p.path 9 i).foldl (Qe.gain1 g) p).awake i)) _ _ (Yd.start (N:=N+(p.path 9 i).length) (by simpa using k.ok) (Va.same k.same h1));refine⟨q.ok.more (by simp;omega),k.same.trans q.same⟩
theorem Qqt(h:Qo A w F b p)(I:Qp dep N p)(hN:N<549755813000)(i:Int)(g:Nat)(V:g<18446744073709551616)(more:Bool):
  Cl 98 #[ptr b,.int .i64 i,.int .u64 (g:Int),.bool more] w fun e w'=>e=.returned (.tuple #[])∧Qo A w' (Qn F w w') b (p.sent i g more)∧Qc F w w':=by
 have ai:=(Qo.obj A).bd h;obtain⟨W,hW⟩:=Zx ((w.alloc (.cells #[.pointer (some ⟨b,0,none⟩)] 77)).alloc (.cells #[.int .u64 (g:Int)] 29));have C0:Hid (Qc Qb w W):=O (by rw[hW];exact((Qc.refl _ _).alloc _).alloc _);have B3:Hid (Qh W w.heap.size #[ptr b] 77):=O (by rw[hW];exact(Qh.new _ _ _).alloc _);have B5:Hid (Qh W (w.heap.size+1) #[.int .u64 (g:Int)] 29):=O (by rw[hW];exact Qh.new' _ _ (by simp));have hP:=(Qo.obj A).keep h C0.out (Je.none F);have HA:=O (V6 hP i);have u:¬F w.heap.size:=fun hk=>by have:=ai _ hk;omega
 have B:¬F (w.heap.size+1):=fun hk=>by have:=ai _ hk;omega
 have l3:=B3.out.lt;have l5:=B5.out.lt;have aa:Hid (∀w' p',Qo A w' (Qn F W w') b p'→Qc F W w'→Qo A w' (Qn F w w') b p'∧Qc F w w'):=O (fun w' p' h' c'=>by
  have c2:Qc F w w':=C0.out.none.trans' c';exact⟨(Qo.obj A).more h' (Yl C0.out.size) (ai.ext c2),c2⟩)
 have J:Hid (Qo A W (Qn F w W) b p∧Qc F w W):=O ((Qo.obj A).same h C0.out);unfold Qe.sent;cases hc:p.at i with
 |none=> rw[Ef hc]at HA;dsimp only;have a3:=Zv (hW▸B3.out);unfold ptr at*;clear h I hc hP u B l3 l5;go_enter func98,ntmps98;go_wp2_with fail;rw[←hW]at a3⊢;clear hW;refine HA.out.mono ?_;rintro e w1⟨rfl,rfl⟩;go_wp2;all_goals refine bodyPost_ret (results_none rfl _ _ _) rfl ⟨rfl,J.out⟩
 |some c=>
  rw[Xc hc]at HA;have a3:=Zv (hW▸B3.out);obtain⟨c0,c1,c2,c3,c4,c5,c6,c7⟩:=Q7 (hP.cell hc);by_cases Z:i<1∨c.leaf=false
  ·have e:(if(decide (i<1)||!c.leaf)=true then p else(p.path 9 i).foldl (Qe.rest1 (!more&&((p.path 9 i).foldl (Qe.gain1 g) p).awake i)) ((p.path 9 i).foldl (Qe.gain1 g) p))=p:=by rw[if_pos];rcases Z with h1|h1<;>simp[h1]
   dsimp only;rw[e];have fin:∀{d:Bool},decide (i<1)=d→(d=true∨c.leaf=false)→Cl 98 #[ptr b,.int .i64 i,.int .u64 (g:Int),.bool more] w fun e w'=>e=.returned (.tuple #[])∧Qo A w' (Qn F w w') b p∧Qc F w w':=by
    intro d hd an;have hx:(i<1)=(d=true):=by rw[←hd];simp
    generalize c.leaf=lf at c1 an;unfold ptr at*;clear h I hc hP u B l3 l5 e c0 c2 c3 c4 c5 c6 c7 Z;cases d with
    |true=>
     have Jl:i<1:=by simpa using hx
     go_enter func98,ntmps98;go_wp2_with fail;rw[←hW]at a3⊢;clear hW;refine HA.out.mono ?_;rintro e w1⟨rfl,rfl⟩;go_wp2;refine bodyPost_ret (results_none rfl _ _ _) rfl ⟨rfl,J.out⟩
    |false=>
     have Jl:¬i<1:=by simpa using hx
     obtain rfl:lf=false:=by simpa using an
     go_enter func98,ntmps98;go_wp2_with fail;rw[←hW]at a3⊢;clear hW;refine HA.out.mono ?_;rintro e w1⟨rfl,rfl⟩;go_wp2;refine bodyPost_ret (results_none rfl _ _ _) rfl ⟨rfl,J.out⟩
   exact fin rfl (Z.imp (fun h=>by simpa using h) id)
  ·have hi:0<i:=by omega
   have ac:c.leaf=true:=by cases h:c.leaf<;>simp_all
   have Jl:¬i<1:=by omega
   rw[ac]at c1;have e:(if(decide (i<1)||!c.leaf)=true then p else(p.path 9 i).foldl (Qe.rest1 (!more&&((p.path 9 i).foldl (Qe.gain1 g) p).awake i)) ((p.path 9 i).foldl (Qe.gain1 g) p))=(p.path 9 i).foldl (Qe.rest1 (!more&&((p.path 9 i).foldl (Qe.gain1 g) p).awake i)) ((p.path 9 i).foldl (Qe.gain1 g) p):=by rw[if_neg (by simp[ac,Jl])]
   dsimp only;rw[e];obtain⟨p1,p2,p3⟩:=Oq I hc;generalize p.path 9 i=l at p1 p2 p3⊢;have g0:=Yd.start I p1;have g1:=Hj (Dj g) _ _ g0;have aj:Qp dep (N+l.length) (l.foldl (Qe.gain1 g) p):=by simpa using g1.ok
   have g2:Yd dep (N+l.length) l.length (l.foldl (Qe.gain1 g) p) l (l.foldl (Qe.gain1 g) p):=Yd.start aj (Va.same g1.same p1);have H1:=O (Di 162 #[.pointer (some ⟨w.heap.size+1,0,none⟩),.pointer (some ⟨w.heap.size,0,none⟩)] (enters_of func162 (by kernel_rfl) rfl) (Qe.gain1 g) (Yd dep N l.length p) dep
    (fun id rest p' V=>V.next (Dj g id rest p' V).1 (Dj g id rest p' V).2)
    (fun id rest p' w' U ae R=>by
     obtain⟨h1,c',q,ag,hq,_⟩:=U.head;exact Qnw ae U.ok (by omega) h1 ag hq g V (R.blk B3.out u) (R.blk B5.out B) (Qn.not u l3) (Qn.not B l5))
    hP l g0 i p2.symm)
   have ab:Hid (∀w1(F1:Fp),Qo A w1 F1 b (l.foldl (Qe.gain1 g) p)→Cl 100 #[ptr b,.int .i64 i] w1 fun e w'=>e=.returned (.bool ((l.foldl (Qe.gain1 g) p).awake i))∧Qc Qb w1 w'):=O (fun w1 F1 h1=>U7 h1 aj i);have H2:Hid (∀(sl:Bool)w1 w2 Bs,Qo A w1 (Qn F W w1) b (l.foldl (Qe.gain1 g) p)→Qc F W w1→Qc Qb w1 w2→Qh w2 Bs #[.bool sl] 4→w1.heap.size≤Bs→Cl 136 #[ptr b,.int .i64 i,.func (.func 164) #[] #[.pointer (some ⟨Bs,0,none⟩),.pointer (some ⟨w.heap.size,0,none⟩)]] w2 fun e w'=>e=.returned (.tuple #[])∧Qo A w' (Qn F W w') b (l.foldl (Qe.rest1 sl) (l.foldl (Qe.gain1 g) p))∧Qc F W w'):=O (by
    intro sl w1 w2 Bs h1 z ca bs ax;have aq:=(Qo.obj A).bd h1;have h4:=(Qo.obj A).keep h1 ca (Je.none _);have nf:¬Qn F W w1 Bs:=fun hk=>by have:=aq _ hk;omega
    have s3:=z.size;have s4:=ca.size;have am:¬Qn F W w1 w.heap.size:=Qn.not u l3;refine(Di 164 #[.pointer (some ⟨Bs,0,none⟩),.pointer (some ⟨w.heap.size,0,none⟩)] (enters_of func164 (by kernel_rfl) rfl) (Qe.rest1 sl) (Yd dep (N+l.length) l.length (l.foldl (Qe.gain1 g) p)) dep
     (fun id rest p' V=>V.next (Eh sl id rest p' V).1 (Eh sl id rest p' V).2)
     (fun id rest p' w' U ae R=>by
      obtain⟨ap,c',q,ag,hq,_⟩:=U.head;exact Qnx ae U.ok (by omega) ap ag hq sl (R.blk (ca.blk (z.blk B3.out u) (fun h=>h)) am) (R.blk bs nf) (Qn.not am (by omega)))
     h4 l g2 i p2.symm).mono ?_
    rintro e w3⟨rfl,h5,c5⟩;have ao:Qc (Qn F W w1) w1 w3:=ca.none.trans' c5;obtain⟨m1,m2⟩:=(Qo.obj A).two ((Qo.obj A).more h5 (Yl ca.size) (((Qo.obj A).bd h1).ext ao)) ((Qo.obj A).bd hP) z ao;exact⟨rfl,m1,m2⟩)
   have ar:=O (And.intro u B);generalize(l.foldl (Qe.gain1 g) p)=av at H1 H2 ab⊢;generalize av.awake i=aw at ab⊢;unfold ptr at*;clear h I hc hP u B l3 l5 e c0 c2 c3 c4 c5 c6 c7 Z p1 p2 p3 g0 g1 g2 ac aj;go_enter func98,ntmps98;go_wp2_with fail;rw[←hW]at a3⊢;clear hW;refine HA.out.mono ?_;rintro e w1⟨rfl,rfl⟩;go_wp2_with fail;refine H1.out.mono ?_;rintro e w1⟨rfl,h1,z⟩;have E:=O (And.intro h1 z);have ah:=O (z.blk B3.out ar.out.1);have sz:=z.size;clear h1 z a3 c1;cases more with
   |true=> obtain⟨W2,hW2⟩:=Zx (w1.alloc (.cells #[.bool false] 4));have H3:=O (H2.out (!true&&aw) w1 W2 w1.heap.size E.out.1 E.out.2 (by rw[hW2];exact(Qc.refl _ _).alloc _) (by rw[hW2];exact Qh.new _ _ _) (Nat.le_refl _));have a4:=Zv (show Qh (w1.alloc (.cells #[.bool false] 4)) _ _ _ from ah.out.alloc _);unfold ptr at*;go_wp2_with fail;rw[←hW2]at a4⊢;clear hW2;refine H3.out.mono ?_;rintro e w2⟨rfl,h2,k⟩;have FF:=O (aa.out _ _ h2 k);clear h2 k;go_wp2;refine bodyPost_end (results_none rfl _ _ _) rfl ⟨rfl,FF.out⟩
   |false=>
    have ak:=O (ab.out w1 _ E.out.1);have a4:=Zv ah.out;have au:=O (H2.out aw w1);unfold ptr at*;go_wp2_with fail;refine ak.out.mono ?_;rintro e w2⟨rfl,k⟩;obtain⟨W3,K⟩:=Zx (w2.alloc (.cells #[.bool aw] 4));have al:Qh W3 w2.heap.size #[.bool aw] 4:=by rw[K];exact Qh.new _ _ _
    have af:Qc Qb w1 W3:=by rw[K];exact k.alloc _
    have H3:=O (au.out W3 w2.heap.size E.out.1 E.out.2 af al k.size);have a5:=Zv (show Qh (w2.alloc (.cells #[.bool aw] 4)) w.heap.size _ _ from K▸af.blk ah.out (fun h=>h));unfold ptr at*;clear k al af a4;go_wp2_with fail;rw[←K]at a5⊢;clear K;refine H3.out.mono ?_;rintro e w3⟨rfl,h2,k⟩;have FF:=O (aa.out _ _ h2 k);clear h2 k;go_wp2;refine bodyPost_end (results_none rfl _ _ _) rfl ⟨rfl,FF.out⟩
end
def spV(s:Xm):Value:=.agg #[.int .i64 s.id,.int .i64 s.par,.bool s.leaf,.int .u64 (s.real.f:Int),.int .u64 (s.real.l:Int),.int .u64 (s.real.r:Int),.int .u64 (s.share.f:Int),.int .u64 (s.share.l:Int),.int .u64 (s.share.r:Int),.int .u64 (s.upper.f:Int),.int .u64 (s.upper.l:Int),.int .u64 (s.upper.r:Int),.int .i64 s.pk,.int .i64 s.bt]
theorem Qcf(s:Xm)(w:World):Cl 125 #[spV s] w fun e w'=>e=.returned (.bool s.shares)∧Qc Qb w w':=by
 have R:=O (J0.new w s);have z:=O ((Qc.refl Qb w).alloc (.cells #[.int .i64 s.id,.int .i64 s.par,.bool s.leaf,.int .u64 (s.real.f:Int),.int .u64 (s.real.l:Int),.int .u64 (s.real.r:Int),.int .u64 (s.share.f:Int),.int .u64 (s.share.l:Int),.int .u64 (s.share.r:Int),.int .u64 (s.upper.f:Int),.int .u64 (s.upper.l:Int),.int .u64 (s.upper.r:Int),.int .i64 s.pk,.int .i64 s.bt] 40));have k:=O (fun w=>Yz s.share w);have B:=O (fun w=>Y0 s.share w);unfold Xm.shares;cases c:s.share.none with
 |true=> rw[c]at k;unfold spV;clear c;go_enter func125,ntmps125;go_wp2_with fail;refine(k.out _).mono ?_;rintro e w1⟨rfl,d⟩;have q:=O (z.out.trans' d);clear d;go_wp2;go_ret;exact⟨rfl,q.out⟩
 |false=> rw[c]at k;generalize decide s.share.May=r at B⊢;unfold spV;clear c;go_enter func125,ntmps125;go_wp2_with fail;refine(k.out _).mono ?_;rintro e w1⟨rfl,d⟩;obtain⟨Z,a1,a2,a3,a4,a5,V,a7,a8,a9,I,E,U,K⟩:=(R.out.keep d).cells;have q:=O (z.out.trans' d);clear d;go_wp2_with fail;refine(B.out _).mono ?_;rintro e w2⟨rfl,u⟩;have J:=O (q.out.trans' u);clear u;go_wp2;go_ret;exact⟨by simp,J.out⟩
section
variable{X:Type}{key:X→Int}{Is Is':World→Fp→Nat→X→Prop}{w w':World}{F:Fp}{m:Nat}{ad:Int→Nat}{l:List X}
theorem Xy.imp(h:Xy key Is w F m ad l)(hi:∀x∈l,∀G,Is w G (ad (key x)) x→Is' w G (ad (key x)) x):Xy key Is' w F m ad l:=by obtain⟨G,h1,k,d⟩:=h.ex;exact⟨h.map,h.bd,h.at_,G,fun x c=>hi x c _ (h1 x c),k,d⟩
end
section
variable{A:Og}{w:World}{F:Fp}{b:Nat}{p:Qe}{N:Nat}{dep:Int→Nat}
def Og.put(A:Og)(i:Int)(bc:Nat)(c:Value)(pf pt:Nat):Og:=⟨A.m,fun j=>if j=i then bc else A.ad j,fun j=>if j=i then c else A.vl j,fun j=>if j=i then pf else A.pf j,fun j=>if j=i then pt else A.pt j⟩
theorem Qny{i:Int}{bc pf pt:Nat}{d:Value}{c:Qv}(h:c.id≠i):Qaj (A.put i bc d pf pt) c=Qaj A c:=by unfold Qaj Og.put;simp only[h,if_false]
theorem Qg1{w0 w1 w2 w3:World}(h:w1.heap.size≤w2.heap.size):Je (Qn Qb w0 w1) (Qn Qb w2 w3):=fun k a b=>by have:=((Qt k).1 a).2;have:=((Qt k).1 b).1;omega
theorem O1{w0 w1 w2 w3:World}(h1:w0.heap.size≤w1.heap.size)(c:w2.heap.size≤w3.heap.size):∀k,Qn Qb w1 w2 k→Qn Qb w0 w3 k:=fun k a=>by have:=(Qt k).1 a;exact(Qt k).2 ⟨by omega,by omega⟩
theorem Qcg(w0 w1:World):Bd (Qn Qb w0 w1) w1:=fun k c=>((Qt k).1 c).2
theorem Qye{w0 w1 w2 w3 c:World}{x:Qv}{d:Nat}{pf pt:Nat}(Z:Qc Qb w0 w1)(R:Qc Qb w1 w2)(I:Qc Qb w2 w3)(E:Qc Qb w3 c)
  (hl:Ue w1 (Qn Qb w0 w1) d x.limit)(hf:Jb w2 (Qn Qb w1 w2) pf x.mem)(ht:Zo w3 (Qn Qb w2 w3) pt x.tree)(U:Qh c w3.heap.size (Qbc x (ptr d) pf pt) 143):
  V4 (A.put x.id w3.heap.size (ptr d) pf pt) c (Qn Qb w0 c) w3.heap.size x:=by
 have s1:=Z.size;have s2:=R.size;have s3:=I.size;have B:=E.size;have Jl:=U.lt;refine⟨by simp[Og.put],?_⟩;have e1:(A.put x.id w3.heap.size (ptr d) pf pt).ad x.id=w3.heap.size:=by simp[Og.put]
 have e2:(A.put x.id w3.heap.size (ptr d) pf pt).vl x.id=ptr d:=by simp[Og.put]
 have V:(A.put x.id w3.heap.size (ptr d) pf pt).pf x.id=pf:=by simp[Og.put]
 have e4:(A.put x.id w3.heap.size (ptr d) pf pt).pt x.id=pt:=by simp[Og.put]
 unfold Qaj;rw[e1,e2,V,e4];have h1:Dd (ptr d) x.limit c (Qn Qb w0 w1):=.inr ⟨d,rfl,Ue.obj.keep hl ((R.trans' I).trans' E) (Je.none _)⟩;have h2:Jb c (Qn Qb w1 w2) pf x.mem:=Jb.obj.keep hf (I.trans' E) (Je.none _);have h3:Zo c (Qn Qb w2 w3) pt x.tree:=Zo.obj.keep ht E (Je.none _);have K:Bd (Qn Qb w0 c) c:=Qcg _ _;have J:Bd (Qn Qb w0 w3) c:=fun k q=>Nat.lt_of_lt_of_le (Qcg _ _ k q) B;have u:Bd (Qn Qb w1 w3) c:=fun k q=>Nat.lt_of_lt_of_le (Qcg _ _ k q) B;have z:Bd (Qn Qb w2 w3) c:=fun k q=>Nat.lt_of_lt_of_le (Qcg _ _ k q) B;refine Zl (G:=fun k=>k=w3.heap.size) (H:=Qn Qb w0 w3) ⟨U,rfl,fun k e=>e▸Jl⟩ ?_ (fun k e q=>by have:=Qcg _ _ k q;omega) (fun k e=>(Qt k).2 ⟨by omega,by omega⟩) (O1 (Nat.le_refl _) B) K;refine Zl (G:=Qn Qb w0 w1) (H:=Qn Qb w1 w3) h1 ?_ (Qg1 (Nat.le_refl _)) (O1 (Nat.le_refl _) (by omega)) (O1 s1 (Nat.le_refl _)) J;exact Zl (G:=Qn Qb w1 w2) (H:=Qn Qb w2 w3) h2 (Yv h3 z) (Qg1 (Nat.le_refl _)) (O1 (Nat.le_refl _) s3) (O1 s2 (Nat.le_refl _)) u
theorem Qo.newC(h:Qo A w F b p){x:Qv}{bc:Nat}{u:Value}{pf pt:Nat}(hn:p.at x.id=none){z:World}(c4:Qc Qb w z)(hx:V4 (A.put x.id bc u pf pt) z (Qn Qb w z) bc x):
  ∃c,(Instr.mapUpdate 136 (.map (some A.m)) (.int .i64 x.id) (ptr bc)).run prog z=.ok () c∧Qo (A.put x.id bc u pf pt) c (Qn F w c) b (p++[x])∧Qc F w c∧Qc (fun k=>k=A.m) z c:=by
 have R:=(Qo.obj A).bd h;obtain⟨l,Z,hs⟩:=h;obtain⟨G,d,hG,_,I⟩:=Ju 1 (Y8 A b l) rfl hs;obtain⟨c,B,U,J⟩:=J9 (P:=prog) (d.map.keep c4 (fun h=>h)) underlying136 underlying3 x.id (ptr bc);have ab:=(d.keep (V4.obj A) c4 (Je.none G)).imp (Is':=V4 (A.put x.id bc u pf pt)) (fun y hy G' aa=>by
  have E:y.id≠x.id:=fun e=>by have h1:=Qe.at_of (p:=l) d.nodup hy;rw[Qe.at_eq Z d.nodup]at hn;rw[e]at h1;have:Qe.at l x.id=none:=hn;rw[h1]at this;cases this
  refine⟨?_,?_⟩;·show A.ad y.id=(if y.id=x.id then bc else A.ad y.id);rw[if_neg E]
  ·rw[Qny E];exact aa.2)
 have V:=ab.put (V4.obj _) hx (fun k a b'=>by
  have h1:=((Qt k).1 a).1;have:=R k (hG k b');omega) (by rw[←Qe.at_eq Z d.nodup];exact hn) U J
 have K:Qc G w c:=(c4.none (F:=G)).trans' (J.sub fun k q=>q▸d.at_);have h5:=I c (fun w G=>Xy Qv.id (V4 (A.put x.id bc u pf pt)) w G (A.put x.id bc u pf pt).m (A.put x.id bc u pf pt).ad (l++[x])) K
  (V.more (fun k q=>q.elim .inl (fun q=>.inr ⟨((Qt k).1 q).1,Nat.lt_of_lt_of_le ((Qt k).1 q).2 J.size⟩)) (d.bd.ext K))
 exact⟨c,B,⟨l++[x],Z.append_right _,h5⟩,K.sub hG,J⟩
end
end
end Go.Proofs.YtnnhmpehkbihnaaGreat
