/- A part of the proof: no condition. -/
import Derived.Test.YtnnhmpehkbihnaaGreatPs16
namespace Go.Proofs.YtnnhmpehkbihnaaGreat
set_option linter.unusedVariables false
set_option maxRecDepth 100000
set_option maxHeartbeats 4000000
open Go.RowKit
open Go.Proofs.Tryz
section
variable{p:Qe}{N M:Nat}{dep:Int→Nat}
theorem Hq{x y:Qx}(h:p.at x.id=some y):(p.set x).at x.id=some x:=by
 unfold Qe.at Qe.set at*;induction p with
 |nil=>cases h
 |cons z p d=>
  rw[List.map_cons,List.find?_cons];rw[List.find?_cons]at h;by_cases c:z.id=x.id;·simp[c]
  ·simp only[c,decide_false,if_false]at h⊢;exact d h
theorem V5{x:Qx}{i:Int}(h:i≠x.id):(p.set x).at i=p.at i:=by
 unfold Qe.at Qe.set;induction p with
 |nil=>rfl
 |cons z p k=>
  rw[List.map_cons,List.find?_cons,List.find?_cons];by_cases c:z.id=x.id;·rw[if_pos c];have h1:¬x.id=i:=fun e=>h e.symm;have q:¬z.id=i:=fun e=>h (by rw[←e,c]);simp only[h1,q,decide_false];exact k
  ·rw[if_neg c];by_cases d:z.id=i;·simp[d]
   ·simp only[d,decide_false];exact k
theorem V0{x y:Qx}(h:p.at x.id=some y)(i:Int):(p.set x).at i=if i=x.id then some x else p.at i:=by
 split;·rename_i e;rw[e];exact Hq h
 ·rename_i e;exact V5 e
theorem Qns(x:Qx):(p.set x).map Qx.id=p.map Qx.id:=by
 unfold Qe.set;rw[List.map_map];refine List.map_congr_left fun y _=>?_;simp only[Function.comp];split;·rename_i h;exact h.symm
 ·rfl
theorem mem_set{x y:Qx}(h:y∈p.set x):y=x∨(y∈p∧y.id≠x.id):=by
 obtain⟨z,c,rfl⟩:=Z3.1 h;by_cases e:z.id=x.id;·rw[if_pos e];exact .inl rfl
 ·rw[if_neg e];exact .inr ⟨c,e⟩
theorem Qs.set(h:Qs dep N p)(hm:N≤M){x y:Qx}(I:p.at x.id=some y)(Z:x.par=y.par)(hl:x.leaf=y.leaf)(hk:Ps M x)
  (ht:∀e∈x.tree,∃c,p.at e.2.1=some c∧c.par=x.id∧0<e.2.1):Qs dep M (p.set x):=by
 have U:=(Qe.aE I).2;have look:∀{i c},p.at i=some c→∃c',(p.set x).at i=some c'∧c'.par=c.par∧c'.leaf=c.leaf:=fun{i c}hc=>by
  rw[V0 I];by_cases e:i=x.id;·subst e;rw[I]at hc;obtain rfl:=Zs hc;exact⟨x,by rw[if_pos rfl],Z,hl⟩
  ·exact⟨c,by rw[if_neg e];exact hc,rfl,rfl⟩
 refine⟨by rw[Qns];exact h.nd,?_,⟨h.up.1,fun c hc h0=>?_⟩,fun q B e V=>?_,fun c hc=>?_⟩;·obtain⟨r,hr,K⟩:=h.root;obtain⟨r',h1,_,u⟩:=look hr;exact⟨r',h1,u.trans K⟩
 ·obtain⟨E,R,k⟩:∃E,E∈p∧E.id=c.id∧E.par=c.par:=by
   rcases mem_set hc with rfl|⟨hc,_⟩;·exact⟨y,(Qe.aE I).1,U,Z.symm⟩
   ·exact⟨c,hc,rfl,rfl⟩
  have:=h.up.2 E R (by rw[k.1];exact h0);rw[k.1,k.2]at this;obtain⟨h1,⟨q,B⟩,z⟩:=this;obtain⟨q',J,_⟩:=look B;exact⟨h1,⟨q',J⟩,z⟩
 ·rcases mem_set B with rfl|⟨B,_⟩;·obtain⟨c,hc,h1,u⟩:=ht e V;obtain⟨c',d,z,_⟩:=look hc;exact⟨c',d,z.trans h1,u⟩
  ·obtain⟨c,hc,h1,u⟩:=h.tr q B e V;obtain⟨c',d,z,_⟩:=look hc;exact⟨c',d,z.trans h1,u⟩
 ·rcases mem_set hc with rfl|⟨hc,_⟩;·exact hk
  ·exact(h.ok c hc).more hm
theorem Qs.more(h:Qs dep N p)(d:N≤M):Qs dep M p:=⟨h.nd,h.root,h.up,h.tr,fun c hc=>(h.ok c hc).more d⟩
def Vy(p:Qe):List Int→Prop
 |[]=>True
 |id::rest=>0<id∧(∃c,p.at id=some c∧c.par=Eu rest)∧Vy p rest
def Jv(p p':Qe):Prop:=∀i,(p'.at i).map (fun c=>(c.par,c.leaf,c.aJ))=(p.at i).map (fun c=>(c.par,c.leaf,c.aJ))
theorem Jv.get{p p':Qe}(h:Jv p p'){i:Int}{c:Qx}(hc:p.at i=some c):∃c',p'.at i=some c'∧c'.par=c.par∧c'.leaf=c.leaf∧c'.aJ=c.aJ:=by
 have:=h i;rw[hc]at this;cases h':p'.at i with
 |none=>rw[h']at this;cases this
 |some c'=> rw[h']at this;simp only[Zn,Option.some.injEq,Prod.mk.injEq]at this;exact⟨c',rfl,this⟩
theorem Jv.refl(p:Qe):Jv p p:=fun _=>rfl
theorem Jv.trans{p p' p'':Qe}(h:Jv p p')(h':Jv p' p''):Jv p p'':=fun i=>(h' i).trans (h i)
theorem Jv.set{x y:Qx}(c:p.at x.id=some y)(d:x.par=y.par)(hl:x.leaf=y.leaf)(hs:x.aJ=y.aJ):Jv p (p.set x):=fun i=>by
 rw[V0 c];by_cases e:i=x.id;·subst e;rw[if_pos rfl,c];simp[d,hl,hs]
 ·rw[if_neg e]
theorem Vy.same{p p':Qe}(h:Jv p p'):∀{l:List Int},Vy p l→Vy p' l
 |[],_=>trivial
 |id::rest,⟨h1,⟨c,hc,hp⟩,h3⟩=>by obtain⟨c',d,e,_⟩:=h.get hc;exact⟨h1,⟨c',d,e.trans hp⟩,Vy.same h h3⟩
theorem Qs.pid(h:Qs dep N p){i:Int}{c q:Qx}(hc:p.at i=some c)(hi:0<i)(u:p.at c.par=some q):q.id≠i∧q.id=c.par:=by obtain⟨k,rfl⟩:=Qe.aE hc;have h1:=(Qe.aE u).2;have d:=(h.up.2 c k (by omega)).2.2.1;refine⟨fun e=>?_,h1⟩;rw[h1]at e;rw[e]at d;omega
def Kw(N:Nat)(f:Jc):Prop:=(∀x∈f.all,x.total≤Xw∧x.run.l.length≤N∧x.v≤Qq)∧f.mark≤Qq
theorem reach_le(r:Xh)(y:Nat):r.reach y≤Qq:=by
 unfold Xh.reach Kn;split
 ·split;·exact Nat.zero_le _
  ·exact Zv _
 ·split;·exact Zv _
  ·exact Nat.min_le_left _ _
theorem Kw.more{f:Jc}(h:Kw N f)(d:N≤M):Kw M f:=⟨fun x c=>⟨(h.1 x c).1,Zp (h.1 x c).2.1 d,(h.1 x c).2.2⟩,h.2⟩
theorem Qg2{f:Jc}{a x:Jh}(h:x∈(f.set a).all):x=a∨x∈f.all:=by
 obtain⟨z,c,rfl⟩:=Z3.1 h;split;·exact .inl rfl
 ·exact .inr c
theorem Kw.set{f:Jc}{a:Jh}(h:Kw N f)(d:N≤M)(ha:a.total≤Xw∧a.run.l.length≤M∧a.v≤Qq):Kw M (f.set a):=⟨fun x c=>(Qg2 c).elim (fun e=>e▸ha) (fun c=>(h.more d).1 x c),h.2⟩
theorem Kw.made{f:Jc}{a:Jh}{v:Nat}(h:Kw N f)(d:N≤M)(ha:a.total≤Xw∧a.run.l.length≤M)(c:v≤Qq):Kw M (f.made a v):=by have h1:=h.set (a:={a with v:=v}) d ⟨ha.1,ha.2,c⟩;exact⟨h1.1,Nat.max_le.2 ⟨h.2,c⟩⟩
theorem Qsu{f:Jc}(h:Kw N f){x:Jh}(d:x∈f.all):f.start x≤Qq:=by have k:=(h.1 x d).2.2;have c:=h.2;unfold Jc.start;have h1:f.most≤Qq:=Qaq _ fun z q=>(h.1 z (List.mem_filter.1 q).1).2.2;have u:f.least≤Qq:=Cg _;split<;>omega
theorem Kw.wake{f:Jc}(h:Kw N f)(i:Int):Kw (N+1) (f.wake i):=by
 unfold Jc.wake;cases d:f.at i with
 |none=>exact h.more (Nat.le_succ _)
 |some m=>
  have c:=(Jc.aE d).1;dsimp only;split;·exact h.more (Nat.le_succ _)
  ·exact h.made (Nat.le_succ _) ⟨(h.1 m c).1,by have:=(h.1 m c).2.1;dsimp only;rw[Gj];omega⟩ (Qsu h c)
theorem Kw.sleep{f:Jc}(h:Kw N f)(i:Int):Kw N (f.sleep i):=by
 unfold Jc.sleep;cases c:f.at i with
 |none=>exact h
 |some m=>exact h.set (Zv _) (h.1 m (Jc.aE c).1)
theorem Kw.gain{f:Jc}(h:Kw N f)(i:Int)(g:Nat):Kw N (f.gain i g):=by
 unfold Jc.gain;cases d:f.at i with
 |none=>exact h
 |some m=>
  have c:=h.1 m (Jc.aE d).1;have ht:m.total+min g (Xw-m.total)≤Xw:=by have:=c.1;omega
  dsimp only;split;·exact h.made (Zv _) ⟨ht,c.2.1⟩ (reach_le _ _)
  ·exact h.set (Zv _) ⟨ht,c.2⟩
theorem Kw.add{f:Jc}(h:Kw N f)(i:Int)(c:Jy):Kw N (f.add i c):=by
 unfold Jc.add;cases d:f.at i with
 |some m=>exact h
 |none=>
  refine⟨fun x d=>?_,h.2⟩;rcases Zl.1 d with d|d;·exact h.1 x d
  ·obtain rfl:x=_:=by simpa using d
   exact⟨Nat.zero_le _,Nat.zero_le _,Nat.zero_le _⟩
theorem Kw.drop{f:Jc}(h:Kw N f)(i:Int):Kw N (f.drop i):=⟨fun x c=>h.1 x (List.mem_filter.1 c).1,h.2⟩
theorem Ps.fam{c:Qx}(h:Ps N c):Kw N c.mem:=⟨h.mem,h.mark⟩
theorem Ps.withMem{c:Qx}(h:Ps N c){f:Jc}(d:N≤M)(hf:Kw M f):Ps M {c with mem:=f}:=⟨h.total,(h.more d).lim,hf.1,hf.2,(h.more d).tree,h.aM⟩
theorem Py{i:Int}{c q:Qx}{f:Jc→Jc}(hc:p.at i=some c)(d:p.at c.par=some q):p.fam i f=p.set {q with mem:=f q.mem}:=by unfold Qe.fam;rw[hc];dsimp only;rw[d]
theorem Qs.fam(h:Qs dep N p)(E:N≤M){i:Int}{c q:Qx}{f:Jc→Jc}(hc:p.at i=some c)(hi:0<i)(z:p.at c.par=some q)(hf:Kw M (f q.mem)):
  Qs dep M (p.fam i f)∧Jv p (p.fam i f)∧(p.fam i f).at i=some c∧(p.fam i f).at c.par=some {q with mem:=f q.mem}:=by
 rw[Py hc z];obtain⟨B,k⟩:=h.pid hc hi z;have d:p.at ({q with mem:=f q.mem}:Qx).id=some q:=by show p.at q.id=_;rw[k];exact z
 have u:=(Qe.aE z).1;refine⟨h.set E d rfl rfl ((h.ok q u).withMem E hf) (fun e I=>h.tr q u e I),Jv.set d rfl rfl rfl,?_,?_⟩;·exact(V5 (x:={q with mem:=f q.mem}) (show i≠q.id from fun e=>B e.symm)).trans hc
 ·rw[←k];exact Hq d
theorem Qo4{l:Kg}{r:Xh}{now t:Nat}(h:l.wake now t=some r)(hl:∀r,l=some r→r.l.length≤N):r.l.length≤N+1:=by
 unfold Kg.wake at h;cases l with
 |none=>cases h
 |some c=> obtain rfl:=Zs h;have:=hl c rfl;rw[Gj];omega
theorem Qs.up1(h:Qs dep N p)(now:Nat){i:Int}{c q:Qx}(hc:p.at i=some c)(hi:0<i)(I:p.at c.par=some q):Qs dep (N+1) (p.up1 now i)∧Jv p (p.up1 now i):=by
 unfold Qe.up1;rw[hc];dsimp only;split;·exact⟨h.more (Nat.le_succ _),Jv.refl _⟩
 ·have E:=(Qe.aE I).1;have B:=(Qe.aE hc).2;obtain⟨h1,J,z,R⟩:=h.fam (f:=fun f=>f.wake i) (Nat.le_succ N) hc hi I ((h.ok q E).fam.wake i);have u:(p.fam i fun f=>f.wake i).at ({c with limit:=c.limit.wake now c.total}:Qx).id=some c:=by show Qe.at _ c.id=_;rw[B];exact z
  have k:=h.ok c (Qe.aE hc).1;have d:=h1.ok c (Qe.aE z).1;refine⟨h1.set (Zv _) u rfl rfl ⟨k.total,fun r hr=>Qo4 hr k.lim,d.mem,d.mark,d.tree,k.aM⟩ (fun e K=>h1.tr c (Qe.aE z).1 e K),J.trans (Jv.set u rfl rfl rfl)⟩
theorem Qs.note(h:Qs dep N p){i:Int}{c q:Qx}(hc:p.at i=some c)(hi:0<i)(E:p.at c.par=some q):Qs dep (N+1) (p.note i)∧Jv p (p.note i):=by
 rw[St hc E];obtain⟨J,z⟩:=h.pid hc hi E;have B:=(Qe.aE E).1;have d:=h.ok q B;have key:∀t:List Xu,t.length≤N+1→(∀e∈t,e.2.1=i∨e∈q.tree)→Qs dep (N+1) (p.set {q with tree:=t})∧Jv p (p.set {q with tree:=t}):=fun t hl ht=>by
  have u:p.at ({q with tree:=t}:Qx).id=some q:=by show p.at q.id=_;rw[z];exact E
  refine⟨h.set (Nat.le_succ _) u rfl rfl ⟨d.total,(d.more (Nat.le_succ _)).lim,(d.more (Nat.le_succ _)).mem,d.mark,hl,d.aM⟩ (fun e k=>?_),Jv.set u rfl rfl rfl⟩;rcases ht e k with k|k;·exact⟨c,by rw[k];exact hc,z.symm,by rw[k];exact hi⟩
  ·exact h.tr q B e k
 have I:(Xa i q.tree).length≤q.tree.length:=List.length_filter_le _ _;split
 ·refine key _ ?_ fun e k=>?_;·have:=(En (p.v i,i,c.fit) (Xa i q.tree)).length_eq;unfold Vf;have K:=d.tree;simp only[Zm]at this;omega
  ·rcases Lb.1 k with rfl|k;·exact .inl rfl
   ·exact .inr (List.mem_filter.1 k).1
 ·exact key _ (by have:=d.tree;omega) fun e k=>.inr (List.mem_filter.1 k).1
theorem Qs.gain1(h:Qs dep N p)(g:Nat){i:Int}{c q:Qx}(hc:p.at i=some c)(hi:0<i)(K:p.at c.par=some q):Qs dep (N+1) (p.gain1 g i)∧Jv p (p.gain1 g i):=by
 unfold Qe.gain1;rw[hc];dsimp only;obtain⟨I,J⟩:=h.pid hc hi K;have u:=(Qe.aE hc).2;have d:=h.ok c (Qe.aE hc).1;have k:p.at ({c with total:=c.total+min g (Xw-c.total)}:Qx).id=some c:=by show p.at c.id=_;rw[u];exact hc
 have h1:=h.set (Nat.le_succ N) k rfl rfl ⟨(by have:=d.total;dsimp only;omega),(d.more (Nat.le_succ _)).lim,(d.more (Nat.le_succ _)).mem,d.mark,(d.more (Nat.le_succ _)).tree,d.aM⟩ (fun e U=>h.tr c (Qe.aE hc).1 e U);have R:=Jv.set (p:=p) k rfl rfl rfl;have B:(p.set {c with total:=c.total+min g (Xw-c.total)}).at i=some {c with total:=c.total+min g (Xw-c.total)}:=by have:=Hq k;rw[←u];exact this
 have z:(p.set {c with total:=c.total+min g (Xw-c.total)}).at c.par=some q:=by exact(V5 (x:={c with total:=c.total+min g (Xw-c.total)}) (show c.par≠c.id from fun e=>I (by rw[J,e,u]))).trans K
 have E:=(h1.ok q (Qe.aE z).1).fam.gain i g;obtain⟨k1,k2,_⟩:=h1.fam (f:=fun f=>f.gain i g) (Zv _) B hi z E;exact⟨k1,R.trans k2⟩
theorem Qs.rest1(h:Qs dep N p)(sl:Bool){i:Int}{c q:Qx}(hc:p.at i=some c)(hi:0<i)(d:p.at c.par=some q):Qs dep (N+1) (p.rest1 sl i)∧Jv p (p.rest1 sl i):=by
 unfold Qe.rest1;rw[hc];dsimp only;split;·obtain⟨k1,k2,k,u⟩:=h.fam (f:=fun f=>f.sleep i) (Zv _) hc hi d ((h.ok q (Qe.aE d).1).fam.sleep i);obtain⟨l1,l2⟩:=k1.note k hi u;exact⟨l1,k2.trans l2⟩
 ·exact h.note hc hi d
structure Y9(dep:Int→Nat)(N L:Nat)(p0:Qe)(rest:List Int)(p:Qe):Prop where
 len:rest.length≤L
 ok:Qs dep (N+(L-rest.length)) p
 path:Vy p rest
 same:Jv p0 p
theorem Y9.head{p0:Qe}{L:Nat}{id:Int}{rest:List Int}(h:Y9 dep N L p0 (id::rest) p):0<id∧∃c q,p.at id=some c∧p.at c.par=some q∧c.par=Eu rest:=by obtain⟨h1,⟨c,hc,d⟩,_⟩:=h.path;obtain⟨q,k⟩:=h.ok.par hc h1;exact⟨h1,c,q,hc,k,d⟩
theorem Y9.next{p0:Qe}{L:Nat}{id:Int}{rest:List Int}(h:Y9 dep N L p0 (id::rest) p){p':Qe}(d:Qs dep (N+(L-(id::rest).length)+1) p')(hs:Jv p p'):
  0<id∧dep (Eu rest)<dep id∧Y9 dep N L p0 rest p'∧(∃c,p.at id=some c)∧∃c',p'.at id=some c'∧c'.par=Eu rest:=by
 obtain⟨h1,c,q,hc,J,B⟩:=h.head;obtain⟨I,u⟩:=Qe.aE hc;have E:=(h.ok.up.2 c I (by omega)).2.2.1;rw[B,u]at E;obtain⟨c',k,z,_⟩:=hs.get hc;have hl:=h.len;simp only[Zm]at hl d;refine⟨h1,by omega,⟨by omega,?_,Vy.same hs h.path.2.2,h.same.trans hs⟩,⟨c,hc⟩,c',k,z.trans B⟩;rw[show N+(L-rest.length)=N+(L-(rest.length+1))+1 by omega];exact d
end
section
attribute [local go_sem] Qp
attribute [local irreducible] Kl J9
section
variable{A:Dz}{w:World}{F:Fp}{b:Nat}{p:Qe}{N:Nat}{dep:Int→Nat}
theorem Qkx(now x:Nat)(w):Cl 139 #[.pointer none,.int .u64 now,.int .u64 x] w fun e w'=>e=.returned (.tuple #[])∧Qc Qb w w':=by have k:=O (F8 w);go_enter func139,ntmps139;go_wp2_with fail;refine Zy k ?_;intro w1 c;have d:=O c;clear c;go_wp2;refine bodyPost_end (by simp[*,results,Tryz.results139,go_sem]) rfl ⟨rfl,d.o⟩
theorem Qhs{v:Value}{l:Kg}{G:Fp}(h:Do v l w G)(hn:∀r,l=some r→r.l.length<549755813888)(now x:Nat)(h1:now<18446744073709551616)(d:x<18446744073709551616):
  Cl 139 #[v,.int .u64 now,.int .u64 x] w fun e w'=>e=.returned (.tuple #[])∧Do v (l.wake now x) w' (Qn G w w')∧Qc G w w':=by
 rcases h with⟨rfl,rfl,k⟩|⟨q,rfl,h⟩;·refine Zz (Qkx now x w) ?_;intro w1 c;exact⟨rfl,.inl ⟨rfl,rfl,k.ext (c.none (F:=G))⟩,c.none⟩
 ·refine Zz (Qkw h hn now x h1 d) ?_;rintro w1⟨h',c⟩;exact⟨rfl,.inr ⟨q,rfl,h'⟩,c⟩
theorem Qo.famAt(h:Qo A w F b p){i:Int}{q:Qx}(I:p.at i=some q):
  ∃G:Fp,J0 w G (A.pf i) q.mem∧(∀k,G k→F k)∧∀w1 w2 f,Qc Qb w w1→J0 w2 (Qn G w1 w2) (A.pf i) f→Qc G w1 w2→Qo A w2 (Qn F w w2) b (p.set {q with mem:=f})∧Qc F w w2:=by
 obtain⟨E,hi⟩:=Qe.aE I;obtain⟨G,h1,z,B⟩:=h.famOf E;rw[hi]at h1;refine⟨G,h1,z,fun w1 w2 f c hf u=>?_⟩;have d:Qc G w w2:=c.none.aA u;exact B w2 f (by rw[hi];exact J0.obj.more hf (Ke c.size) ((J0.obj.bd h1).ext d)) d
theorem Qo.limAt(h:Qo A w F b p){i:Int}{q:Qx}(I:p.at i=some q):
  ∃G:Fp,Do (A.vl i) q.limit w G∧(∀k,G k→F k)∧∀w1 w2 f,Qc Qb w w1→Do (A.vl i) f w2 (Qn G w1 w2)→Qc G w1 w2→Qo A w2 (Qn F w w2) b (p.set {q with limit:=f})∧Qc F w w2:=by
 obtain⟨E,hi⟩:=Qe.aE I;obtain⟨G,h1,z,B⟩:=h.limOf E;rw[hi]at h1;refine⟨G,h1,z,fun w1 w2 f c hf u=>?_⟩;have d:Qc G w w2:=c.none.aA u;exact B w2 f (by rw[hi];exact(Do.good _ _).more hf (Ke c.size) (((Do.good _ _).bd h1).ext d)) d
theorem Qpm(h:Qo A w F b p)(k:Qs dep N p)(hN:N<549755813887){i:Int}{c q:Qx}(hi:0<i)(hc:p.at i=some c)(U:p.at c.par=some q)(now:Nat)(ae:now<18446744073709551616)
  {Bp Bn:Nat}(K:Qh w Bp #[ptr b] 77)(V:Qh w Bn #[.int .u64 now] 29)(aq:¬F Bp)(an:¬F Bn):
  Cl 137 #[.int .i64 i,ptr (A.ad i),.pointer (some ⟨Bp,0,none⟩),.pointer (some ⟨Bn,0,none⟩)] w fun e w'=>e=.returned (.tuple #[])∧Qo A w' (Qn F w w') b (p.up1 now i)∧Qc F w w':=by
 have J:=O (Hx h k i);have a0:=Jf K;have am:=(Qo.obj A).bd h;obtain⟨c0,c1,I,c3,c4,c5,c6,c7⟩:=Ja (h.cell hc);have B:Hi (∀w',Qc Qb w w'→Qo A w' (Qn F w w') b p∧Qc F w w'):=O (fun w' d=>(Qo.obj A).same h d);have stay:∀w',Qc Qb w w'→p.up1 now i=p→Qo A w' (Qn F w w') b (p.up1 now i)∧Qc F w w':=fun w' d e=>by rw[e];exact B.o w' d
 rcases Bool.eq_false_or_eq_true (p.aL i)with z|z
 ·have e:p.up1 now i=p:=by unfold Qe.up1;rw[hc];simp[z]
  have ST:=O (fun w'(d:Qc Qb w w')=>stay w' d e);rw[z]at J;unfold ptr at*;clear h k hc U z K V stay B e;go_enter func137,ntmps137;go_wp2_with fail;refine Zy J ?_;intro w1 d;have ab:=O (ST.o _ d);clear d;go_wp2;refine bodyPost_ret (results_none rfl _ _ _) rfl ⟨rfl,ab.o⟩
 ·rw[z]at J;cases E:c.aJ with
  |false=>
   have e:p.up1 now i=p:=by unfold Qe.up1;rw[hc];simp[E]
   have ST:=O (fun w'(d:Qc Qb w w')=>stay w' d e);have HC:=O (h.cell hc);have HS:=O E;unfold ptr at*;clear h k hc U z K V stay B e E c0 c1 I c3 c4 c5 c6 c7;go_enter func137,ntmps137;go_wp2_with fail;refine Zy J ?_;intro w1 d;have ab:=O (ST.o _ d);obtain⟨c0,c1,I,c3,c4,c5,c6,c7⟩:=Ja (d.blk HC.o (fun h=>h));rw[HS.o]at I;clear d;go_wp2;refine bodyPost_ret (results_none rfl _ _ _) rfl ⟨rfl,ab.o⟩
  |true=>
   obtain⟨k1,k2,k3,k4⟩:=k.fam (f:=fun f=>f.wake i) (Nat.le_succ N) hc hi U ((k.ok q (Qe.aE U).1).fam.wake i);have e:p.up1 now i=(p.fam i fun f=>f.wake i).set {c with limit:=c.limit.wake now c.total}:=by unfold Qe.up1;rw[hc];simp[E,z]
   rw[e];have e2:=Py (f:=fun f=>f.wake i) hc U;obtain⟨G,hF,ao,aa⟩:=h.famAt U;have u:=k.ok q (Qe.aE U).1;have ah:=O (fun w'(d:Qc Qb w w')=>Qmw (J0.obj.aB hF d (Jl.none G)) (fun x hx=>⟨(u.mem x hx).1,by have:=(u.mem x hx).2.1;omega,(u.mem x hx).2.2⟩) u.mark i);have aj:Hi (∀w1 w2,Qc Qb w w1→J0 w2 (Qn G w1 w2) (A.pf c.par) (q.mem.wake i)→Qc G w1 w2→Qo A w2 (Qn F w w2) b (p.fam i fun f=>f.wake i)∧Qc F w w2):=O (fun w1 w2 d hf I=>by rw[e2];exact aa w1 w2 _ d hf I);have R:=k.ok c (Qe.aE hc).1;have ai:Hi (∀w2,Qo A w2 (Qn F w w2) b (p.fam i fun f=>f.wake i)→Qc F w w2→Cl 139 #[A.vl i,.int .u64 now,.int .u64 c.total] w2.drew fun e w'=>e=.returned (.tuple #[])∧Qo A w' (Qn F w w') b ((p.fam i fun f=>f.wake i).set {c with limit:=c.limit.wake now c.total})∧Qc F w w'):=O (by
    intro w2 h2 ak;obtain⟨G2,hl,ar,ac⟩:=h2.drew.limAt k3;refine Zz (Qhs hl (fun r hr=>by have:=R.lim r hr;omega) now c.total ae (by have:=R.total;have:=Yz;omega)) ?_;rintro w3⟨h3,al⟩;obtain⟨m1,m2⟩:=ac _ w3 _ (Zg Qb _) h3 al;exact⟨rfl,(Qo.obj A).two (w1:=w2) m1 am ak m2.undrew⟩)
   have HL:=O (fun w'(d:Qc Qb w w')=>((Qo.obj A).aB h d (Jl.none F)).look1 c.par);rw[Xz U]at HL;have HC:=O (h.cell hc);have HQ:=O (h.cell U);have HB:=O h.blk;have ag:=O K;have af:=O V;have HS:=O E;have K3:=O k3;unfold ptr at*;clear h k hc U z K V stay B e E c0 c1 I c3 c4 c5 c6 c7 k1 k2 k3 k4 e2 hF ao aa u R;go_enter func137,ntmps137;go_wp2_with fail;refine Zy J ?_;intro w1 d;have C1:=O d;obtain⟨_,_,I,_,_,_,_,_⟩:=Ja (d.blk HC.o (fun h=>h));rw[HS.o]at I;have Z:=d.drew;obtain⟨d0,_,_,_,_,_,_,_⟩:=Ja (Z.blk HC.o (fun h=>h));obtain⟨_,_,_,_,_,q5,_,_⟩:=Ja (Z.blk HQ.o (fun h=>h));have hL:=HL.o _ Z;have e0:=Jf (Z.blk HB.o (fun h=>h));have e1:=Jf (Z.blk ag.o (fun h=>h));unfold ptr at*;clear d a0;go_wp2_with fail;refine Qj [(0,0),(0,1),(0,2),(0,3),(0,4),(0,5),(0,6),(0,7),(0,8),(0,9),(0,10),(0,11),(0,12),(2,13)] Zq (by kernel_rfl) (fun _ _ _ _ _ h=>h) ?_;simp only[Jk,Zf,Ze,Zd];iterate 13 (refine Jq (by kernel_rfl) (by go_simp;try rfl) ?_)
   clear d0 q5 hL e0 e1 I;refine J7 ?_;go_wp2_with fail;refine Zz (ah.o _ Z) ?_;rintro w2⟨h2,I⟩;obtain⟨m1,m2⟩:=aj.o _ _ Z h2 I;have M:=O (Zt m1 m2);have ap:=O (ai.o w2 m1 m2);obtain⟨_,_,_,d3,d4,_,_,_⟩:=Ja (m1.drew.cell K3.o);have e2:=Jf (m2.blk af.o an).drew;clear h2 I m1 m2 Z;go_wp2_with fail;refine Jo ?_;go_wp2_with fail;refine Qj [(0,0),(0,1),(0,2),(0,3),(0,4),(0,5),(0,6),(0,7),(0,8),(2,9)] Zq (by kernel_rfl) (fun _ _ _ _ _ h=>h) ?_;simp only[Jk,Zf,Ze,Zd];iterate 9 (refine Jq (by kernel_rfl) (by go_simp;try rfl) ?_)
   clear d3 d4 e2;refine J7 ?_;go_wp2_with fail;refine Zz ap.o ?_;intro w3 h3;have H3:=O h3;clear h3;go_wp2_with fail;refine Jo ?_;go_wp2;refine bodyPost_end (results_none rfl _ _ _) rfl ⟨rfl,H3.o⟩
theorem Qa5(h:Qo A w F b p)(k:Qs dep N p)(I:N<549755813888){i:Int}{c q:Qx}(hi:0<i)(hc:p.at i=some c)(z:p.at c.par=some q){u:Nat}{v:Value}(d:Qh w u #[ptr b] 77):
  Cl 140 #[.int .i64 i,v,.pointer (some ⟨u,0,none⟩)] w fun e w'=>e=.returned (.tuple #[])∧Qo A w' (Qn F w w') b (p.note i)∧Qc F w w':=by
 have E:=O (Mj h k I hi hc z);have J:=Jf d;unfold ptr at*;clear h k hc z d;go_enter func140,ntmps140;go_wp2_with fail;refine Zy E ?_;intro w1 h1;have B:=O h1;clear h1;go_wp2;refine bodyPost_end (results_none rfl _ _ _) rfl ⟨rfl,B.o⟩
theorem Qnj(d:Qs dep N p):∀(n:Nat)(i:Int),0≤i→dep i<n→(i=0∨∃c,p.at i=some c)→Vy p (p.path n i)∧Eu (p.path n i)=i∧(p.path n i).length≤dep i
 |0,i,_,h,_=>by omega
 |n+1,i,h0,h,hi=>by
  rw[Qe.path];by_cases h1:i<1
  ·have:i=0:=by omega
   subst this;rw[if_pos h1];exact⟨trivial,rfl,Nat.zero_le _⟩
  ·rw[if_neg h1];rcases hi with rfl|⟨c,hc⟩;·omega
   ·rw[hc];dsimp only;obtain⟨E,z⟩:=Qe.aE hc;have u:=d.up.2 c E (by omega);rw[z]at u;obtain⟨I,⟨q,B⟩,J,_⟩:=u;have k:=d.pos B;obtain⟨k1,k2,K⟩:=Qnj d n c.par k (by omega) (.inr ⟨q,B⟩);exact⟨⟨by omega,⟨c,hc,k2.symm⟩,k1⟩,rfl,by simp only[Zm];omega⟩
end
section
variable{A:Dz}{w:World}{F:Fp}{b:Nat}{p:Qe}{N:Nat}{dep:Int→Nat}
theorem Y9.start{l:List Int}(c:Qs dep N p)(d:Vy p l):Y9 dep N l.length p l p:=⟨Zv _,by rw[Nat.sub_self];exact c,d,Jv.refl p⟩
theorem U0{d:Qe→Int→Qe}{L:Nat}{p0:Qe}(c:∀id rest p,Y9 dep N L p0 (id::rest) p→Qs dep (N+(L-(id::rest).length)+1) (d p id)∧Jv p (d p id)):
  ∀(l:List Int)(p:Qe),Y9 dep N L p0 l p→Y9 dep N L p0 [] (l.foldl d p)
 |[],p,h=>h
 |id::rest,p,h=>by obtain⟨h1,k⟩:=c id rest p h;exact U0 c rest _ (h.next h1 k).2.2.1
theorem De(d:Qs dep N p){i:Int}{c:Qx}(hc:p.at i=some c):Vy p (p.path 9 i)∧Eu (p.path 9 i)=i∧(p.path 9 i).length≤8:=by
 have h0:=d.pos hc;have B:dep i≤8:=by
  obtain⟨u,k⟩:=Qe.aE hc;by_cases h:i=0;·rw[h,d.up.1];omega
  ·have:=(d.up.2 c u (by omega)).2.2.2;rwa[k]at this
 obtain⟨h1,q,z⟩:=Qnj d 9 i h0 (by omega) (.inr ⟨c,hc⟩);exact⟨h1,q,by omega⟩
theorem Sl(now:Nat){L:Nat}{p0:Qe}:∀id rest p,Y9 dep N L p0 (id::rest) p→Qs dep (N+(L-(id::rest).length)+1) (p.up1 now id)∧Jv p (p.up1 now id):=fun id rest p h=>by obtain⟨h1,c,q,hc,d,_⟩:=h.head;exact h.ok.up1 now hc h1 d
theorem T7{L:Nat}{p0:Qe}:∀id rest p,Y9 dep N L p0 (id::rest) p→Qs dep (N+(L-(id::rest).length)+1) (p.note id)∧Jv p (p.note id):=fun id rest p h=>by obtain⟨h1,c,q,hc,d,_⟩:=h.head;exact h.ok.note hc h1 d
theorem Qs.wake(d:Qs dep N p)(i:Int)(now:Nat):Qs dep (N+16) (p.wake i now)∧Jv p (p.wake i now):=by
 unfold Qe.wake;cases hc:p.at i with
 |none=>exact⟨d.more (by omega),Jv.refl _⟩
 |some c=>
  dsimp only;split;·exact⟨d.more (by omega),Jv.refl _⟩
  ·obtain⟨h1,_,u⟩:=De d hc;have k:=U0 (Sl now) _ _ (Y9.start d h1);have q:=U0 T7 _ _ (Y9.start (N:=N+(p.path 9 i).length) (by simpa using k.ok) (Vy.same k.same h1));refine⟨q.ok.more (by simp;omega),k.same.trans q.same⟩
theorem Qlo(h:Qo A w F b p)(I:Qs dep N p)(hN:N<549755813000)(i:Int)(now:Nat)(ah:now<18446744073709551616):
  Cl 76 #[ptr b,.int .i64 i,.int .u64 now] w fun e w'=>e=.returned (.tuple #[])∧Qo A w' (Qn F w w') b (p.wake i now)∧Qc F w w':=by
 have V:=(Qo.obj A).bd h;obtain⟨W,hW⟩:=Zx ((w.alloc (.cells #[.pointer (some ⟨b,0,none⟩)] 77)).alloc (.cells #[.int .u64 now] 29));have C0:Hi (Qc Qb w W):=O (by rw[hW];exact((Zg _ _).alloc _).alloc _);have B3:Hi (Qh W w.heap.size #[ptr b] 77):=O (by rw[hW];exact(Qh.new _ _ _).alloc _);have B5:Hi (Qh W (w.heap.size+1) #[.int .u64 now] 29):=O (by rw[hW];exact Qh.new' _ _ (by simp));have Z:=(Qo.obj A).aB h C0.o (Jl.none F);have R:=O (Hw Z i);have u:¬F w.heap.size:=fun hk=>by have:=V _ hk;omega
 have E:¬F (w.heap.size+1):=fun hk=>by have:=V _ hk;omega
 have l3:=B3.o.lt;have l5:=B5.o.lt;have af:Hi (∀w' p',Qo A w' (Qn F W w') b p'→Qc F W w'→Qo A w' (Qn F w w') b p'∧Qc F w w'):=O (fun w' p' h' c'=>by
  have K:Qc F w w':=C0.o.none.aA c';exact⟨(Qo.obj A).more h' (Ke C0.o.size) (V.ext K),K⟩)
 have z:Hi (Qo A W (Qn F w W) b p∧Qc F w W):=O ((Qo.obj A).same h C0.o);unfold Qe.wake;cases hc:p.at i with
 |none=> rw[Ep hc]at R;dsimp only;have U:=Jf (hW▸B3.o);unfold ptr at*;clear h I hc Z u E l3 l5;go_enter func76,ntmps76;go_wp2_with fail;rw[←hW]at U⊢;clear hW;refine Zy R ?_;rintro w1 rfl;go_wp2;all_goals refine bodyPost_ret (results_none rfl _ _ _) rfl ⟨rfl,z.o⟩
 |some c=>
  rw[Xz hc]at R;have U:=Jf (hW▸B3.o);obtain⟨c0,c1,K,c3,c4,c5,c6,c7⟩:=Ja (Z.cell hc);by_cases k:i<1∨c.leaf=false∨c.aJ=false
  ·have e:(if(decide (i<1)||!c.leaf||!c.aJ)=true then p else(p.path 9 i).foldl Qe.note ((p.path 9 i).foldl (Qe.up1 now) p))=p:=by rw[if_pos];rcases k with h1|h1|h1<;>simp[h1]
   dsimp only;rw[e];have fin:∀{d:Bool},decide (i<1)=d→(d=true∨c.leaf=false∨c.aJ=false)→Cl 76 #[ptr b,.int .i64 i,.int .u64 now] w fun e w'=>e=.returned (.tuple #[])∧Qo A w' (Qn F w w') b p∧Qc F w w':=by
    intro d hd k;have hx:(i<1)=(d=true):=by rw[←hd];simp
    generalize c.leaf=lf at c1 k;generalize c.aJ=sh at K k;have q3:=hW▸c1;unfold ptr at*;clear h I hc Z u E l3 l5 e c0 c3 c4 c5 c6 c7;cases d with
    |true=>
     have Xg:i<1:=by simpa using hx
     go_enter func76,ntmps76;go_wp2_with fail;rw[←hW]at U⊢;clear hW q3;refine Zy R ?_;rintro w1 rfl;go_wp2;refine bodyPost_ret (results_none rfl _ _ _) rfl ⟨rfl,z.o⟩
    |false=>
     have Xg:¬i<1:=by simpa using hx
     cases lf with
     |false=> go_enter func76,ntmps76;go_wp2_with fail;rw[←hW]at U⊢;clear hW q3;refine Zy R ?_;rintro w1 rfl;go_wp2;refine bodyPost_ret (results_none rfl _ _ _) rfl ⟨rfl,z.o⟩
     |true=>
      obtain rfl:sh=false:=by simpa using k
      go_enter func76,ntmps76;go_wp2_with fail;rw[←hW]at U⊢;clear hW q3;refine Zy R ?_;rintro w1 rfl;go_wp2;refine bodyPost_ret (results_none rfl _ _ _) rfl ⟨rfl,z.o⟩
   exact fin rfl (k.imp (fun h=>by simpa using h) id)
  ·have hi:0<i:=by omega
   have ac:c.leaf=true:=by cases h:c.leaf<;>simp_all
   have ae:c.aJ=true:=by cases h:c.aJ<;>simp_all
   have Xg:¬i<1:=by omega
   rw[ac]at c1;rw[ae]at K;have e:(if(decide (i<1)||!c.leaf||!c.aJ)=true then p else(p.path 9 i).foldl Qe.note ((p.path 9 i).foldl (Qe.up1 now) p))=(p.path 9 i).foldl Qe.note ((p.path 9 i).foldl (Qe.up1 now) p):=by rw[if_neg (by simp[ac,ae,Xg])]
   dsimp only;rw[e];obtain⟨p1,p2,p3⟩:=De I hc;generalize p.path 9 i=l at p1 p2 p3⊢;have g0:=Y9.start I p1;have g1:=U0 (Sl now) _ _ g0;have g2:Y9 dep (N+l.length) l.length (l.foldl (Qe.up1 now) p) l (l.foldl (Qe.up1 now) p):=Y9.start (by simpa using g1.ok) (Vy.same g1.same p1);have H1:=O (Lo 137 #[.pointer (some ⟨w.heap.size,0,none⟩),.pointer (some ⟨w.heap.size+1,0,none⟩)] (enters_of func137 (by kernel_rfl) rfl) (fun p id=>p.up1 now id) (Y9 dep N l.length p) dep
    (fun id rest p' k=>k.next (Sl now id rest p' k).1 (Sl now id rest p' k).2)
    (fun id rest p' w' k aa J=>by
     obtain⟨h1,c',q,ab,hq,_⟩:=k.head;exact Qpm aa k.ok (by omega) h1 ab hq now ah (J.blk B3.o u) (J.blk B5.o E) (Qn.not u l3) (Qn.not E l5))
    Z l g0 i p2.symm)
   have H2:Hi (∀w1,Qo A w1 (Qn F W w1) b (l.foldl (fun p id=>p.up1 now id) p)→Qc F W w1→Cl 136 #[ptr b,.int .i64 i,.func (.func 140) #[] #[.pointer (some ⟨w.heap.size,0,none⟩)]] w1 fun e w'=>e=.returned (.tuple #[])∧Qo A w' (Qn F W w') b (l.foldl Qe.note (l.foldl (Qe.up1 now) p))∧Qc F W w'):=O (by
    intro w1 h1 B;refine(Lo 140 #[.pointer (some ⟨w.heap.size,0,none⟩)] (enters_of func140 (by kernel_rfl) rfl) Qe.note (Y9 dep (N+l.length) l.length (l.foldl (Qe.up1 now) p)) dep
     (fun id rest p' k=>k.next (T7 id rest p' k).1 (T7 id rest p' k).2)
     (fun id rest p' w' k aa J=>by
      obtain⟨aj,c',q,ab,hq,_⟩:=k.head;exact Qa5 aa k.ok (by omega) aj ab hq (J.blk (B.blk B3.o u) (Qn.not u l3)))
     h1 l g2 i p2.symm).mono ?_
    rintro e w2⟨rfl,h2,K⟩;obtain⟨m1,m2⟩:=(Qo.obj A).two h2 ((Qo.obj A).bd Z) B K;exact⟨rfl,m1,m2⟩)
   have ai:=O (Zt u E);unfold ptr at*;clear h I hc Z u E l3 l5 e c0 c3 c4 c5 c6 c7 k p1 p2 p3 g0 g1 g2 ac ae;go_enter func76,ntmps76;go_wp2_with fail;rw[←hW]at U⊢;clear hW;refine Zy R ?_;rintro w1 rfl;go_wp2_with fail;refine Zy H1 ?_;rintro w1⟨h1,B⟩;have H3:=O (H2.o w1 h1 B);have a4:=Jf (B.blk B3.o ai.o.1);unfold ptr at*;clear h1 B U c1 K;go_wp2_with fail;refine Zy H3 ?_;rintro w2⟨h2,ag⟩;have FF:=O (af.o _ _ h2 ag);clear h2 ag;go_wp2;refine bodyPost_end (results_none rfl _ _ _) rfl ⟨rfl,FF.o⟩
end
end
section
attribute [local go_sem] Qp
attribute [local go_sem ↓] X8 Yd
attribute [local irreducible] Kl J9
section
variable{A:Dz}{w:World}{F:Fp}{b:Nat}{p:Qe}{N:Nat}{dep:Int→Nat}
theorem Qih(h:Qo A w F b p)(I:Qs dep N p)(hN:N<549755813887){i:Int}{c q:Qx}(hi:0<i)(hc:p.at i=some c)(hq:p.at c.par=some q)(g:Nat)(hg:g<18446744073709551616)
  {Bp Bg:Nat}(Z:Qh w Bp #[ptr b] 77)(R:Qh w Bg #[.int .u64 g] 29)(af:¬F Bp)(ae:¬F Bg):
  Cl 162 #[.int .i64 i,ptr (A.ad i),.pointer (some ⟨Bg,0,none⟩),.pointer (some ⟨Bp,0,none⟩)] w fun e w'=>e=.returned (.tuple #[])∧Qo A w' (Qn F w w') b (p.gain1 g i)∧Qc F w w':=by
 have ac:=(Qo.obj A).bd h;obtain⟨V,z⟩:=Qe.aE hc;have K:=I.ok c V;obtain⟨ag,ah⟩:=I.pid hc hi hq;obtain⟨T,hT⟩:=Zx (c.total+min g (Xw-c.total));have aj:=K.total;have hC:=Yz;have e1:IntKind.u64.wrap (4611686018427387904-(c.total:Int))=((Xw-c.total:Nat):Int):=by rw[IntWalk.u64_in _ (by omega)];omega
 have e2:min (g:Int) ((Xw-c.total:Nat):Int)=((min g (Xw-c.total):Nat):Int):=by omega
 have e3:IntKind.u64.wrap ((c.total:Int)+((min g (Xw-c.total):Nat):Int))=(T:Int):=by rw[IntWalk.u64_in _ (by omega)];omega
 have d:=h.cell hc;obtain⟨W,hW⟩:=Zx ((w.setCell ⟨A.ad i,3,none⟩ (.int .u64 T)).drew);have aa:p.at ({c with total:=T}:Qx).id=some c:=by show p.at c.id=_;rw[z];exact hc
 have J:Hi (Qo A W (Qn F w W) b (p.set {c with total:=T})∧Qc F w W):=O (by
  refine h.setC (c:=c) (c':={c with total:=T}) V rfl rfl rfl rfl ?_ ?_;·rw[hW,z];exact((Zg (fun k=>k=A.ad i) w).setCell (a:=⟨A.ad i,3,none⟩) _ (.inl rfl)).drew
  ·rw[hW,z];exact(d.set' 3 (.int .u64 T) rfl).drew)
 have U:(p.set {c with total:=T}).at i=some {c with total:=T}:=by have:=Hq aa;rw[←z];exact this
 have B:(p.set {c with total:=T}).at c.par=some q:=(V5 (x:={c with total:=T}) (show c.par≠c.id from fun e=>ag (by rw[ah,e,z]))).trans hq;have e:p.gain1 g i=(p.set {c with total:=T}).set {q with mem:=q.mem.gain i g}:=by unfold Qe.gain1;rw[hc];dsimp only;rw[←hT];exact Py (c:={c with total:=T}) U B
 rw[e];have E:=I.ok q (Qe.aE hq).1;have HG:Hi (∀w1,Qc Qb W w1→Cl 163 #[ptr (A.pf c.par),.int .i64 i,.int .u64 g] w1 fun e w'=>e=.returned (.tuple #[])∧Qo A w' (Qn F w w') b ((p.set {c with total:=T}).set {q with mem:=q.mem.gain i g})∧Qc F w w'):=O (by
  intro w1 cc;obtain⟨G,hF,ak,ab⟩:=J.o.1.famAt B;refine Zz (Qmu (J0.obj.aB hF cc (Jl.none G)) (fun x hx=>⟨(E.mem x hx).1,by have:=(E.mem x hx).2.1;omega⟩) i g hg) ?_;rintro w2⟨hf,c2⟩;obtain⟨m1,m2⟩:=ab w1 w2 _ cc hf c2;exact⟨rfl,(Qo.obj A).two m1 ac J.o.2 m2⟩)
 obtain⟨_,_,_,d3,_,_,_,_⟩:=Ja d.drew;have z3:=d.frozen 3;have ai:=d.drew.frozen 3;have y3:=(Ja d).2.2.2.1;have b2:=Jf R.drew;have X0:Hi (Qh W Bp #[ptr b] 77∧Qh W Bg #[.int .u64 g] 29∧Qh W (A.ad i) (Pn {c with total:=T} (A.vl i) (A.pf i) (A.pt i)) 143):=O ⟨J.o.2.blk Z af,J.o.2.blk R ae,J.o.1.cell U⟩;obtain⟨x0,x1,x2⟩:=X0.o;obtain⟨g0,_,_,_,_,_,_,_⟩:=Ja x2.drew;have g1:=Jf x0.drew;have g2:=Jf x1.drew;have g3:=J.o.1.drew.look1 c.par;rw[Xz B]at g3;have g4:=Jf J.o.1.drew.blk;obtain⟨_,_,_,_,_,g5,_,_⟩:=Ja (J.o.1.drew.cell B);generalize Xw-c.total=u at e1 e2 e3;generalize min g u=u2 at e2 e3;unfold ptr at*;clear h I hc hq K d Z R E hT e x0 x1 x2 V aa B U;go_enter func162,ntmps162;go_wp2_with fail;refine Qj [(0,0),(0,1),(0,2),(0,3),(0,4),(0,5),(0,6),(0,7),(0,8),(0,9),(0,10),(0,11),(0,12),(0,13),(2,14)] Zq (by kernel_rfl) (fun _ _ _ _ _ h=>h) ?_;simp only[Jk,Zf,Ze,Zd];iterate 14 (refine Jq (by kernel_rfl) (by go_simp;try rfl) ?_)
 refine J7 ?_;go_wp2_with fail;refine Jo ?_;rw[←hW];clear hW d3 z3 ai y3 b2;go_wp2_with fail;refine Qj [(0,0),(0,1),(0,2),(0,3),(0,4),(0,5),(0,6),(0,7),(0,8),(0,9),(0,10),(0,11),(0,12),(0,13),(2,14)] Zq (by kernel_rfl) (fun _ _ _ _ _ h=>h) ?_;simp only[Jk,Zf,Ze,Zd];iterate 14 (refine Jq (by kernel_rfl) (by go_simp;try rfl) ?_)
 clear g0 g1 g2 g3 g4 g5;refine J7 ?_;go_wp2_with fail;refine Zz (HG.o _ (Zg _ _).drew) ?_;intro w2 h2;have H2:=O h2;clear h2;go_wp2_with fail;refine Jo ?_;go_wp2;refine bodyPost_end (results_none rfl _ _ _) rfl ⟨rfl,H2.o⟩
end
end
section
attribute [local go_sem] Qp
attribute [local irreducible] Kl J9
section
variable{A:Dz}{w:World}{F:Fp}{b:Nat}{p:Qe}{N:Nat}{dep:Int→Nat}
theorem Qij(h:Qo A w F b p)(k:Qs dep N p)(hN:N<549755813887){i:Int}{c q:Qx}(hi:0<i)(hc:p.at i=some c)(J:p.at c.par=some q)(sl:Bool)
  {Bp Bs:Nat}(d:Qh w Bp #[ptr b] 77)(E:Qh w Bs #[.bool sl] 4)(af:¬F Bp):
  Cl 164 #[.int .i64 i,ptr (A.ad i),.pointer (some ⟨Bs,0,none⟩),.pointer (some ⟨Bp,0,none⟩)] w fun e w'=>e=.returned (.tuple #[])∧Qo A w' (Qn F w w') b (p.rest1 sl i)∧Qc F w w':=by
 have ah:=(Qo.obj A).bd h;have y0:=Jf E;have y1:=Jf d;have Z:=Ja (h.cell hc);obtain⟨_,c1,_,_,_,_,c6,_⟩:=Z;have aa:=O d;have K:∀r:Bool,(sl&&(c.leaf||decide (c.tree.length=0)))=r→p.rest1 sl i=Qe.note (if r then p.fam i (fun f=>f.sleep i)else p) i:=fun r hr=>by unfold Qe.rest1;rw[hc];dsimp only;rw[hr]
 have ab:=O (Mj h k (by omega) hi hc J);obtain⟨k1,k2,k3,k4⟩:=k.fam (f:=fun f=>f.sleep i) (Zv _) hc hi J ((k.ok q (Qe.aE J).1).fam.sleep i);have I:=Py (f:=fun f=>f.sleep i) hc J;have ae:Hi (∀w1,Qc Qb w w1→Cl 166 #[ptr (A.pf c.par),.int .i64 i] w1 fun e w'=>e=.returned (.tuple #[])∧Qo A w' (Qn F w w') b (p.fam i fun f=>f.sleep i)∧Qc F w w'):=O (by
  intro w1 cc;obtain⟨G,hF,ai,ag⟩:=h.famAt J;refine Zz (Qjh (J0.obj.aB hF cc (Jl.none G)) i) ?_;rintro w2⟨hf,B⟩;obtain⟨m1,m2⟩:=ag w1 w2 _ cc hf B;exact⟨rfl,I▸m1,m2⟩)
 have ac:Hi (∀w2,Qo A w2 (Qn F w w2) b (p.fam i fun f=>f.sleep i)→Qc F w w2→Cl 141 #[ptr b,.int .i64 i] w2 fun e w'=>e=.returned (.tuple #[])∧Qo A w' (Qn F w w') b ((p.fam i fun f=>f.sleep i).note i)∧Qc F w w'):=O (by
  intro w2 V B;refine Zz (Mj V k1 (by omega) hi k3 k4) ?_;rintro w3⟨z,c3⟩;obtain⟨m1,m2⟩:=(Qo.obj A).two z ah B c3;exact⟨rfl,m1,m2⟩)
 obtain⟨d0,_,_,_,_,_,_,_⟩:=Ja (h.drew.cell hc);obtain⟨_,_,_,_,_,f5,_,_⟩:=Ja (h.drew.cell J);have hL:=h.drew.look1 c.par;rw[Xz J]at hL;have y2:=Jf h.drew.blk;have y3:=Jf d.drew;obtain⟨G6,ht⟩:=h.tre hc;have u:=O (Qn1 ht);generalize R:c.leaf=lf at c1 K;cases sl with
 |false=> rw[K false (by simp)];simp only[Bool.false_eq_true,if_false];unfold ptr at*;clear h k hc J d E k1 k2 k3 k4 I K ht d0 f5 hL y2 y3 R;go_enter func164,ntmps164;go_wp2_with fail;refine Zy ab ?_;intro w3 z;have U:=O z;clear z;go_wp2;refine bodyPost_end (results_none rfl _ _ _) rfl ⟨rfl,U.o⟩
 |true=>
  cases lf with
  |true=>
   rw[K true (by simp)];simp only[if_true];unfold ptr at*;clear h k hc J d E k1 k2 k3 k4 I K ht R;go_enter func164,ntmps164;go_wp2_with fail;refine Qj [(0,0),(0,1),(0,2),(0,3),(0,4),(0,5),(0,6),(0,7),(0,8),(0,9),(0,10),(0,11),(0,12),(2,13)] Zq (by kernel_rfl) (fun _ _ _ _ _ h=>h) ?_;simp only[Jk,Zf,Ze,Zd];iterate 13 (refine Jq (by kernel_rfl) (by go_simp;try rfl) ?_)
   clear d0 f5 hL y2 y3 y1;refine J7 ?_;go_wp2_with fail;refine Zz (ae.o _ (Zg _ _).drew) ?_;rintro w2⟨V,B⟩;have H2:=O (ac.o _ V B);have y1:=Jf (B.blk aa.o af);unfold ptr at*;clear V B;go_wp2_with fail;refine Jo ?_;go_wp2_with fail;refine Zy H2 ?_;intro w3 z;have U:=O z;clear z;go_wp2;refine bodyPost_end (results_none rfl _ _ _) rfl ⟨rfl,U.o⟩
  |false=>
   by_cases h0:c.tree.length=0
   ·rw[K true (by simp[h0])];simp only[if_true];have e0:((c.tree.length:Nat):Int)=0:=by omega
    rw[e0]at u;unfold ptr at*;clear h k hc J d E k1 k2 k3 k4 I K ht R;go_enter func164,ntmps164;go_wp2_with fail;refine Zy u ?_;rintro w1 rfl;go_wp2_with fail;refine Qj [(0,0),(0,1),(0,2),(0,3),(0,4),(0,5),(0,6),(0,7),(0,8),(0,9),(0,10),(0,11),(0,12),(2,13)] Zq (by kernel_rfl) (fun _ _ _ _ _ h=>h) ?_;simp only[Jk,Zf,Ze,Zd];iterate 13 (refine Jq (by kernel_rfl) (by go_simp;try rfl) ?_)
    clear d0 f5 hL y2 y3 y1;refine J7 ?_;go_wp2_with fail;refine Zz (ae.o _ (Zg _ _).drew) ?_;rintro w2⟨V,B⟩;have H2:=O (ac.o _ V B);have y1:=Jf (B.blk aa.o af);unfold ptr at*;clear V B;go_wp2_with fail;refine Jo ?_;go_wp2_with fail;refine Zy H2 ?_;intro w3 z;have U:=O z;clear z;go_wp2;refine bodyPost_end (results_none rfl _ _ _) rfl ⟨rfl,U.o⟩
   ·rw[K false (by simp[h0])];simp only[Bool.false_eq_true,if_false];have e0:(((c.tree.length:Nat):Int)==0)=false:=by rw[beq_eq_false_iff_ne];omega
    have e1:((c.tree.length:Nat):Int)≠0:=by omega
    generalize((c.tree.length:Nat):Int)=tl at u e0 e1;unfold ptr at*;clear h k hc J d E k1 k2 k3 k4 I K ht R d0 f5 hL y2 y3;go_enter func164,ntmps164;go_wp2_with fail;refine Zy u ?_;rintro w1 rfl;go_wp2_with fail;refine Zy ab ?_;intro w3 z;have U:=O z;clear z;go_wp2;refine bodyPost_end (results_none rfl _ _ _) rfl ⟨rfl,U.o⟩
theorem Lk(g:Nat){L:Nat}{p0:Qe}:∀id rest p,Y9 dep N L p0 (id::rest) p→Qs dep (N+(L-(id::rest).length)+1) (p.gain1 g id)∧Jv p (p.gain1 g id):=fun id rest p h=>by obtain⟨h1,c,q,hc,d,_⟩:=h.head;exact h.ok.gain1 g hc h1 d
theorem Pz(sl:Bool){L:Nat}{p0:Qe}:∀id rest p,Y9 dep N L p0 (id::rest) p→Qs dep (N+(L-(id::rest).length)+1) (p.rest1 sl id)∧Jv p (p.rest1 sl id):=fun id rest p h=>by obtain⟨h1,c,q,hc,d,_⟩:=h.head;exact h.ok.rest1 sl hc h1 d
theorem Qs.sent(d:Qs dep N p)(i:Int)(g:Nat)(more:Bool):Qs dep (N+16) (p.sent i g more)∧Jv p (p.sent i g more):=by
 unfold Qe.sent;cases hc:p.at i with
 |none=>exact⟨d.more (by omega),Jv.refl _⟩
 |some c=>
  dsimp only;split;·exact⟨d.more (by omega),Jv.refl _⟩
  ·obtain⟨h1,_,u⟩:=De d hc;have k:=U0 (Lk g) _ _ (Y9.start d h1);have q:=U0 (Pz (!more&&((p.path 9 i).foldl (Qe.gain1 g) p).aL i)) _ _ (Y9.start (N:=N+(p.path 9 i).length) (by simpa using k.ok) (Vy.same k.same h1));refine⟨q.ok.more (by simp;omega),k.same.trans q.same⟩
theorem Qlm(h:Qo A w F b p)(U:Qs dep N p)(hN:N<549755813000)(i:Int)(g:Nat)(V:g<18446744073709551616)(more:Bool):
  Cl 98 #[ptr b,.int .i64 i,.int .u64 g,.bool more] w fun e w'=>e=.returned (.tuple #[])∧Qo A w' (Qn F w w') b (p.sent i g more)∧Qc F w w':=by
 have ag:=(Qo.obj A).bd h;obtain⟨W,hW⟩:=Zx ((w.alloc (.cells #[.pointer (some ⟨b,0,none⟩)] 77)).alloc (.cells #[.int .u64 g] 29));have C0:Hi (Qc Qb w W):=O (by rw[hW];exact((Zg _ _).alloc _).alloc _);have B3:Hi (Qh W w.heap.size #[ptr b] 77):=O (by rw[hW];exact(Qh.new _ _ _).alloc _);have B5:Hi (Qh W (w.heap.size+1) #[.int .u64 g] 29):=O (by rw[hW];exact Qh.new' _ _ (by simp));have hP:=(Qo.obj A).aB h C0.o (Jl.none F);have HA:=O (Hw hP i);have z:¬F w.heap.size:=fun hk=>by have:=ag _ hk;omega
 have B:¬F (w.heap.size+1):=fun hk=>by have:=ag _ hk;omega
 have l3:=B3.o.lt;have l5:=B5.o.lt;have aa:Hi (∀w' p',Qo A w' (Qn F W w') b p'→Qc F W w'→Qo A w' (Qn F w w') b p'∧Qc F w w'):=O (fun w' p' h' c'=>by
  have c2:Qc F w w':=C0.o.none.aA c';exact⟨(Qo.obj A).more h' (Ke C0.o.size) (ag.ext c2),c2⟩)
 have I:Hi (Qo A W (Qn F w W) b p∧Qc F w W):=O ((Qo.obj A).same h C0.o);unfold Qe.sent;cases hc:p.at i with
 |none=> rw[Ep hc]at HA;dsimp only;have a3:=Jf (hW▸B3.o);unfold ptr at*;clear h U hc hP z B l3 l5;go_enter func98,ntmps98;go_wp2_with fail;rw[←hW]at a3⊢;clear hW;refine Zy HA ?_;rintro w1 rfl;go_wp2;all_goals refine bodyPost_ret (results_none rfl _ _ _) rfl ⟨rfl,I.o⟩
 |some c=>
  rw[Xz hc]at HA;have a3:=Jf (hW▸B3.o);obtain⟨c0,c1,c2,c3,c4,c5,c6,c7⟩:=Ja (hP.cell hc);by_cases Z:i<1∨c.leaf=false
  ·have e:(if(decide (i<1)||!c.leaf)=true then p else(p.path 9 i).foldl (Qe.rest1 (!more&&((p.path 9 i).foldl (Qe.gain1 g) p).aL i)) ((p.path 9 i).foldl (Qe.gain1 g) p))=p:=by rw[if_pos];rcases Z with h1|h1<;>simp[h1]
   dsimp only;rw[e];have fin:∀{d:Bool},decide (i<1)=d→(d=true∨c.leaf=false)→Cl 98 #[ptr b,.int .i64 i,.int .u64 g,.bool more] w fun e w'=>e=.returned (.tuple #[])∧Qo A w' (Qn F w w') b p∧Qc F w w':=by
    intro d hd an;have hx:(i<1)=(d=true):=by rw[←hd];simp
    generalize c.leaf=lf at c1 an;unfold ptr at*;clear h U hc hP z B l3 l5 e c0 c2 c3 c4 c5 c6 c7 Z;cases d with
    |true=>
     have Xg:i<1:=by simpa using hx
     go_enter func98,ntmps98;go_wp2_with fail;rw[←hW]at a3⊢;clear hW;refine Zy HA ?_;rintro w1 rfl;go_wp2;refine bodyPost_ret (results_none rfl _ _ _) rfl ⟨rfl,I.o⟩
    |false=>
     have Xg:¬i<1:=by simpa using hx
     obtain rfl:lf=false:=by simpa using an
     go_enter func98,ntmps98;go_wp2_with fail;rw[←hW]at a3⊢;clear hW;refine Zy HA ?_;rintro w1 rfl;go_wp2;refine bodyPost_ret (results_none rfl _ _ _) rfl ⟨rfl,I.o⟩
   exact fin rfl (Z.imp (fun h=>by simpa using h) id)
  ·have hi:0<i:=by omega
   have aj:c.leaf=true:=by cases h:c.leaf<;>simp_all
   have Xg:¬i<1:=by omega
   rw[aj]at c1;have e:(if(decide (i<1)||!c.leaf)=true then p else(p.path 9 i).foldl (Qe.rest1 (!more&&((p.path 9 i).foldl (Qe.gain1 g) p).aL i)) ((p.path 9 i).foldl (Qe.gain1 g) p))=(p.path 9 i).foldl (Qe.rest1 (!more&&((p.path 9 i).foldl (Qe.gain1 g) p).aL i)) ((p.path 9 i).foldl (Qe.gain1 g) p):=by rw[if_neg (by simp[aj,Xg])]
   dsimp only;rw[e];obtain⟨p1,p2,p3⟩:=De U hc;generalize p.path 9 i=l at p1 p2 p3⊢;have g0:=Y9.start U p1;have g1:=U0 (Lk g) _ _ g0;have af:Qs dep (N+l.length) (l.foldl (Qe.gain1 g) p):=by simpa using g1.ok
   have g2:Y9 dep (N+l.length) l.length (l.foldl (Qe.gain1 g) p) l (l.foldl (Qe.gain1 g) p):=Y9.start af (Vy.same g1.same p1);have H1:=O (Lo 162 #[.pointer (some ⟨w.heap.size+1,0,none⟩),.pointer (some ⟨w.heap.size,0,none⟩)] (enters_of func162 (by kernel_rfl) rfl) (Qe.gain1 g) (Y9 dep N l.length p) dep
    (fun id rest p' V=>V.next (Lk g id rest p' V).1 (Lk g id rest p' V).2)
    (fun id rest p' w' R ah K=>by
     obtain⟨h1,c',q,ai,hq,_⟩:=R.head;exact Qih ah R.ok (by omega) h1 ai hq g V (K.blk B3.o z) (K.blk B5.o B) (Qn.not z l3) (Qn.not B l5))
    hP l g0 i p2.symm)
   have ac:Hi (∀w1(F1:Fp),Qo A w1 F1 b (l.foldl (Qe.gain1 g) p)→Cl 100 #[ptr b,.int .i64 i] w1 fun e w'=>e=.returned (.bool ((l.foldl (Qe.gain1 g) p).aL i))∧Qc Qb w1 w'):=O (fun w1 F1 h1=>Hx h1 af i);have H2:Hi (∀(sl:Bool)w1 w2 Bs,Qo A w1 (Qn F W w1) b (l.foldl (Qe.gain1 g) p)→Qc F W w1→Qc Qb w1 w2→Qh w2 Bs #[.bool sl] 4→w1.heap.size≤Bs→Cl 136 #[ptr b,.int .i64 i,.func (.func 164) #[] #[.pointer (some ⟨Bs,0,none⟩),.pointer (some ⟨w.heap.size,0,none⟩)]] w2 fun e w'=>e=.returned (.tuple #[])∧Qo A w' (Qn F W w') b (l.foldl (Qe.rest1 sl) (l.foldl (Qe.gain1 g) p))∧Qc F W w'):=O (by
    intro sl w1 w2 Bs h1 u ca bs ax;have au:=(Qo.obj A).bd h1;have h4:=(Qo.obj A).aB h1 ca (Jl.none _);have nf:¬Qn F W w1 Bs:=fun hk=>by have:=au _ hk;omega
    have s3:=u.size;have s4:=ca.size;have ao:¬Qn F W w1 w.heap.size:=Qn.not z l3;refine(Lo 164 #[.pointer (some ⟨Bs,0,none⟩),.pointer (some ⟨w.heap.size,0,none⟩)] (enters_of func164 (by kernel_rfl) rfl) (Qe.rest1 sl) (Y9 dep (N+l.length) l.length (l.foldl (Qe.gain1 g) p)) dep
     (fun id rest p' V=>V.next (Pz sl id rest p' V).1 (Pz sl id rest p' V).2)
     (fun id rest p' w' R ah K=>by
      obtain⟨ar,c',q,ai,hq,_⟩:=R.head;exact Qij ah R.ok (by omega) ar ai hq sl (K.blk (ca.blk (u.blk B3.o z) (fun h=>h)) ao) (K.blk bs nf) (Qn.not ao (by omega)))
     h4 l g2 i p2.symm).mono ?_
    rintro e w3⟨rfl,h5,c5⟩;have am:Qc (Qn F W w1) w1 w3:=ca.none.aA c5;obtain⟨m1,m2⟩:=(Qo.obj A).two ((Qo.obj A).more h5 (Ke ca.size) (((Qo.obj A).bd h1).ext am)) ((Qo.obj A).bd hP) u am;exact⟨rfl,m1,m2⟩)
   have aq:=O (Zt z B);generalize(l.foldl (Qe.gain1 g) p)=av at H1 H2 ac⊢;generalize av.aL i=aw at ac⊢;unfold ptr at*;clear h U hc hP z B l3 l5 e c0 c2 c3 c4 c5 c6 c7 Z p1 p2 p3 g0 g1 g2 aj af;go_enter func98,ntmps98;go_wp2_with fail;rw[←hW]at a3⊢;clear hW;refine Zy HA ?_;rintro w1 rfl;go_wp2_with fail;refine Zy H1 ?_;rintro w1⟨h1,u⟩;have E:=O (Zt h1 u);have ab:=O (u.blk B3.o aq.o.1);have sz:=u.size;clear h1 u a3 c1;cases more with
   |true=> obtain⟨W2,hW2⟩:=Zx (w1.alloc (.cells #[.bool false] 4));have H3:=O (H2.o (!true&&aw) w1 W2 w1.heap.size E.o.1 E.o.2 (by rw[hW2];exact(Zg _ _).alloc _) (by rw[hW2];exact Qh.new _ _ _) (Zv _));have a4:=Jf (show Qh (w1.alloc (.cells #[.bool false] 4)) _ _ _ from ab.o.alloc _);unfold ptr at*;go_wp2_with fail;rw[←hW2]at a4⊢;clear hW2;refine Zy H3 ?_;rintro w2⟨h2,k⟩;have FF:=O (aa.o _ _ h2 k);clear h2 k;go_wp2;refine bodyPost_end (results_none rfl _ _ _) rfl ⟨rfl,FF.o⟩
   |false=>
    have ak:=O (ac.o w1 _ E.o.1);have a4:=Jf ab.o;have ap:=O (H2.o aw w1);unfold ptr at*;go_wp2_with fail;refine Zy ak ?_;intro w2 k;obtain⟨W3,J⟩:=Zx (w2.alloc (.cells #[.bool aw] 4));have al:Qh W3 w2.heap.size #[.bool aw] 4:=by rw[J];exact Qh.new _ _ _
    have ae:Qc Qb w1 W3:=by rw[J];exact k.alloc _
    have H3:=O (ap.o W3 w2.heap.size E.o.1 E.o.2 ae al k.size);have a5:=Jf (show Qh (w2.alloc (.cells #[.bool aw] 4)) w.heap.size _ _ from J▸ae.blk ab.o (fun h=>h));unfold ptr at*;clear k al ae a4;go_wp2_with fail;rw[←J]at a5⊢;clear J;refine Zy H3 ?_;rintro w3⟨h2,k⟩;have FF:=O (aa.o _ _ h2 k);clear h2 k;go_wp2;refine bodyPost_end (results_none rfl _ _ _) rfl ⟨rfl,FF.o⟩
end
def Fb(s:Yk):Value:=.agg #[.int .i64 s.id,.int .i64 s.par,.bool s.leaf,.int .u64 s.real.f,.int .u64 s.real.l,.int .u64 s.real.r,.int .u64 s.share.f,.int .u64 s.share.l,.int .u64 s.share.r,.int .u64 s.aN.f,.int .u64 s.aN.l,.int .u64 s.aN.r,.int .i64 s.pk,.int .i64 s.bt]
theorem Ns(s:Yk)(w):Cl 125 #[Fb s] w fun e w'=>e=.returned (.bool s.aJ)∧Qc Qb w w':=by
 have I:=O (Xx.new w s);have u:=O ((Zg Qb w).alloc (.cells (Z4 s.leaf s) 40));have k:=O (fun w=>Kz s.share w);have z:=O (fun w=>K8 s.share w);unfold Yk.aJ;cases c:s.share.none with
 |true=> rw[c]at k;unfold Fb;clear c;go_enter func125,ntmps125;go_wp2_with fail;refine Zz (k.o _) ?_;intro w1 d;have q:=O (u.o.aA d);clear d;go_wp2;go_ret;exact⟨rfl,q.o⟩
 |false=> rw[c]at k;generalize decide s.share.May=r at z⊢;unfold Fb;clear c;go_enter func125,ntmps125;go_wp2_with fail;refine Zz (k.o _) ?_;intro w1 d;obtain⟨V,a1,Z,a3,a4,a5,a6,a7,a8,a9,J,K,R,U⟩:=(I.o.aB d).cells;have q:=O (u.o.aA d);clear d;go_wp2_with fail;refine Zz (z.o _) ?_;intro w2 B;have E:=O (q.o.aA B);clear B;go_wp2;go_ret;exact⟨by simp,E.o⟩
section
variable{X:Type}{key:X→Int}{Is Is':World→Fp→Nat→X→Prop}{w w':World}{F:Fp}{m:Nat}{ad:Int→Nat}{l:List X}
theorem Yn.imp(h:Yn key Is w F m ad l)(hi:∀x∈l,∀G,Is w G (ad (key x)) x→Is' w G (ad (key x)) x):Yn key Is' w F m ad l:=by obtain⟨G,h1,d,k⟩:=h.ex;exact⟨h.map,h.bd,h.at_,G,fun x c=>hi x c _ (h1 x c),d,k⟩
end
section
variable{A:Dz}{w:World}{F:Fp}{b:Nat}{p:Qe}{N:Nat}{dep:Int→Nat}
def Dz.put(A:Dz)(i:Int)(bc:Nat)(vb:Value)(pf pt:Nat):Dz:=⟨A.m,fun j=>if j=i then bc else A.ad j,fun j=>if j=i then vb else A.vl j,fun j=>if j=i then pf else A.pf j,fun j=>if j=i then pt else A.pt j⟩
theorem Qgu{i:Int}{bc pf pt:Nat}{vb:Value}{c:Qx}(h:c.id≠i):Sy (A.put i bc vb pf pt) c=Sy A c:=by unfold Sy Dz.put;simp only[h,if_false]
theorem Qaa{w0 w1 w2 w3:World}(h:w1.heap.size≤w2.heap.size):Jl (Qn Qb w0 w1) (Qn Qb w2 w3):=fun k a b=>by have:=((Qr k).1 a).2;have:=((Qr k).1 b).1;omega
theorem G5{w0 w1 w2 w3:World}(h1:w0.heap.size≤w1.heap.size)(c:w2.heap.size≤w3.heap.size):∀k,Qn Qb w1 w2 k→Qn Qb w0 w3 k:=fun k a=>by have:=(Qr k).1 a;exact(Qr k).2 ⟨by omega,by omega⟩
theorem Td(w0 w1):Bd (Qn Qb w0 w1) w1:=fun k c=>((Qr k).1 c).2
theorem Qtf{w0 w1 w2 w3 w4}{x:Qx}{vb:Nat}{pf pt:Nat}(R:Qc Qb w0 w1)(J:Qc Qb w1 w2)(I:Qc Qb w2 w3)(u:Qc Qb w3 w4)
  (hl:Ho w1 (Qn Qb w0 w1) vb x.limit)(hf:J0 w2 (Qn Qb w1 w2) pf x.mem)(ht:Jg w3 (Qn Qb w2 w3) pt x.tree)(K:Qh w4 w3.heap.size (Pn x (ptr vb) pf pt) 143):
  Um (A.put x.id w3.heap.size (ptr vb) pf pt) w4 (Qn Qb w0 w4) w3.heap.size x:=by
 have s1:=R.size;have s2:=J.size;have s3:=I.size;have z:=u.size;have Xg:=K.lt;refine⟨by simp[Dz.put],?_⟩;have e1:(A.put x.id w3.heap.size (ptr vb) pf pt).ad x.id=w3.heap.size:=by simp[Dz.put]
 have U:(A.put x.id w3.heap.size (ptr vb) pf pt).vl x.id=ptr vb:=by simp[Dz.put]
 have V:(A.put x.id w3.heap.size (ptr vb) pf pt).pf x.id=pf:=by simp[Dz.put]
 have Z:(A.put x.id w3.heap.size (ptr vb) pf pt).pt x.id=pt:=by simp[Dz.put]
 unfold Sy;rw[e1,U,V,Z];have h1:Do (ptr vb) x.limit w4 (Qn Qb w0 w1):=.inr ⟨vb,rfl,Ho.obj.aB hl ((J.aA I).aA u) (Jl.none _)⟩;have h2:J0 w4 (Qn Qb w1 w2) pf x.mem:=J0.obj.aB hf (I.aA u) (Jl.none _);have h3:Jg w4 (Qn Qb w2 w3) pt x.tree:=Jg.obj.aB ht u (Jl.none _);have E:Bd (Qn Qb w0 w4) w4:=Td _ _;have B:Bd (Qn Qb w0 w3) w4:=fun k c=>Nat.lt_of_lt_of_le (Td _ _ k c) z;have d:Bd (Qn Qb w1 w3) w4:=fun k c=>Nat.lt_of_lt_of_le (Td _ _ k c) z;have q:Bd (Qn Qb w2 w3) w4:=fun k c=>Nat.lt_of_lt_of_le (Td _ _ k c) z;refine Q7 (G:=fun k=>k=w3.heap.size) (H:=Qn Qb w0 w3) ⟨K,rfl,fun k e=>e▸Xg⟩ ?_ (fun k e c=>by have:=Td _ _ k c;omega) (fun k e=>(Qr k).2 ⟨by omega,by omega⟩) (G5 (Zv _) z) E;refine Q7 (G:=Qn Qb w0 w1) (H:=Qn Qb w1 w3) h1 ?_ (Qaa (Zv _)) (G5 (Zv _) (by omega)) (G5 s1 (Zv _)) B;exact Q7 (G:=Qn Qb w1 w2) (H:=Qn Qb w2 w3) h2 (Y6 h3 q) (Qaa (Zv _)) (G5 (Zv _) s3) (G5 s2 (Zv _)) d
theorem Qo.newC(h:Qo A w F b p){x:Qx}{bc:Nat}{vb:Value}{pf pt:Nat}(hn:p.at x.id=none){w4}(E:Qc Qb w w4)(hx:Um (A.put x.id bc vb pf pt) w4 (Qn Qb w w4) bc x):
  ∃w5,(Instr.mapUpdate 136 (.map (some A.m)) (.int .i64 x.id) (ptr bc)).run prog w4=.ok () w5∧Qo (A.put x.id bc vb pf pt) w5 (Qn F w w5) b (p++[x])∧Qc F w w5∧Qc (fun k=>k=A.m) w4 w5:=by
 have R:=(Qo.obj A).bd h;obtain⟨l,V,hs⟩:=h;obtain⟨G,c,hG,_,u⟩:=Xv 1 (Vh A b l) rfl hs;obtain⟨w5,z,U,B⟩:=X6 (P:=prog) (c.map.aB E (fun h=>h)) underlying136 underlying3 x.id (ptr bc);have J:=(c.aB (Um.obj A) E (Jl.none G)).imp (Is':=Um (A.put x.id bc vb pf pt)) (fun y hy G' Z=>by
  have q:y.id≠x.id:=fun e=>by have h1:=Qe.at_of (p:=l) c.nodup hy;rw[Qe.at_eq V c.nodup]at hn;rw[e]at h1;have:Qe.at l x.id=none:=hn;rw[h1]at this;cases this
  refine⟨?_,?_⟩;·show A.ad y.id=(if y.id=x.id then bc else A.ad y.id);rw[if_neg q]
  ·rw[Qgu q];exact Z.2)
 have K:=J.put (Um.obj _) hx (fun k a b'=>by
  have h1:=((Qr k).1 a).1;have:=R k (hG k b');omega) (by rw[←Qe.at_eq V c.nodup];exact hn) U B
 have I:Qc G w w5:=(E.none (F:=G)).aA (B.sub fun k d=>d▸c.at_);have h5:=u w5 (fun w G=>Yn Qx.id (Um (A.put x.id bc vb pf pt)) w G (A.put x.id bc vb pf pt).m (A.put x.id bc vb pf pt).ad (l++[x])) I
  (K.more (fun k d=>d.elim .inl (fun d=>.inr ⟨((Qr k).1 d).1,Nat.lt_of_lt_of_le ((Qr k).1 d).2 B.size⟩)) (c.bd.ext I))
 exact⟨w5,z,⟨l++[x],V.append_right _,h5⟩,I.sub hG,B⟩
end
end
end Go.Proofs.YtnnhmpehkbihnaaGreat
