/- A part of the proof: no condition. -/
import Derived.Test.YtnnhmpehkbihnaaGreatPp19
namespace Go.Proofs.YtnnhmpehkbihnaaGreat
set_option linter.unusedVariables false
set_option maxRecDepth 100000
set_option maxHeartbeats 4000000
open Go.RowKit
open Go.Proofs.Tryz
section
variable{f:Q9}
theorem Qdk{m:Zq}{j:Int}(h:j≠m.id):(f.set m).at j=f.at j:=by
 obtain⟨all,mark⟩:=f;unfold Q9.at Q9.set;dsimp only;induction all with
 |nil=>rfl
 |cons z l k=>
  rw[List.map_cons,List.find?_cons,List.find?_cons];by_cases c:z.id=m.id;·rw[if_pos c];have h1:¬m.id=j:=fun e=>h e.symm;have q:¬z.id=j:=fun e=>h (by rw[←e,c]);simp only[h1,q,decide_false];exact k
  ·rw[if_neg c];by_cases d:z.id=j;·simp[d]
   ·simp only[d,decide_false];exact k
theorem Qet{m y:Zq}(h:f.at m.id=some y):(f.set m).at m.id=some m:=by
 obtain⟨all,mark⟩:=f;unfold Q9.at Q9.set at*;dsimp only at*;induction all with
 |nil=>cases h
 |cons z l d=>
  rw[List.map_cons,List.find?_cons];rw[List.find?_cons]at h;by_cases c:z.id=m.id;·simp[c]
  ·simp only[c,decide_false,if_false]at h⊢;exact d h
theorem Qbh{m y:Zq}(h:f.at m.id=some y)(j:Int):(f.set m).at j=if j=m.id then some m else f.at j:=by
 split;·rename_i e;rw[e];exact Qet h
 ·rename_i e;exact Qdk e
theorem Qek{m y:Zq}{v:Nat}(h:f.at m.id=some y)(j:Int):(f.made m v).at j=if j=m.id then some {m with v:=v}else f.at j:=
 Qbh (m:={m with v:=v}) h j
theorem Qlb(i j:Int):(f.wake i).at j=if j=i then(f.at i).map (fun m=>if m.awake then m else{m with run:=m.run.start (f.start m) m.total,awake:=true,v:=f.start m})else f.at j:=by
 unfold Q9.wake;cases h:f.at i with
 |none=>
  dsimp only;split;·rename_i e;rw[e,h];rfl
  ·rfl
 |some m=>
  have hi:=(Q9.at_mem h).2;subst hi;dsimp only;by_cases ha:m.awake=true
  ·rw[if_pos ha];split;·rename_i e;rw[e,h];simp[ha]
   ·rfl
  ·rw[if_neg ha,Qek (m:={m with run:=m.run.start (f.start m) m.total,awake:=true}) (y:=m) h];dsimp only;split;·simp[ha]
   ·rfl
theorem Qck(i j:Int):(f.sleep i).at j=if j=i then(f.at i).map (fun m=>{m with awake:=false})else f.at j:=by
 unfold Q9.sleep;cases h:f.at i with
 |none=>
  dsimp only;split;·rename_i e;rw[e,h];rfl
  ·rfl
 |some m=>
  have hi:=(Q9.at_mem h).2;subst hi;dsimp only;rw[Qbh (m:={m with awake:=false}) (y:=m) h];dsimp only;split;·rfl
  ·rfl
theorem Qlc(i:Int)(g:Nat)(j:Int):(f.gain i g).at j=if j=i then(f.at i).map (fun m=>if m.awake then{m with total:=m.total+min g (Jz-m.total),v:=m.run.reach (m.total+min g (Jz-m.total))}else{m with total:=m.total+min g (Jz-m.total)})else f.at j:=by
 unfold Q9.gain;cases h:f.at i with
 |none=>
  dsimp only;split;·rename_i e;rw[e,h];rfl
  ·rfl
 |some m=>
  have hi:=(Q9.at_mem h).2;subst hi;dsimp only;by_cases ha:m.awake=true
  ·rw[if_pos ha,Qek (m:={m with total:=m.total+min g (Jz-m.total)}) (y:=m) h];dsimp only;split;·simp[ha]
   ·rfl
  ·rw[if_neg ha,Qbh (m:={m with total:=m.total+min g (Jz-m.total)}) (y:=m) h];dsimp only;split;·simp[ha]
   ·rfl
theorem Qw4(i:Int)(c:Z6)(j:Int):(f.add i c).at j=if j=i∧f.at i=none then some ⟨i,0,0,.new c,false⟩else f.at j:=by
 unfold Q9.add;cases h:f.at i with
 |some m=>simp
 |none=>
  obtain⟨all,mark⟩:=f;unfold Q9.at at*;dsimp only at*;rw[List.find?_append];by_cases e:j=i;·rw[e,h];simp
  ·have:¬i=j:=fun d=>e d.symm;simp[e,this]
theorem Qcl(i j:Int):(f.drop i).at j=if j=i then none else f.at j:=by
 obtain⟨all,mark⟩:=f;unfold Q9.at Q9.drop;dsimp only;induction all with
 |nil=>simp
 |cons z l k=>
  rw[List.filter_cons];by_cases c:z.id=i
  ·simp only[c,decide_true,Bool.not_true,Bool.false_eq_true,if_false];rw[k,List.find?_cons];by_cases e:j=i;·rw[if_pos e,if_pos e]
   ·have:¬z.id=j:=fun d=>e (by rw[←d,c]);rw[if_neg e,if_neg e];simp only[this,decide_false]
  ·simp only[c,decide_false,Bool.not_false,if_true];rw[List.find?_cons,List.find?_cons];by_cases e:z.id=j;·have:¬j=i:=fun d=>c (by rw[e,d]);simp only[e,decide_true];rw[if_neg this]
   ·simp only[e,decide_false];exact k
theorem Qyh{i j:Int}:(f.wake i).up j=if j=i then(f.at i).isSome else f.up j:=by
 unfold Q9.up;rw[Qlb];split
 ·cases f.at i with
  |none=>rfl
  |some m=>by_cases h:m.awake=true<;>simp[h]
 ·rfl
theorem Qw5{i j:Int}:(f.sleep i).up j=if j=i then false else f.up j:=by
 unfold Q9.up;rw[Qck];split;·cases f.at i<;>rfl
 ·rfl
theorem Qyi{i j:Int}{g:Nat}:(f.gain i g).up j=f.up j:=by
 unfold Q9.up;rw[Qlc];split
 ·rename_i e;rw[e];cases f.at i with
  |none=>rfl
  |some m=>by_cases h:m.awake=true<;>simp[h]
 ·rfl
theorem Qul{i j:Int}:((f.wake i).at j).isSome=(f.at j).isSome:=by
 rw[Qlb];split;·rename_i e;rw[e];simp
 ·rfl
theorem Qq0{i j:Int}:((f.sleep i).at j).isSome=(f.at j).isSome:=by
 rw[Qck];split;·rename_i e;rw[e];simp
 ·rfl
theorem Qum{i j:Int}{g:Nat}:((f.gain i g).at j).isSome=(f.at j).isSome:=by
 rw[Qlc];split;·rename_i e;rw[e];simp
 ·rfl
end
section
variable{p p' p'':Qe}{N:Nat}{dep:Int→Nat}
structure Off(p p':Qe)(j:Int):Prop where
 up:Z5 p p'
 mem:∀k,(p'.at k).map (fun c=>(c.mem.up j,c.mem.v j))=(p.at k).map fun c=>(c.mem.up j,c.mem.v j)
 fit:(p'.at j).map Qv.fit=(p.at j).map Qv.fit
 tree:∀k q',p'.at k=some q'→∃q,p.at k=some q∧∀a b,(a,j,b)∈q'.tree↔(a,j,b)∈q.tree
theorem Off.refl(p:Qe)(j:Int):Off p p j:=⟨Z5.refl _,fun _=>rfl,rfl,fun k c h=>⟨c,h,fun _ _=>Iff.rfl⟩⟩
theorem Off.trans{j:Int}(h:Off p p' j)(h':Off p' p'' j):Off p p'' j:=⟨h.up.trans h'.up,fun k=>(h'.mem k).trans (h.mem k),h'.fit.trans h.fit,fun k c d=>by
 obtain⟨B,h1,u⟩:=h'.tree k c d;obtain⟨q,z,E⟩:=h.tree k B h1;exact⟨q,z,fun a b=>(u a b).trans (E a b)⟩⟩
theorem Z5.back(h:Z5 p p'){i:Int}{c:Qv}(hc:p'.at i=some c):∃c',p.at i=some c'∧c'.par=c.par∧c'.leaf=c.leaf∧c'.shares=c.shares:=by have h':Z5 p' p:=fun j=>(h j).symm;exact h'.get hc
theorem Z5.none(h:Z5 p p'){i:Int}(hc:p.at i=none):p'.at i=none:=by have:=h i;rw[hc]at this;simpa using this
theorem Off.awake{j:Int}(h:Off p p' j):p'.awake j=p.awake j:=by
 unfold Qe.awake;cases hc:p.at j with
 |none=>rw[h.up.none hc]
 |some c=>
  obtain⟨c',k,e,_⟩:=h.up.get hc;rw[k];dsimp only;rw[e];have:=h.mem c.par;cases u:p.at c.par with
  |none=>rw[h.up.none u]
  |some q=> rw[u]at this;obtain⟨z,d,_⟩:=h.up.get u;rw[d]at this⊢;simp only[Option.map_some,Option.some.injEq,Prod.mk.injEq]at this;simp[this.1]
theorem Off.v{j:Int}(h:Off p p' j):p'.v j=p.v j:=by
 unfold Qe.v;cases hc:p.at j with
 |none=>rw[h.up.none hc]
 |some c=>
  obtain⟨c',k,e,_⟩:=h.up.get hc;rw[k];dsimp only;rw[e];have:=h.mem c.par;cases u:p.at c.par with
  |none=>rw[h.up.none u]
  |some q=> rw[u]at this;obtain⟨z,d,_⟩:=h.up.get u;rw[d]at this⊢;simp only[Option.map_some,Option.some.injEq,Prod.mk.injEq]at this;simp[this.2]
def Qcm(p:Qe)(i:Int):Prop:=∀k q,p.at k=some q→∀a b,((a,i,b)∈q.tree↔0<i∧p.awake i=true∧a=p.v i∧∃c,p.at i=some c∧c.par=k∧b=c.fit)
theorem Qcm.off{j:Int}(h:Qcm p j)(u:Off p p' j):Qcm p' j:=by
 intro k I B a b;obtain⟨q,E,ht⟩:=u.tree k I B;rw[ht,h k q E,u.awake,u.v];have hf:=u.fit;refine and_congr_right fun _=>and_congr_right fun _=>and_congr_right fun _=>⟨fun⟨c,hc,h1,z⟩=>?_,fun⟨c',d,h1,z⟩=>?_⟩;·obtain⟨c',d,e,_⟩:=u.up.get hc;rw[hc,d]at hf;simp only[Option.map_some,Option.some.injEq]at hf;exact⟨c',d,e.trans h1,z.trans hf.symm⟩
 ·obtain⟨c,hc,e,_⟩:=u.up.back d;rw[hc,d]at hf;simp only[Option.map_some,Option.some.injEq]at hf;exact⟨c,hc,e.trans h1,z.trans hf⟩
theorem Off.set{x y:Qv}{j:Int}(d:p.at x.id=some y)(z:x.par=y.par)(hl:x.leaf=y.leaf)(hs:x.shares=y.shares)(q:x.mem.up j=y.mem.up j∧x.mem.v j=y.mem.v j)(hf:j=x.id→x.fit=y.fit)
  (ht:∀a b,(a,j,b)∈x.tree↔(a,j,b)∈y.tree):Off p (p.set x) j:=by
 refine⟨Z5.set d z hl hs,fun k=>?_,?_,fun k u c=>?_⟩
 ·rw[Ks d];split;·rename_i e;rw[e,d];simp[q.1,q.2]
  ·rfl
 ·rw[Ks d];split;·rename_i e;rw[e,d];simp[hf e]
  ·rfl
 ·rw[Ks d]at c;split at c;·rename_i e;obtain rfl:=Option.some.inj c;exact⟨y,by rw[e];exact d,ht⟩
  ·exact⟨u,c,fun _ _=>Iff.rfl⟩
def Vd(p p':Qe):Prop:=∀k j,(p'.at k).map (fun c=>((c.mem.at j).isSome,c.under))=(p.at k).map fun c=>((c.mem.at j).isSome,c.under)
theorem Vd.refl(p:Qe):Vd p p:=fun _ _=>rfl
theorem Vd.trans(h:Vd p p')(h':Vd p' p''):Vd p p'':=fun k j=>(h' k j).trans (h k j)
theorem Vd.set{x y:Qv}(c:p.at x.id=some y)(d:∀j,(x.mem.at j).isSome=(y.mem.at j).isSome)(q:x.under=y.under):Vd p (p.set x):=fun k j=>by
 rw[Ks c];split;·rename_i e;rw[e,c];simp[d,q]
 ·rfl
theorem Qe1{i:Int}{c q:Qv}{f:Q9→Q9}(hc:p.at i=some c)(k:p.at c.par=some q){j:Int}(u:(f q.mem).up j=q.mem.up j∧(f q.mem).v j=q.mem.v j):Off p (p.fam i f) j:=by rw[Eg hc k];have d:=(Qe.at_mem k).2;exact Off.set (x:={q with mem:=f q.mem}) (y:=q) (show p.at q.id=_ by rw[d];exact k) rfl rfl rfl u (fun _=>rfl) (fun _ _=>Iff.rfl)
theorem Qg8{i:Int}{c q:Qv}{f:Q9→Q9}(hc:p.at i=some c)(k:p.at c.par=some q)(u:∀j,((f q.mem).at j).isSome=(q.mem.at j).isSome):Vd p (p.fam i f):=by rw[Eg hc k];have d:=(Qe.at_mem k).2;exact Vd.set (x:={q with mem:=f q.mem}) (y:=q) (show p.at q.id=_ by rw[d];exact k) u rfl
theorem Qcn{f g:Q9}{j:Int}(h:f.at j=g.at j):f.up j=g.up j∧f.v j=g.v j:=by unfold Q9.up Q9.v;rw[h];exact⟨rfl,rfl⟩
theorem Ek{i:Int}{c q:Qv}{f:Q9→Q9}(hc:p.at i=some c)(k:p.at c.par=some q)(j:Int):(p.fam i f).at j=if j=c.par then some {q with mem:=f q.mem}else p.at j:=by rw[Eg hc k];have d:=(Qe.at_mem k).2;have:=Ks (p:=p) (x:={q with mem:=f q.mem}) (y:=q) (show p.at q.id=_ by rw[d];exact k) j;rw[this];show(if j=q.id then _ else _)=_;rw[d]
theorem Qq1{now:Nat}{i:Int}{c:Qv}(hc:p.at i=some c):p.up1 now i=if p.awake i||!c.shares then p else(p.fam i fun f=>f.wake i).set {c with limit:=c.limit.wake now c.total}:=by unfold Qe.up1;rw[hc]
theorem Qsj(k:Qp dep N p){now:Nat}{i:Int}{c q:Qv}(hc:p.at i=some c)(hi:0<i)(z:p.at c.par=some q){j:Int}(I:j≠i):Off p (p.up1 now i) j:=by
 rw[Qq1 hc];split;·exact Off.refl _ _
 ·obtain⟨u,E⟩:=k.pid hc hi z;have h1:Off p (p.fam i fun f=>f.wake i) j:=Qe1 hc z (Qcn (by rw[Qlb,if_neg I]));have d:=(Qe.at_mem hc).2;have B:(p.fam i fun f=>f.wake i).at c.id=some c:=by rw[d,Ek hc z,if_neg (fun e=>u (by rw[E,←e]))];exact hc
  exact h1.trans (Off.set (x:={c with limit:=c.limit.wake now c.total}) (y:=c) B rfl rfl rfl ⟨rfl,rfl⟩ (fun e=>absurd (e.trans d) I) (fun _ _=>Iff.rfl))
theorem Qw6(d:Qp dep N p){now:Nat}{i:Int}{c q:Qv}(hc:p.at i=some c)(hi:0<i)(u:p.at c.par=some q):Vd p (p.up1 now i):=by
 rw[Qq1 hc];split;·exact Vd.refl _
 ·obtain⟨k,E⟩:=d.pid hc hi u;have B:=(Qe.at_mem hc).2;have z:(p.fam i fun f=>f.wake i).at c.id=some c:=by rw[B,Ek hc u,if_neg (fun e=>k (by rw[E,←e]))];exact hc
  exact(Qg8 hc u (fun j=>Qul)).trans (Vd.set (x:={c with limit:=c.limit.wake now c.total}) (y:=c) z (fun _=>rfl) rfl)
def Qdl(p:Qe):Prop:=∀k q,p.at k=some q→∀j,(q.mem.at j).isSome=true↔∃c,p.at j=some c∧0<j∧c.par=k∧c.shares=true
theorem Qdl.same(h:Qdl p)(hs:Z5 p p')(J:Vd p p'):Qdl p':=by
 intro k K u j;obtain⟨q,I,_⟩:=hs.back u;have h1:=J k j;rw[I,u]at h1;simp only[Option.map_some,Option.some.injEq,Prod.mk.injEq]at h1;rw[h1.1,h k q I j];refine⟨fun⟨c,hc,h1,B,E⟩=>?_,fun⟨c,hc,h1,B,E⟩=>?_⟩;·obtain⟨c',d,e1,_,z⟩:=hs.get hc;exact⟨c',d,h1,e1.trans B,z.trans E⟩
 ·obtain⟨c',d,e1,_,z⟩:=hs.back hc;exact⟨c',d,h1,e1.trans B,z.trans E⟩
theorem Qun(z:Qp dep N p)(J:Qdl p){now:Nat}{i:Int}{c q:Qv}(hc:p.at i=some c)(hi:0<i)(u:p.at c.par=some q):(p.up1 now i).awake i=(p.awake i||c.shares):=by
 rw[Qq1 hc];by_cases ha:p.awake i=true;·rw[if_pos (by simp[ha]),ha];rfl
 ·have ha:p.awake i=false:=by simpa using ha
  by_cases hs:c.shares=true
  ·rw[if_neg (by simp[ha,hs]),ha];obtain⟨B,I⟩:=z.pid hc hi u;have d:=(Qe.at_mem hc).2;have k:c.par≠i:=fun e=>B (by rw[I,e]);have E:(p.fam i fun f=>f.wake i).at c.id=some c:=by rw[d,Ek hc u,if_neg (Ne.symm k)];exact hc
   have h1:=Ks (x:={c with limit:=c.limit.wake now c.total}) (y:=c) E;have e1:((p.fam i fun f=>f.wake i).set {c with limit:=c.limit.wake now c.total}).at i=some {c with limit:=c.limit.wake now c.total}:=by rw[h1,if_pos d.symm]
   have K:((p.fam i fun f=>f.wake i).set {c with limit:=c.limit.wake now c.total}).at c.par=some {q with mem:=q.mem.wake i}:=by rw[h1,if_neg (fun e=>k (e.trans d)),Ek hc u,if_pos rfl]
   rw[Qe.awake_eq e1 (q:={q with mem:=q.mem.wake i}) K hi];show(q.mem.wake i).up i=_;rw[Qyh,if_pos rfl];have:=(J c.par q u i).2 ⟨c,hc,hi,rfl,hs⟩;rw[this,hs];rfl
  ·have hs:c.shares=false:=by simpa using hs
   rw[if_pos (by simp[hs]),ha,hs];rfl
theorem Qg9{i:Int}{c q:Qv}(hc:p.at i=some c)(u:p.at c.par=some q){j:Int}(z:j≠i)(k:j≠c.par):Off p (p.note i) j:=by
 rw[E9 hc u];have d:=(Qe.at_mem u).2;refine Off.set (y:=q) (show p.at q.id=_ by rw[d];exact u) rfl rfl rfl ⟨rfl,rfl⟩ (fun e=>absurd (e.trans d) k) fun a b=>?_;dsimp only;split;·unfold Kg;rw[Oz];unfold Jc;rw[List.mem_filter];simp only[Prod.mk.injEq,z,false_and,and_false,false_or,Bool.not_eq_true',decide_eq_false_iff_not,not_false_eq_true,and_true]
 ·unfold Jc;rw[List.mem_filter];simp only[z,Bool.not_eq_true',decide_eq_false_iff_not,not_false_eq_true,and_true]
theorem Qdm{i:Int}{c q:Qv}(hc:p.at i=some c)(k:p.at c.par=some q):Vd p (p.note i):=by rw[E9 hc k];have d:=(Qe.at_mem k).2;exact Vd.set (y:=q) (show p.at q.id=_ by rw[d];exact k) (fun _=>rfl) rfl
theorem Qw7{i:Int}{c q:Qv}(hc:p.at i=some c)(u:p.at c.par=some q)(j:Int):∀k,((p.note i).at k).map (fun c=>(c.mem.up j,c.mem.v j))=(p.at k).map fun c=>(c.mem.up j,c.mem.v j):=fun k=>by
 rw[E9 hc u];have d:=(Qe.at_mem u).2;rw[Ks (x:={q with tree:=if p.awake i then Kg i (p.v i) c.fit q.tree else Jc i q.tree}) (y:=q) (show p.at q.id=_ by rw[d];exact u)];show Option.map _ (if k=q.id then _ else _)=_;by_cases e:k=q.id;·rw[if_pos e,e,d,u];rfl
 ·rw[if_neg e]
theorem Qn3(hs:Z5 p p'){j:Int}(B:∀k,(p'.at k).map (fun c=>(c.mem.up j,c.mem.v j))=(p.at k).map fun c=>(c.mem.up j,c.mem.v j)):p'.awake j=p.awake j∧p'.v j=p.v j:=by
 unfold Qe.awake Qe.v;cases hc:p.at j with
 |none=>rw[hs.none hc];exact⟨rfl,rfl⟩
 |some c=>
  obtain⟨c',u,e,_⟩:=hs.get hc;rw[u];dsimp only;rw[e];have:=B c.par;cases d:p.at c.par with
  |none=>rw[hs.none d];exact⟨rfl,rfl⟩
  |some q=> rw[d]at this;obtain⟨E,z,_⟩:=hs.get d;rw[z]at this⊢;simp only[Option.map_some,Option.some.injEq,Prod.mk.injEq]at this;simp[this.1,this.2]
theorem Lg(d:Qp dep N p){i:Int}{c q:Qv}(hc:p.at i=some c)(hi:0<i)(k:p.at c.par=some q)(j:Int):(p.note i).awake j=p.awake j∧(p.note i).v j=p.v j:=Qn3 (d.note hc hi k).2 (Qw7 hc k j)
theorem Qha(B:Qp dep N p){i:Int}{c q:Qv}(hc:p.at i=some c)(hi:0<i)(R:p.at c.par=some q):Qcm (p.note i) i:=by
 obtain⟨V,I⟩:=B.pid hc hi R;obtain⟨ha,hv⟩:=Lg B hc hi R i;intro k q' u a b;rw[ha,hv];have K:∀j,(p.note i).at j=if j=c.par then some {q with tree:=if p.awake i then Kg i (p.v i) c.fit q.tree else Jc i q.tree}else p.at j:=fun j=>by rw[E9 hc R,Ks (x:={q with tree:=if p.awake i then Kg i (p.v i) c.fit q.tree else Jc i q.tree}) (y:=q) (show p.at q.id=_ by rw[I];exact R)];show(if j=q.id then _ else _)=_;rw[I]
 have aa:i≠c.par:=fun e=>V (by rw[I,e]);rw[K,if_neg aa];rw[K]at u;by_cases J:k=c.par
 ·rw[if_pos J]at u;obtain rfl:=Option.some.inj u;dsimp only;by_cases z:p.awake i=true;·rw[if_pos z];unfold Kg;rw[Oz];unfold Jc;rw[List.mem_filter];simp only[Prod.mk.injEq,true_and,decide_true,Bool.not_true,Bool.false_eq_true,and_false,or_false,hi,z,hc,Option.some.injEq,exists_eq_left'];exact⟨fun⟨h1,h2⟩=>⟨h1,J.symm,h2⟩,fun⟨h1,_,h2⟩=>⟨h1,h2⟩⟩
  ·rw[if_neg z];unfold Jc;rw[List.mem_filter];simp[z]
 ·rw[if_neg J]at u;refine⟨fun hm=>?_,fun⟨_,_,_,c',d,E,_⟩=>?_⟩;·obtain⟨U,Z⟩:=Qe.at_mem u;obtain⟨c',d,E,_⟩:=B.tr q' U (a,i,b) hm;dsimp only at d;rw[hc]at d;obtain rfl:=Option.some.inj d;exact absurd (Z.symm.trans E.symm) J
  ·rw[hc]at d;obtain rfl:=Option.some.inj d;exact absurd E.symm J
theorem Qhb{g:Nat}{i:Int}{c:Qv}(hc:p.at i=some c):p.gain1 g i=(p.set {c with total:=c.total+min g (Jz-c.total)}).fam i fun f=>f.gain i g:=by unfold Qe.gain1;rw[hc]
theorem Qdn(u:Qp dep N p){g:Nat}{i:Int}{c q:Qv}(hc:p.at i=some c)(hi:0<i)(E:p.at c.par=some q):
  p.at c.id=some c∧(p.set {c with total:=c.total+min g (Jz-c.total)}).at i=some {c with total:=c.total+min g (Jz-c.total)}∧(p.set {c with total:=c.total+min g (Jz-c.total)}).at c.par=some q:=by
 obtain⟨z,B⟩:=u.pid hc hi E;have d:=(Qe.at_mem hc).2;have k:p.at c.id=some c:=by rw[d];exact hc
 have h1:=Ks (x:={c with total:=c.total+min g (Jz-c.total)}) (y:=c) k;exact⟨k,by rw[h1,if_pos d.symm],by rw[h1,if_neg (fun e=>z (by rw[B,e];exact d))];exact E⟩
theorem Qju(d:Qp dep N p){g:Nat}{i:Int}{c q:Qv}(hc:p.at i=some c)(hi:0<i)(B:p.at c.par=some q){j:Int}(z:j≠i):Off p (p.gain1 g i) j:=by
 rw[Qhb hc];obtain⟨k,h1,E⟩:=Qdn (g:=g) d hc hi B;have u:=(Qe.at_mem hc).2;exact(Off.set (x:={c with total:=c.total+min g (Jz-c.total)}) (y:=c) k rfl rfl rfl ⟨rfl,rfl⟩ (fun e=>absurd (e.trans u) z) (fun _ _=>Iff.rfl)).trans
  (Qe1 h1 E (Qcn (by rw[Qlc,if_neg z])))
theorem Qq2(d:Qp dep N p){g:Nat}{i:Int}{c q:Qv}(hc:p.at i=some c)(hi:0<i)(z:p.at c.par=some q):Vd p (p.gain1 g i):=by rw[Qhb hc];obtain⟨k,h1,u⟩:=Qdn (g:=g) d hc hi z;exact(Vd.set (x:={c with total:=c.total+min g (Jz-c.total)}) (y:=c) k (fun _=>rfl) rfl).trans (Qg8 h1 u (fun j=>Qum))
theorem Qn4(d:Qp dep N p){g:Nat}{i:Int}{c q:Qv}(hc:p.at i=some c)(hi:0<i)(k:p.at c.par=some q)(j:Int):(p.gain1 g i).awake j=p.awake j:=by
 by_cases E:j=i
 ·obtain⟨u,B⟩:=d.pid hc hi k;obtain⟨K,h1,I⟩:=Qdn (g:=g) d hc hi k;have z:i≠c.par:=fun e=>u (by rw[B,e]);rw[Qhb hc,E];have e1:((p.set {c with total:=c.total+min g (Jz-c.total)}).fam i fun f=>f.gain i g).at i=some {c with total:=c.total+min g (Jz-c.total)}:=by rw[Ek h1 I,if_neg z];exact h1
  have J:((p.set {c with total:=c.total+min g (Jz-c.total)}).fam i fun f=>f.gain i g).at c.par=some {q with mem:=q.mem.gain i g}:=by rw[Ek h1 I,if_pos rfl]
  rw[Qe.awake_eq e1 (q:={q with mem:=q.mem.gain i g}) J hi,Qe.awake_eq hc k hi];exact Qyi
 ·exact(Qju d hc hi k E).awake
theorem Qco{sl:Bool}{i:Int}{c:Qv}(hc:p.at i=some c):p.rest1 sl i=Qe.note (if sl&&(c.leaf||decide (c.tree.length=0))then p.fam i fun f=>f.sleep i else p) i:=by unfold Qe.rest1;rw[hc]
theorem Qad(d:Qp dep N p){i:Int}{c q:Qv}(hc:p.at i=some c)(hi:0<i)(u:p.at c.par=some q):
  (p.fam i fun f=>f.sleep i).at i=some c∧(p.fam i fun f=>f.sleep i).at c.par=some {q with mem:=q.mem.sleep i}:=by
 obtain⟨k,B⟩:=d.pid hc hi u;have z:i≠c.par:=fun e=>k (by rw[B,e]);exact⟨by rw[Ek hc u,if_neg z];exact hc,by rw[Ek hc u,if_pos rfl]⟩
theorem Qn5(d:Qp dep N p){i:Int}{c q:Qv}(hc:p.at i=some c)(hi:0<i)(k:p.at c.par=some q):Qp dep N (p.fam i fun f=>f.sleep i)∧Z5 p (p.fam i fun f=>f.sleep i):=by obtain⟨k1,k2,_⟩:=d.fam (f:=fun f=>f.sleep i) (Nat.le_refl _) hc hi k ((d.ok q (Qe.at_mem k).1).fam.sleep i);exact⟨k1,k2⟩
theorem Quo(k:Qp dep N p){sl:Bool}{i:Int}{c q:Qv}(hc:p.at i=some c)(hi:0<i)(u:p.at c.par=some q){j:Int}(z:j≠i)(d:j≠c.par):Off p (p.rest1 sl i) j:=by
 rw[Qco hc];split;·obtain⟨h1,B⟩:=Qad k hc hi u;exact(Qe1 hc u (Qcn (by rw[Qck,if_neg z]))).trans (Qg9 h1 B z d)
 ·exact Qg9 hc u z d
theorem Qq3(d:Qp dep N p){sl:Bool}{i:Int}{c q:Qv}(hc:p.at i=some c)(hi:0<i)(k:p.at c.par=some q):Vd p (p.rest1 sl i):=by
 rw[Qco hc];split;·obtain⟨h1,u⟩:=Qad d hc hi k;exact(Qg8 hc k (fun j=>Qq0)).trans (Qdm h1 u)
 ·exact Qdm hc k
theorem Qup(d:Qp dep N p){sl:Bool}{i:Int}{c q:Qv}(hc:p.at i=some c)(hi:0<i)(k:p.at c.par=some q):Qcm (p.rest1 sl i) i:=by
 rw[Qco hc];split;·obtain⟨h1,u⟩:=Qad d hc hi k;exact Qha (Qn5 d hc hi k).1 h1 hi u
 ·exact Qha d hc hi k
theorem Hs(d:Qp dep N p){sl:Bool}{i:Int}{c q:Qv}(hc:p.at i=some c)(hi:0<i)(u:p.at c.par=some q)(j:Int):
  (p.rest1 sl i).awake j=if j=i∧(sl&&(c.leaf||decide (c.tree.length=0)))=true then false else p.awake j:=by
 rw[Qco hc];by_cases hs:(sl&&(c.leaf||decide (c.tree.length=0)))=true
 ·obtain⟨h1,z⟩:=Qad d hc hi u;rw[if_pos hs,(Lg (Qn5 d hc hi u).1 h1 hi z j).1];by_cases k:j=i;·rw[if_pos ⟨k,hs⟩,k,Qe.awake_eq h1 z hi];show(q.mem.sleep i).up i=_;rw[Qw5,if_pos rfl]
  ·rw[if_neg (fun h=>k h.1)];exact(Qe1 hc u (Qcn (by rw[Qck,if_neg k]))).awake
 ·rw[if_neg hs,if_neg (fun h=>hs h.2),(Lg d hc hi u j).1]
end
section
variable{p p':Qe}{N:Nat}{dep:Int→Nat}
theorem Ot(h:Z5 p p'):∀(n:Nat)(i:Int),p'.path n i=p.path n i
 |0,_=>rfl
 |n+1,i=>by
  rw[Qe.path,Qe.path];by_cases hi:i<1;·rw[if_pos hi,if_pos hi]
  ·rw[if_neg hi,if_neg hi];cases hc:p.at i with
   |none=>rw[h.none hc]
   |some c=> obtain⟨c',d,e,_⟩:=h.get hc;rw[d];dsimp only;rw[e,Ot h n]
theorem Qbi(d:Qp dep N p):∀{l:List Int}{id:Int},Va p (id::l)→∀k∈l,dep k<dep id
 |[],_,_,k,q=>by cases q
 |x::l,id,h,k,q=>by
  obtain⟨h1,⟨c,hc,J⟩,E⟩:=h;obtain⟨B,u⟩:=Qe.at_mem hc;have I:=(d.up.2 c B (by omega)).2.2.1;have z:c.par=x:=J;rw[u,z]at I;rcases List.mem_cons.1 q with rfl|q;·omega
  ·have:=Qbi d E k q;omega
theorem Qhc(c:Qp dep N p){l:List Int}{id:Int}(h:Va p (id::l)):id∉l:=fun d=>by have:=Qbi c h id d;omega
theorem Qae{n:Nat}{i:Int}{c:Qv}(hc:p.at i=some c)(hi:0<i):i∈p.path (n+1) i:=by rw[Qe.path,if_neg (by omega),hc];simp
theorem Qsk(k:Qp dep N p):∀{n:Nat}{i j:Int}{c:Qv},dep i<n→j∈p.path n i→p.at j=some c→0<c.par→c.par∈p.path n i
 |0,i,j,c,hd,_,_,_=>by omega
 |n+1,i,j,c,hd,d,hc,hp=>by
  rw[Qe.path]at d⊢;by_cases hi:i<1;·rw[if_pos hi]at d;cases d
  ·rw[if_neg hi]at d⊢;cases u:p.at i with
   |none=>rw[u]at d;cases d
   |some x=>
    rw[u]at d;dsimp only at d⊢;obtain⟨J,B⟩:=Qe.at_mem u;have E:=(k.up.2 x J (by omega)).2.2.1;rw[B]at E;rcases List.mem_cons.1 d with rfl|d;·rw[u]at hc;obtain rfl:=Option.some.inj hc;obtain⟨q,z⟩:=k.par u (by omega);refine List.mem_cons_of_mem _ ?_;have I:=(k.up.2 q (Qe.at_mem z).1 (by rw[(Qe.at_mem z).2];omega)).2.2.1;rw[(Qe.at_mem z).2]at I;obtain⟨m,rfl⟩:∃m,n=m+1:=⟨n-1,by omega⟩;exact Qae z hp
    ·exact List.mem_cons_of_mem _ (Qsk k (by omega) d hc hp)
theorem Qzp(d:Qp dep N p){i:Int}{c:Qv}(hc:p.at i=some c):dep i≤8:=by
 obtain⟨q,k⟩:=Qe.at_mem hc;have h0:=d.pos hc;by_cases h:i=0;·rw[h,d.up.1];omega
 ·have:=(d.up.2 c q (by omega)).2.2.2;rwa[k]at this
structure Uw(p:Qe):Prop where
 ent:∀j,Qcm p j
 memb:Qdl p
 inn:∀i c q,p.at i=some c→0<i→p.at c.par=some q→q.leaf=false
 low:∀j,p.awake j=true→∃L c,p.at L=some c∧c.leaf=true∧j∈p.path 9 L∧p.awake L=true
theorem Qbj(k:Qp dep N p)(z:∀i c q,p.at i=some c→0<i→p.at c.par=some q→q.leaf=false):∀{n:Nat}{i j:Int},j∈p.path n i→j≠i→∃c,p.at j=some c∧c.leaf=false
 |0,i,j,d,_=>by rw[Qe.path]at d;cases d
 |n+1,i,j,d,hne=>by
  rw[Qe.path]at d;by_cases hi:i<1;·rw[if_pos hi]at d;cases d
  ·rw[if_neg hi]at d;cases u:p.at i with
   |none=>rw[u]at d;cases d
   |some x=>
    rw[u]at d;dsimp only at d;rcases List.mem_cons.1 d with rfl|d;·exact absurd rfl hne
    ·by_cases e:j=x.par;·obtain⟨q,B⟩:=k.par u (by omega);exact⟨q,by rw[e];exact B,z i x q u (by omega) B⟩
     ·exact Qbj k z d e
theorem Qhd{c:Qe→Int→Qe}{J:List Int→Qe→Prop}(h:∀id rest p,J (id::rest) p→J rest (c p id)):∀(l:List Int)(p:Qe),J l p→J [] (l.foldl c p)
 |[],_,hp=>hp
 |id::rest,p,hp=>Qhd h rest _ (h id rest p hp)
structure J1(dep:Int→Nat)(N L:Nat)(p0:Qe)(L0:List Int)(rest:List Int)(p:Qe):Prop where
 go:Yd dep N L p0 rest p
 sub:∀j∈rest,j∈L0
 off:∀j,j∉L0→Off p0 p j
 memb:Vd p0 p
 aw:∀j,p.awake j=true↔p0.awake j=true∨(j∈L0∧j∉rest∧∃c,p0.at j=some c∧c.shares=true)
theorem Qyj{p0:Qe}{L:Nat}{L0:List Int}(now:Nat)(J:Qdl p0)(id:Int)(rest:List Int)(p:Qe)(h:J1 dep N L p0 L0 (id::rest) p):J1 dep N L p0 L0 rest (p.up1 now id):=by
 obtain⟨hi,c,q,hc,k,U⟩:=h.go.head;have ok:=h.go.ok;obtain⟨k1,k2⟩:=ok.up1 now hc hi k;have I:id∉rest:=Qhc ok h.go.path;have u:id∈L0:=h.sub id (by simp);refine⟨(h.go.next k1 k2).2.2.1,fun j E=>h.sub j (by simp[E]),fun j E=>(h.off j E).trans (Qsj ok hc hi k (by rintro rfl;exact E u)),h.memb.trans (Qw6 ok hc hi k),fun j=>?_⟩;by_cases e:j=id
 ·subst e;rw[Qun ok (J.same h.go.same h.memb) hc hi k,Bool.or_eq_true,h.aw j];obtain⟨K,d,_,_,z⟩:=h.go.same.back hc;constructor
  ·rintro((h1|⟨_,h1,_⟩)|h1);·exact .inl h1
   ·exact absurd (List.mem_cons_self) h1
   ·exact .inr ⟨u,I,K,d,z.trans h1⟩
  ·rintro(h1|⟨_,_,R,B,h1⟩);·exact .inl (.inl h1)
   ·rw[d]at B;obtain rfl:=Option.some.inj B;exact .inr (z.symm.trans h1)
 ·rw[(Qsj ok hc hi k e).awake,h.aw j];refine or_congr_right (and_congr_right fun _=>and_congr_left fun _=>?_);simp[e]
structure J2(dep:Int→Nat)(N L:Nat)(p1:Qe)(rest:List Int)(p:Qe):Prop where
 go:Yd dep N L p1 rest p
 ent:∀j,j∉rest→Qcm p j
 memb:Vd p1 p
 aw:∀j,p.awake j=p1.awake j
theorem Qn6{p:Qe}(d:Qp dep N p){j:Int}(u:¬0<j):Qcm p j:=fun k q B a b=>by refine⟨fun z=>?_,fun h=>absurd h.1 u⟩;obtain⟨c,_,_,h⟩:=d.tr q (Qe.at_mem B).1 (a,j,b) z;exact absurd h u
theorem Qn7{p:Qe}{id:Int}{rest:List Int}{c:Qv}(h:c.par=Gk rest){j:Int}(d:j∉rest)(h0:0<j):j≠c.par:=by
 rintro rfl;cases rest with
 |nil=>rw[h]at h0;exact absurd h0 (by decide)
 |cons x l=>exact d (by rw[h];exact List.mem_cons_self)
theorem Qyk{p1:Qe}{L:Nat}(id:Int)(rest:List Int)(p:Qe)(h:J2 dep N L p1 (id::rest) p):J2 dep N L p1 rest (p.note id):=by
 obtain⟨hi,c,q,hc,d,u⟩:=h.go.head;have ok:=h.go.ok;obtain⟨k1,k2⟩:=ok.note hc hi d;refine⟨(h.go.next k1 k2).2.2.1,fun j k=>?_,h.memb.trans (Qdm hc d),fun j=>(Lg ok hc hi d j).1.trans (h.aw j)⟩;by_cases e:j=id;·subst e;exact Qha ok hc hi d
 ·by_cases h0:0<j;·exact(h.ent j (by simp[e,k])).off (Qg9 hc d e (Qn7 (p:=p) (id:=id) u k h0))
  ·exact Qn6 k1 h0
theorem Uw.wake(R:Qp dep N p)(U:Uw p)(i:Int)(now:Nat):
  Uw (p.wake i now)∧Vd p (p.wake i now)∧∀j,(p.wake i now).awake j=true↔p.awake j=true∨(j∈p.path 9 i∧(∃c,p.at j=some c∧c.shares=true)∧∃c,p.at i=some c∧0<i∧c.leaf=true∧c.shares=true):=by
 have ab:=R.wake i now;have B:p.wake i now=p→(∀c,p.at i=some c→0<i→c.leaf=true→c.shares=true→False)→Uw (p.wake i now)∧Vd p (p.wake i now)∧∀j,(p.wake i now).awake j=true↔p.awake j=true∨(j∈p.path 9 i∧(∃c,p.at j=some c∧c.shares=true)∧∃c,p.at i=some c∧0<i∧c.leaf=true∧c.shares=true):=fun e u=>by rw[e];exact⟨U,Vd.refl _,fun j=>⟨.inl,fun h=>h.elim id fun⟨_,_,c,h1,h2,V,h4⟩=>(u c h1 h2 V h4).elim⟩⟩
 cases hc:p.at i with
 |none=> have:=B (by unfold Qe.wake;rw[hc]) (fun c h=>by rw[hc]at h;cases h);rw[hc]at this;exact this
 |some c=>
  rw[hc]at B;by_cases u:(decide (i<1)||!c.leaf||!c.shares)=true
  ·refine B (by unfold Qe.wake;rw[hc];dsimp only;rw[if_pos (by simpa using u)]) fun c' h h1 h2 V=>?_;obtain rfl:=Option.some.inj h;have:¬i<1:=by omega
   simp[this,h2,V]at u
  ·have hw:p.wake i now=(p.path 9 i).foldl Qe.note ((p.path 9 i).foldl (Qe.up1 now) p):=by unfold Qe.wake;rw[hc];dsimp only;rw[if_neg (by simpa using u)]
   have I:0<i∧c.leaf=true∧c.shares=true:=by simp only[Bool.or_eq_true,decide_eq_true_eq,Bool.not_eq_true',not_or,Bool.not_eq_false]at u;exact⟨by omega,u.1.2,u.2⟩
   obtain⟨h1,_,V⟩:=Oq R hc;have K:=Qhd (Qyj (dep:=dep) (N:=N) (p0:=p) (L:=(p.path 9 i).length) (L0:=p.path 9 i) now U.memb) (p.path 9 i) p
    ⟨Yd.start R h1,fun j E=>E,fun j _=>Off.refl _ _,Vd.refl _,fun j=>⟨.inl,fun h=>h.elim id fun h=>absurd h.1 h.2.1⟩⟩
   generalize(p.path 9 i).foldl (Qe.up1 now) p=p1 at K hw;have g2:=Qhd (Qyk (dep:=dep) (N:=N+(p.path 9 i).length) (p1:=p1) (L:=(p.path 9 i).length)) (p.path 9 i) p1
    ⟨Yd.start (by simpa using K.go.ok) (Va.same K.go.same h1),fun j E=>(U.ent j).off (K.off j E),Vd.refl _,fun j=>rfl⟩
   generalize(p.path 9 i).foldl Qe.note p1=p2 at g2 hw;rw[hw];have hs:Z5 p p2:=K.go.same.trans g2.go.same;have hm:Vd p p2:=K.memb.trans g2.memb;have J:∀j,p2.awake j=true↔p.awake j=true∨(j∈p.path 9 i∧(∃c,p.at j=some c∧c.shares=true)):=fun j=>by rw[g2.aw j,K.aw j];simp
   refine⟨⟨fun j=>g2.ent j (by simp),U.memb.same hs hm,fun k d q hd hk hq=>?_,fun j E=>?_⟩,hm,fun j=>?_⟩;·obtain⟨d',z,e1,_⟩:=hs.back hd;obtain⟨q',aa,_,Z,_⟩:=hs.back hq;rw[←Z];exact U.inn k d' q' z hk (by rw[e1];exact aa)
   ·rcases(J j).1 E with E|⟨E,_⟩;·obtain⟨L,d,h1,h2,V,h4⟩:=U.low j E;obtain⟨d',z,_,Z,_⟩:=hs.get h1;exact⟨L,d',z,Z.trans h2,by rw[Ot hs];exact V,(J L).2 (.inl h4)⟩
    ·obtain⟨d',z,_,Z,_⟩:=hs.get hc;exact⟨i,d',z,Z.trans I.2.1,by rw[Ot hs];exact E,(J i).2 (.inr ⟨Qae hc I.1,c,hc,I.2.2⟩)⟩
   ·rw[J j];exact or_congr_right (and_congr_right fun _=>⟨fun h=>⟨h,c,rfl,I⟩,fun h=>h.1⟩)
structure J3(dep:Int→Nat)(N L:Nat)(p0:Qe)(L0:List Int)(rest:List Int)(p:Qe):Prop where
 go:Yd dep N L p0 rest p
 sub:∀j∈rest,j∈L0
 off:∀j,j∉L0→Off p0 p j
 memb:Vd p0 p
 aw:∀j,p.awake j=p0.awake j
theorem Qyl{p0:Qe}{L:Nat}{L0:List Int}(g:Nat)(id:Int)(rest:List Int)(p:Qe)(h:J3 dep N L p0 L0 (id::rest) p):J3 dep N L p0 L0 rest (p.gain1 g id):=by obtain⟨hi,c,q,hc,k,z⟩:=h.go.head;have ok:=h.go.ok;obtain⟨k1,k2⟩:=ok.gain1 g hc hi k;have u:id∈L0:=h.sub id (by simp);exact⟨(h.go.next k1 k2).2.2.1,fun j d=>h.sub j (by simp[d]),fun j d=>(h.off j d).trans (Qju ok hc hi k (by rintro rfl;exact d u)),h.memb.trans (Qq2 ok hc hi k),fun j=>(Qn4 ok hc hi k j).trans (h.aw j)⟩
structure J4(dep:Int→Nat)(N L:Nat)(p1:Qe)(L0:List Int)(i:Int)(sl:Bool)(rest:List Int)(p:Qe):Prop where
 go:Yd dep N L p1 rest p
 sub:∀j∈rest,j∈L0
 ent:∀j,j∉rest→Qcm p j
 memb:Vd p1 p
 less:∀j,p.awake j=true→p1.awake j=true
 same:∀j,j∉L0∨sl=false→p.awake j=p1.awake j
 off:sl=true→i∉rest→p.awake i=false
 low:sl=true→∀j,j∉rest→p.awake j=true→∃L' c,L'≠i∧p.at L'=some c∧c.leaf=true∧j∈p.path 9 L'∧p.awake L'=true
theorem Qym{p1:Qe}{L:Nat}{L0:List Int}{i:Int}{sl:Bool}(ak:∀i c q,p1.at i=some c→0<i→p1.at c.par=some q→q.leaf=false)(hL:∀j∈L0,j≠i→∃c,p1.at j=some c∧c.leaf=false)(Z:∃c,p1.at i=some c∧c.leaf=true)
  (id:Int)(rest:List Int)(p:Qe)(h:J4 dep N L p1 L0 i sl (id::rest) p):J4 dep N L p1 L0 i sl rest (p.rest1 sl id):=by
 obtain⟨hi,c,q,hc,I,hp⟩:=h.go.head;have ok:=h.go.ok;obtain⟨k1,k2⟩:=ok.rest1 sl hc hi I;have R:id∈L0:=h.sub id (by simp);have al:id∉rest:=Qhc ok h.go.path;have ho:∀j,j≠id→(p.rest1 sl id).awake j=p.awake j:=fun j u=>by rw[Hs ok hc hi I,if_neg (fun e=>u e.1)]
 have ag:∀j,(p.rest1 sl id).awake j=true→p.awake j=true:=fun j u=>by
  rw[Hs ok hc hi I]at u;split at u;·cases u
  ·exact u
 refine⟨(h.go.next k1 k2).2.2.1,fun j u=>h.sub j (by simp[u]),fun j u=>?_,h.memb.trans (Qq3 ok hc hi I),fun j u=>h.less j (ag j u),fun j u=>?_,fun hs ac=>?_,fun hs j u ha=>?_⟩
 ·by_cases e:j=id;·subst e;exact Qup ok hc hi I
  ·by_cases h0:0<j;·exact(h.ent j (by simp[e,u])).off (Quo ok hc hi I e (Qn7 (p:=p) (id:=id) hp u h0))
   ·exact Qn6 k1 h0
 ·rw[Hs ok hc hi I];split
  ·rename_i e;rcases u with u|u;·exact absurd (e.1▸R) u
   ·rw[u]at e;simp at e
  ·exact h.same j u
 ·by_cases e:i=id;·subst e;obtain⟨c1,z,K⟩:=Z;obtain⟨c',B,_,V,_⟩:=h.go.same.get z;rw[hc]at B;obtain rfl:=Option.some.inj B;rw[Hs ok hc hi I,if_pos ⟨rfl,by simp[hs,V.trans K]⟩]
  ·rw[ho i e];exact h.off hs (by simp[e,ac])
 ·
  have keep:∀j,(∃L' c,L'≠i∧p.at L'=some c∧c.leaf=true∧j∈p.path 9 L'∧p.awake L'=true)→∃L' c,L'≠i∧(p.rest1 sl id).at L'=some c∧c.leaf=true∧j∈(p.rest1 sl id).path 9 L'∧(p.rest1 sl id).awake L'=true:=by
   rintro j⟨L',c',h1,h2,h3,h4,h5⟩;obtain⟨d,hd,_,e2,_⟩:=k2.get h2;refine⟨L',d,h1,hd,e2.trans h3,by rw[Ot k2];exact h4,?_⟩;rw[ho L' ?_];·exact h5
   ·rintro rfl;obtain⟨c0,U,aa⟩:=hL L' R h1;obtain⟨c1,z,_,e3,_⟩:=h.go.same.get U;rw[h2]at z;obtain rfl:=Option.some.inj z;rw[h3,aa]at e3;cases e3
  by_cases e:j=id
  ·subst e;refine keep j ?_;have ae:j≠i:=by rintro rfl;obtain⟨c1,z,K⟩:=Z;obtain⟨c',B,_,V,_⟩:=h.go.same.get z;rw[hc]at B;obtain rfl:=Option.some.inj B;rw[Hs ok hc hi I,if_pos ⟨rfl,by simp[hs,V.trans K]⟩]at ha;cases ha
   obtain⟨c0,U,aa⟩:=hL j R ae;obtain⟨c1,z,_,e3,_⟩:=h.go.same.get U;rw[hc]at z;obtain rfl:=Option.some.inj z;have ah:c.tree≠[]:=fun e=>by rw[Hs ok hc hi I,if_pos ⟨rfl,by simp[hs,e]⟩]at ha;cases ha
   obtain⟨⟨a,k,b⟩,hm⟩:=List.exists_mem_of_ne_nil _ ah;obtain⟨ck,E,J,ai⟩:=ok.tr c (Qe.at_mem hc).1 (a,k,b) hm;dsimp only at E ai;rw[(Qe.at_mem hc).2]at J;have af:=(ok.up.2 ck (Qe.at_mem E).1 (by rw[(Qe.at_mem E).2];omega)).2.2.1;rw[(Qe.at_mem E).2,J]at af;have ab:k∉j::rest:=fun hk=>by
    rcases List.mem_cons.1 hk with rfl|hk;·omega
    ·have:=Qbi ok h.go.path k hk;omega
   have aj:=((h.ent k ab j c hc a b).1 hm).2.1;obtain⟨L',c',h1,h2,h3,h4,h5⟩:=h.low hs k ab aj;refine⟨L',c',h1,h2,h3,?_,h5⟩;have:=Qsk ok (Nat.lt_succ_of_le (Qzp ok h2)) h4 E (by rw[J];exact hi);rwa[J]at this
  ·rw[ho j e]at ha;exact keep j (h.low hs j (by simp[e,u]) ha)
theorem Uw.sent(ab:Qp dep N p)(hv:Uw p)(i:Int)(g:Nat)(more:Bool):
  Uw (p.sent i g more)∧Vd p (p.sent i g more)∧(∀j,(p.sent i g more).awake j=true→p.awake j=true)∧(∀j,j∉p.path 9 i∨more=true∨p.awake i=false→(p.sent i g more).awake j=p.awake j)∧
   (more=false→(∃c,p.at i=some c∧c.leaf=true)→(p.sent i g more).awake i=false):=by
 have V:p.sent i g more=p→(more=false→(∃c,p.at i=some c∧c.leaf=true)→p.awake i=false)→Uw (p.sent i g more)∧Vd p (p.sent i g more)∧(∀j,(p.sent i g more).awake j=true→p.awake j=true)∧(∀j,j∉p.path 9 i∨more=true∨p.awake i=false→(p.sent i g more).awake j=p.awake j)∧
   (more=false→(∃c,p.at i=some c∧c.leaf=true)→(p.sent i g more).awake i=false):=fun e h=>by
  rw[e];exact⟨hv,Vd.refl _,fun _ h=>h,fun _ _=>rfl,h⟩
 cases hc:p.at i with
 |none=> have:=V (by unfold Qe.sent;rw[hc]) (fun _⟨c,h,_⟩=>by rw[hc]at h;cases h);rw[hc]at this;exact this
 |some c=>
  rw[hc]at V;by_cases R:(decide (i<1)||!c.leaf)=true;·refine V (by unfold Qe.sent;rw[hc];dsimp only;rw[if_pos (by simpa using R)]) fun _⟨c',h,h2⟩=>?_;obtain rfl:=Option.some.inj h;simp only[h2,Bool.not_true,Bool.or_false,decide_eq_true_eq]at R;exact Qe.awake_neg (by omega)
  ·have hw:p.sent i g more=(p.path 9 i).foldl (Qe.rest1 (!more&&((p.path 9 i).foldl (Qe.gain1 g) p).awake i)) ((p.path 9 i).foldl (Qe.gain1 g) p):=by unfold Qe.sent;rw[hc];dsimp only;rw[if_neg (by simpa using R)]
   have ac:0<i∧c.leaf=true:=by simp only[Bool.or_eq_true,decide_eq_true_eq,Bool.not_eq_true',not_or,Bool.not_eq_false]at R;exact⟨by omega,R.2⟩
   obtain⟨h1,_,h3⟩:=Oq ab hc;have E:=Qhd (Qyl (dep:=dep) (N:=N) (p0:=p) (L:=(p.path 9 i).length) (L0:=p.path 9 i) g) (p.path 9 i) p
    ⟨Yd.start ab h1,fun j B=>B,fun j _=>Off.refl _ _,Vd.refl _,fun j=>rfl⟩
   generalize(p.path 9 i).foldl (Qe.gain1 g) p=p1 at E hw;have ag:∀k d q,p1.at k=some d→0<k→p1.at d.par=some q→q.leaf=false:=fun k d q hd hk hq=>by obtain⟨U,z,e1,_⟩:=E.go.same.back hd;obtain⟨q',aa,_,J,_⟩:=E.go.same.back hq;rw[←J];exact hv.inn k U q' z hk (by rw[e1];exact aa)
   have hL:∀j∈p.path 9 i,j≠i→∃c,p1.at j=some c∧c.leaf=false:=fun j B ah=>by obtain⟨d,hd,hl⟩:=Qbj ab hv.inn B ah;obtain⟨U,z,_,J,_⟩:=E.go.same.get hd;exact⟨U,z,J.trans hl⟩
   have ae:∃c,p1.at i=some c∧c.leaf=true:=by obtain⟨U,z,_,J,_⟩:=E.go.same.get hc;exact⟨U,z,J.trans ac.2⟩
   obtain⟨sl,K⟩:=Zx ((!more&&p1.awake i));rw[←K]at hw;have aj:i∈p.path 9 i:=Qae hc ac.1;have Z:=Qhd (Qym (dep:=dep) (N:=N+(p.path 9 i).length) (p1:=p1) (L:=(p.path 9 i).length) (L0:=p.path 9 i) (i:=i) (sl:=sl) ag hL ae) (p.path 9 i) p1
    ⟨Yd.start (by simpa using E.go.ok) (Va.same E.go.same h1),fun j B=>B,fun j B=>(hv.ent j).off (E.off j B),Vd.refl _,fun j h=>h,fun j _=>rfl,fun _ h=>absurd aj h,fun hs j B ha=>by
     rw[E.aw j]at ha;obtain⟨L',d,k1,k2,k3,k4⟩:=hv.low j ha;obtain⟨U,z,_,J,_⟩:=E.go.same.get k1;exact⟨L',U,fun e=>B (by rw[←e];exact k3),z,J.trans k2,by rw[Ot E.go.same];exact k3,by rw[E.aw];exact k4⟩⟩
   generalize(p.path 9 i).foldl (Qe.rest1 sl) p1=p2 at Z hw;rw[hw];have hs:Z5 p p2:=E.go.same.trans Z.go.same;have hm:Vd p p2:=E.memb.trans Z.memb;have I:sl=false→∀j,p2.awake j=p.awake j:=fun h j=>(Z.same j (.inr h)).trans (E.aw j);have af:more=true∨p.awake i=false→sl=false:=fun h=>by rw[K,E.aw];rcases h with h|h<;>simp[h]
   refine⟨⟨fun j=>Z.ent j (by simp),hv.memb.same hs hm,fun k d q hd hk hq=>?_,fun j B=>?_⟩,hm,fun j B=>by rw[←E.aw];exact Z.less j B,fun j B=>?_,fun ai _=>?_⟩;·obtain⟨U,z,e1,_⟩:=hs.back hd;obtain⟨q',aa,_,J,_⟩:=hs.back hq;rw[←J];exact hv.inn k U q' z hk (by rw[e1];exact aa)
   ·cases u:sl with
    |true=> obtain⟨L',d,k1,k2,k3,k4,k5⟩:=Z.low u j (by simp) B;exact⟨L',d,k2,k3,k4,k5⟩
    |false=> rw[I u j]at B;obtain⟨L',d,k1,k2,k3,k4⟩:=hv.low j B;obtain⟨U,z,_,J,_⟩:=hs.get k1;exact⟨L',U,z,J.trans k2,by rw[Ot hs];exact k3,by rw[I u];exact k4⟩
   ·rcases B with B|B;·exact(Z.same j (.inl B)).trans (E.aw j)
    ·exact I (af B) j
   ·cases u:sl with
    |true=>exact Z.off u (by simp)
    |false=> rw[I u];rw[ai,E.aw]at K;rw[u]at K;simpa using K.symm
end
end Go.Proofs.YtnnhmpehkbihnaaGreat
