/- A part of the proof: no condition. -/
import Derived.Test.YtnnhmpehkbihnaaGreatPs19
namespace Go.Proofs.YtnnhmpehkbihnaaGreat
set_option linter.unusedVariables false
set_option maxRecDepth 100000
set_option maxHeartbeats 4000000
open Go.RowKit
open Go.Proofs.Tryz
theorem Qm.aE{h:Qm}{i:Int}{c:Vm}(hc:h.at i=some c):c∈h∧c.sp.id=i:=by unfold Qm.at at hc;exact⟨List.mem_of_find?_eq_some hc,by simpa using List.find?_some hc⟩
theorem Qm.drop_eq{h:Qm}{i:Int}{c:Vm}(hc:h.at i=some c)(d:h.aM i=[]):h.drop i=h.filter fun x=>!decide (x.sp.id=i):=by
 have e:h.aP i=0:=by unfold Qm.aP;rw[hc];simp[d]
 unfold Qm.drop;rw[if_pos e]
theorem Qj7(l:List Vm)(i:Int):Vu i (Us l)=Us (l.filter fun x=>!decide (x.sp.id=i)):=by unfold Vu Us;rw[List.filter_map];congr 1
theorem Ij{h:Qm}{i k:Int}{c:Vm}(hn:(h.map Vm.id).Nodup)(hc:h.at i=some c)(R:k≠c.sp.par):Qm.aM (h.filter fun x=>!decide (x.sp.id=i)) k=h.aM k:=by
 rw[Ph];refine List.filter_eq_self.2 fun y V=>?_;obtain⟨x,U,rfl,d⟩:=Sx V;obtain⟨E,z⟩:=Qm.aE hc;by_cases e:x.sp.id=i
 ·have I:x=c:=by
   have:∀(l:List Vm),(l.map Vm.id).Nodup→x∈l→c∈l→x=c:=by
    intro l;induction l with
    |nil=>intro _ h;cases h
    |cons a l Z=>
     intro B K J;simp only[List.map_cons,List.nodup_cons]at B;rcases Zu.1 K with u|u
     ·rcases Zu.1 J with q|q;·rw[u,q]
      ·exact absurd (Z3.2 ⟨c,q,show c.sp.id=a.sp.id by rw[←u,z,e]⟩) B.1
     ·rcases Zu.1 J with q|q;·exact absurd (Z3.2 ⟨x,u,show x.sp.id=a.sp.id by rw[←q,z,e]⟩) B.1
      ·exact Z B.2 u q
   exact this h hn U E
  rw[I]at d;exact absurd d.symm R
 ·simp[e]
section
variable{w w':World}{F:Fp}{b:Nat}{h:Qm}
theorem Q9.opn(hh:Q9 w F b h):∃ma mu l vs G,l.Perm h∧(l.map Vm.id).Nodup∧Qh w b #[.map (some ma),.map (some mu)] 92∧Xq w ma (Us l)∧Y7 w G mu vs h∧F b∧F ma∧(∀k,G k→F k)∧¬G b∧¬G ma∧b≠ma∧Bd F w∧
  ∀w' l' u h',l'.Perm h'→Xq w' ma (Us l')→Y7 w' (Qn G w w') mu u h'→Qc (fun k=>k=ma∨G k) w w'→Q9 w' (Qn F w w') b h'∧Qc F w w':=by
 obtain⟨ma,mu,l,vs,hp,U,G0,R0,B,⟨ab,G1,R1,E,⟨ac,z,R2,g2,_,_,s4,_⟩,d1,s2,s3⟩,d0,s0,s1⟩:=hh;have nb:b≠ma:=fun e=>d0 b B.2.1 (e▸s2 _ E.2.1);have Z:∀k,z k→F k:=fun k c=>s1 _ (s3 _ (s4 _ c));have nG:¬z b:=fun c=>d0 b B.2.1 (s3 _ (s4 _ c));have nA:¬z ma:=fun c=>d1 ma E.2.1 (s4 _ c);have fb:=s0 _ B.2.1;have R:=s1 _ (s2 _ E.2.1);refine⟨ma,mu,l,vs,z,hp,by have:=E.1.nodup;rwa[Ma]at this,B.1,E.1,g2,fb,R,Z,nG,nA,nb,U,fun w' l' u h' aa d q J=>?_⟩;have K:Qc F w w':=J.sub fun k c=>c.elim (fun e=>e▸R) (Z k);have ae:=U _ fb;have af:=U _ R;have V:Bd (Qn F w w') w':=U.ext K;have I:Qh w' b #[.map (some ma),.map (some mu)] 92:=J.blk B.1 (fun c=>c.elim nb nG);refine⟨⟨ma,mu,l',u,aa,?_⟩,K⟩;refine Q7 (G:=fun k=>k=b) (H:=fun k=>k=ma∨Qn z w w' k) ⟨I,rfl,fun k e=>e▸I.lt⟩ ?_ ?_ (fun k e=>.inl (e▸fb)) ?_ V
 ·refine Q7 (G:=fun k=>k=ma) (H:=Qn z w w') ⟨d,rfl,fun k e=>e▸d.lt⟩ (Y6 q q.bd) ?_ (fun k e=>.inl e) (fun k c=>.inr c) ?_
  ·rintro k rfl c;rcases c with c|c;·exact nA c
   ·omega
  ·rintro k(e|c);·exact e▸d.lt
   ·exact q.bd k c
 ·rintro k rfl(e|c|c);·exact nb e
  ·exact nG c
  ·omega
 ·rintro k(e|c);·exact .inl (e▸R)
  ·exact Qn.mono Z k c
end
section
variable{w:World}{v:Value}{l:List Int}
theorem Wo(l:List Int):Jm W7 l=l.map fun x=>Value.int .i64 x:=by
 induction l with
 |nil=>rfl
 |cons x l c=> rw[V8,c];rfl
theorem Q6.opn(h:Q6 w v l)(hl:l≠[]):∃g cap c,v=.slice (some ⟨g,0,none⟩) l.length cap∧Qh w g c 3∧c.size=cap∧(∀(k:Nat)(y:Int),l[k]? =some y→c[k]? =some (.int .i64 y))∧l.length≤cap∧cap≤maxLen:=by
 obtain⟨h0,h1|⟨g,cap,c,rfl,I,z,hn,q,E,d⟩⟩:=h;·exact absurd (List.eq_nil_of_length_eq_zero h1.2) hl
 ·refine⟨g,cap,c,rfl,z,by omega,fun k y u=>?_,hn,q⟩;have B:k<l.length:=(Z1.1 u).1;have e:(c.toList.take (l.length*1))[k]? =(l.map fun x=>Value.int .i64 x)[k]? :=by rw[d,Wo]
  rw[List.getElem?_take_of_lt (by omega),List.getElem?_map,u]at e;simpa using e
end
section
variable{f:Jc}
theorem Cc{m:Jh}{j:Int}(h:j≠m.id):(f.set m).at j=f.at j:=by
 obtain⟨all,mark⟩:=f;unfold Jc.at Jc.set;dsimp only;induction all with
 |nil=>rfl
 |cons z l k=>
  rw[List.map_cons,List.find?_cons,List.find?_cons];by_cases c:z.id=m.id;·rw[if_pos c];have h1:¬m.id=j:=fun e=>h e.symm;have q:¬z.id=j:=fun e=>h (by rw[←e,c]);simp only[h1,q,decide_false];exact k
  ·rw[if_neg c];by_cases d:z.id=j;·simp[d]
   ·simp only[d,decide_false];exact k
theorem Ip{m y:Jh}(h:f.at m.id=some y):(f.set m).at m.id=some m:=by
 obtain⟨all,mark⟩:=f;unfold Jc.at Jc.set at*;dsimp only at*;induction all with
 |nil=>cases h
 |cons z l d=>
  rw[List.map_cons,List.find?_cons];rw[List.find?_cons]at h;by_cases c:z.id=m.id;·simp[c]
  ·simp only[c,decide_false,if_false]at h⊢;exact d h
theorem T5{m y:Jh}(h:f.at m.id=some y)(j:Int):(f.set m).at j=if j=m.id then some m else f.at j:=by
 split;·rename_i e;rw[e];exact Ip h
 ·rename_i e;exact Cc e
theorem Fu{m y:Jh}{v:Nat}(h:f.at m.id=some y)(j:Int):(f.made m v).at j=if j=m.id then some {m with v:=v}else f.at j:=
 T5 (m:={m with v:=v}) h j
theorem Qes(i j:Int):(f.wake i).at j=if j=i then(f.at i).map (fun m=>if m.aL then m else{m with run:=m.run.start (f.start m) m.total,aL:=true,v:=f.start m})else f.at j:=by
 unfold Jc.wake;cases h:f.at i with
 |none=>
  dsimp only;split;·rename_i e;rw[e,h];rfl
  ·rfl
 |some m=>
  have hi:=(Jc.aE h).2;subst hi;dsimp only;by_cases ha:m.aL=true
  ·rw[if_pos ha];split;·rename_i e;rw[e,h];simp[ha]
   ·rfl
  ·rw[if_neg ha,Fu (m:={m with run:=m.run.start (f.start m) m.total,aL:=true}) (y:=m) h];dsimp only;split;·simp[ha]
   ·rfl
theorem M6(i j:Int):(f.sleep i).at j=if j=i then(f.at i).map (fun m=>{m with aL:=false})else f.at j:=by
 unfold Jc.sleep;cases h:f.at i with
 |none=>
  dsimp only;split;·rename_i e;rw[e,h];rfl
  ·rfl
 |some m=>
  have hi:=(Jc.aE h).2;subst hi;dsimp only;rw[T5 (m:={m with aL:=false}) (y:=m) h];dsimp only;split;·rfl
  ·rfl
theorem Qeq(i:Int)(g:Nat)(j:Int):(f.gain i g).at j=if j=i then(f.at i).map (fun m=>if m.aL then{m with total:=m.total+min g (Xw-m.total),v:=m.run.reach (m.total+min g (Xw-m.total))}else{m with total:=m.total+min g (Xw-m.total)})else f.at j:=by
 unfold Jc.gain;cases h:f.at i with
 |none=>
  dsimp only;split;·rename_i e;rw[e,h];rfl
  ·rfl
 |some m=>
  have hi:=(Jc.aE h).2;subst hi;dsimp only;by_cases ha:m.aL=true
  ·rw[if_pos ha,Fu (m:={m with total:=m.total+min g (Xw-m.total)}) (y:=m) h];dsimp only;split;·simp[ha]
   ·rfl
  ·rw[if_neg ha,T5 (m:={m with total:=m.total+min g (Xw-m.total)}) (y:=m) h];dsimp only;split;·simp[ha]
   ·rfl
theorem Qq2(i:Int)(c:Jy)(j:Int):(f.add i c).at j=if j=i∧f.at i=none then some ⟨i,0,0,.new c,false⟩else f.at j:=by
 unfold Jc.add;cases h:f.at i with
 |some m=>simp
 |none=>
  obtain⟨all,mark⟩:=f;unfold Jc.at at*;dsimp only at*;rw[List.find?_append];by_cases e:j=i;·rw[e,h];simp
  ·have:¬i=j:=fun d=>e d.symm;simp[e,this]
theorem M4(i j:Int):(f.drop i).at j=if j=i then none else f.at j:=by
 obtain⟨all,mark⟩:=f;unfold Jc.at Jc.drop;dsimp only;induction all with
 |nil=>simp
 |cons z l k=>
  rw[List.filter_cons];by_cases c:z.id=i
  ·simp only[c,decide_true,Bool.not_true,Bool.false_eq_true,if_false];rw[k,List.find?_cons];by_cases e:j=i;·rw[if_pos e,if_pos e]
   ·have:¬z.id=j:=fun d=>e (by rw[←d,c]);rw[if_neg e,if_neg e];simp only[this,decide_false]
  ·simp only[c,decide_false,Bool.not_false,if_true];rw[List.find?_cons,List.find?_cons];by_cases e:z.id=j;·have:¬j=i:=fun d=>c (by rw[e,d]);simp only[e,decide_true];rw[if_neg this]
   ·simp only[e,decide_false];exact k
theorem Que{i j:Int}:(f.wake i).up j=if j=i then(f.at i).isSome else f.up j:=by
 unfold Jc.up;rw[Qes];split
 ·cases f.at i with
  |none=>rfl
  |some m=>by_cases h:m.aL=true<;>simp[h]
 ·rfl
theorem Qsz{i j:Int}:(f.sleep i).up j=if j=i then false else f.up j:=by
 unfold Jc.up;rw[M6];split;·cases f.at i<;>rfl
 ·rfl
theorem Qud{i j:Int}{g:Nat}:(f.gain i g).up j=f.up j:=by
 unfold Jc.up;rw[Qeq];split
 ·rename_i e;rw[e];cases f.at i with
  |none=>rfl
  |some m=>by_cases h:m.aL=true<;>simp[h]
 ·rfl
theorem Qqf{i j:Int}:((f.wake i).at j).isSome=(f.at j).isSome:=by
 rw[Qes];split;·rename_i e;rw[e];simp
 ·rfl
theorem Qmk{i j:Int}:((f.sleep i).at j).isSome=(f.at j).isSome:=by
 rw[M6];split;·rename_i e;rw[e];simp
 ·rfl
theorem Qqe{i j:Int}{g:Nat}:((f.gain i g).at j).isSome=(f.at j).isSome:=by
 rw[Qeq];split;·rename_i e;rw[e];simp
 ·rfl
end
section
variable{p p' p'':Qe}{N:Nat}{dep:Int→Nat}
structure Bo(p p':Qe)(j:Int):Prop where
 up:Jv p p'
 mem:∀k,(p'.at k).map (fun c=>(c.mem.up j,c.mem.v j))=(p.at k).map fun c=>(c.mem.up j,c.mem.v j)
 fit:(p'.at j).map Qx.fit=(p.at j).map Qx.fit
 tree:∀k q',p'.at k=some q'→∃q,p.at k=some q∧∀a b,(a,j,b)∈q'.tree↔(a,j,b)∈q.tree
theorem Bo.refl(p:Qe)(j:Int):Bo p p j:=⟨Jv.refl _,fun _=>rfl,rfl,fun k c h=>⟨c,h,fun _ _=>Iff.rfl⟩⟩
theorem Bo.trans{j:Int}(h:Bo p p' j)(h':Bo p' p'' j):Bo p p'' j:=⟨h.up.trans h'.up,fun k=>(h'.mem k).trans (h.mem k),h'.fit.trans h.fit,fun k c B=>by
 obtain⟨E,h1,d⟩:=h'.tree k c B;obtain⟨q,u,z⟩:=h.tree k E h1;exact⟨q,u,fun a b=>(d a b).trans (z a b)⟩⟩
theorem Jv.back(h:Jv p p'){i:Int}{c:Qx}(hc:p'.at i=some c):∃c',p.at i=some c'∧c'.par=c.par∧c'.leaf=c.leaf∧c'.aJ=c.aJ:=by have h':Jv p' p:=fun j=>(h j).symm;exact h'.get hc
theorem Jv.none(h:Jv p p'){i:Int}(hc:p.at i=none):p'.at i=none:=by have:=h i;rw[hc]at this;simpa using this
theorem Bo.aL{j:Int}(h:Bo p p' j):p'.aL j=p.aL j:=by
 unfold Qe.aL;cases hc:p.at j with
 |none=>rw[h.up.none hc]
 |some c=>
  obtain⟨c',d,e,_⟩:=h.up.get hc;rw[d];dsimp only;rw[e];have:=h.mem c.par;cases k:p.at c.par with
  |none=>rw[h.up.none k]
  |some q=> rw[k]at this;obtain⟨z,u,_⟩:=h.up.get k;rw[u]at this⊢;simp only[Zn,Option.some.injEq,Prod.mk.injEq]at this;simp[this.1]
theorem Bo.v{j:Int}(h:Bo p p' j):p'.v j=p.v j:=by
 unfold Qe.v;cases hc:p.at j with
 |none=>rw[h.up.none hc]
 |some c=>
  obtain⟨c',d,e,_⟩:=h.up.get hc;rw[d];dsimp only;rw[e];have:=h.mem c.par;cases k:p.at c.par with
  |none=>rw[h.up.none k]
  |some q=> rw[k]at this;obtain⟨z,u,_⟩:=h.up.get k;rw[u]at this⊢;simp only[Zn,Option.some.injEq,Prod.mk.injEq]at this;simp[this.2]
def Mw(p:Qe)(i:Int):Prop:=∀k q,p.at k=some q→∀a b,((a,i,b)∈q.tree↔0<i∧p.aL i=true∧a=p.v i∧∃c,p.at i=some c∧c.par=k∧b=c.fit)
theorem Mw.off{j:Int}(h:Mw p j)(u:Bo p p' j):Mw p' j:=by
 intro k I B a b;obtain⟨q,E,ht⟩:=u.tree k I B;rw[ht,h k q E,u.aL,u.v];have hf:=u.fit;refine and_congr_right fun _=>and_congr_right fun _=>and_congr_right fun _=>⟨fun⟨c,hc,h1,z⟩=>?_,fun⟨c',d,h1,z⟩=>?_⟩;·obtain⟨c',d,e,_⟩:=u.up.get hc;rw[hc,d]at hf;simp only[Zn,Option.some.injEq]at hf;exact⟨c',d,e.trans h1,z.trans hf.symm⟩
 ·obtain⟨c,hc,e,_⟩:=u.up.back d;rw[hc,d]at hf;simp only[Zn,Option.some.injEq]at hf;exact⟨c,hc,e.trans h1,z.trans hf⟩
theorem Bo.set{x y:Qx}{j:Int}(d:p.at x.id=some y)(u:x.par=y.par)(hl:x.leaf=y.leaf)(hs:x.aJ=y.aJ)(q:x.mem.up j=y.mem.up j∧x.mem.v j=y.mem.v j)(hf:j=x.id→x.fit=y.fit)
  (ht:∀a b,(a,j,b)∈x.tree↔(a,j,b)∈y.tree):Bo p (p.set x) j:=by
 refine⟨Jv.set d u hl hs,fun k=>?_,?_,fun k z c=>?_⟩
 ·rw[V0 d];split;·rename_i e;rw[e,d];simp[q.1,q.2]
  ·rfl
 ·rw[V0 d];split;·rename_i e;rw[e,d];simp[hf e]
  ·rfl
 ·rw[V0 d]at c;split at c;·rename_i e;obtain rfl:=Zs c;exact⟨y,by rw[e];exact d,ht⟩
  ·exact⟨z,c,fun _ _=>Iff.rfl⟩
def Hm(p p':Qe):Prop:=∀k j,(p'.at k).map (fun c=>((c.mem.at j).isSome,c.aM))=(p.at k).map fun c=>((c.mem.at j).isSome,c.aM)
theorem Hm.refl(p:Qe):Hm p p:=fun _ _=>rfl
theorem Hm.trans(h:Hm p p')(h':Hm p' p''):Hm p p'':=fun k j=>(h' k j).trans (h k j)
theorem Hm.set{x y:Qx}(c:p.at x.id=some y)(d:∀j,(x.mem.at j).isSome=(y.mem.at j).isSome)(q:x.aM=y.aM):Hm p (p.set x):=fun k j=>by
 rw[V0 c];split;·rename_i e;rw[e,c];simp[d,q]
 ·rfl
theorem Ab{i:Int}{c q:Qx}{f:Jc→Jc}(hc:p.at i=some c)(d:p.at c.par=some q){j:Int}(u:(f q.mem).up j=q.mem.up j∧(f q.mem).v j=q.mem.v j):Bo p (p.fam i f) j:=by rw[Py hc d];have k:=(Qe.aE d).2;exact Bo.set (x:={q with mem:=f q.mem}) (y:=q) (show p.at q.id=_ by rw[k];exact d) rfl rfl rfl u (fun _=>rfl) (fun _ _=>Iff.rfl)
theorem Qap{i:Int}{c q:Qx}{f:Jc→Jc}(hc:p.at i=some c)(d:p.at c.par=some q)(u:∀j,((f q.mem).at j).isSome=(q.mem.at j).isSome):Hm p (p.fam i f):=by rw[Py hc d];have k:=(Qe.aE d).2;exact Hm.set (x:={q with mem:=f q.mem}) (y:=q) (show p.at q.id=_ by rw[k];exact d) u rfl
theorem Be{f g:Jc}{j:Int}(h:f.at j=g.at j):f.up j=g.up j∧f.v j=g.v j:=by unfold Jc.up Jc.v;rw[h];exact⟨rfl,rfl⟩
theorem Pt{i:Int}{c q:Qx}{f:Jc→Jc}(hc:p.at i=some c)(k:p.at c.par=some q)(j:Int):(p.fam i f).at j=if j=c.par then some {q with mem:=f q.mem}else p.at j:=by rw[Py hc k];have d:=(Qe.aE k).2;have:=V0 (p:=p) (x:={q with mem:=f q.mem}) (y:=q) (show p.at q.id=_ by rw[d];exact k) j;rw[this];show(if j=q.id then _ else _)=_;rw[d]
theorem Qmq{now:Nat}{i:Int}{c:Qx}(hc:p.at i=some c):p.up1 now i=if p.aL i||!c.aJ then p else(p.fam i fun f=>f.wake i).set {c with limit:=c.limit.wake now c.total}:=by unfold Qe.up1;rw[hc]
theorem Qni(z:Qs dep N p){now:Nat}{i:Int}{c q:Qx}(hc:p.at i=some c)(hi:0<i)(B:p.at c.par=some q){j:Int}(I:j≠i):Bo p (p.up1 now i) j:=by
 rw[Qmq hc];split;·exact Bo.refl _ _
 ·obtain⟨u,E⟩:=z.pid hc hi B;have h1:Bo p (p.fam i fun f=>f.wake i) j:=Ab hc B (Be (by rw[Qes,if_neg I]));have d:=(Qe.aE hc).2;have k:(p.fam i fun f=>f.wake i).at c.id=some c:=by rw[d,Pt hc B,if_neg (fun e=>u (by rw[E,←e]))];exact hc
  exact h1.trans (Bo.set (x:={c with limit:=c.limit.wake now c.total}) (y:=c) k rfl rfl rfl ⟨rfl,rfl⟩ (fun e=>absurd (e.trans d) I) (fun _ _=>Iff.rfl))
theorem Qrz(z:Qs dep N p){now:Nat}{i:Int}{c q:Qx}(hc:p.at i=some c)(hi:0<i)(B:p.at c.par=some q):Hm p (p.up1 now i):=by
 rw[Qmq hc];split;·exact Hm.refl _
 ·obtain⟨u,E⟩:=z.pid hc hi B;have k:=(Qe.aE hc).2;have d:(p.fam i fun f=>f.wake i).at c.id=some c:=by rw[k,Pt hc B,if_neg (fun e=>u (by rw[E,←e]))];exact hc
  exact(Qap hc B (fun j=>Qqf)).trans (Hm.set (x:={c with limit:=c.limit.wake now c.total}) (y:=c) d (fun _=>rfl) rfl)
def Bt(p:Qe):Prop:=∀k q,p.at k=some q→∀j,(q.mem.at j).isSome=true↔∃c,p.at j=some c∧0<j∧c.par=k∧c.aJ=true
theorem Bt.same(h:Bt p)(hs:Jv p p')(J:Hm p p'):Bt p':=by
 intro k K u j;obtain⟨q,I,_⟩:=hs.back u;have h1:=J k j;rw[I,u]at h1;simp only[Zn,Option.some.injEq,Prod.mk.injEq]at h1;rw[h1.1,h k q I j];refine⟨fun⟨c,hc,h1,B,E⟩=>?_,fun⟨c,hc,h1,B,E⟩=>?_⟩;·obtain⟨c',d,e1,_,z⟩:=hs.get hc;exact⟨c',d,h1,e1.trans B,z.trans E⟩
 ·obtain⟨c',d,e1,_,z⟩:=hs.back hc;exact⟨c',d,h1,e1.trans B,z.trans E⟩
theorem Qqn(E:Qs dep N p)(K:Bt p){now:Nat}{i:Int}{c q:Qx}(hc:p.at i=some c)(hi:0<i)(u:p.at c.par=some q):(p.up1 now i).aL i=(p.aL i||c.aJ):=by
 rw[Qmq hc];by_cases ha:p.aL i=true;·rw[if_pos (by simp[ha]),ha];rfl
 ·have ha:p.aL i=false:=by simpa using ha
  by_cases hs:c.aJ=true
  ·rw[if_neg (by simp[ha,hs]),ha];obtain⟨B,I⟩:=E.pid hc hi u;have d:=(Qe.aE hc).2;have k:c.par≠i:=fun e=>B (by rw[I,e]);have z:(p.fam i fun f=>f.wake i).at c.id=some c:=by rw[d,Pt hc u,if_neg (Ne.symm k)];exact hc
   have h1:=V0 (x:={c with limit:=c.limit.wake now c.total}) (y:=c) z;have e1:((p.fam i fun f=>f.wake i).set {c with limit:=c.limit.wake now c.total}).at i=some {c with limit:=c.limit.wake now c.total}:=by rw[h1,if_pos d.symm]
   have J:((p.fam i fun f=>f.wake i).set {c with limit:=c.limit.wake now c.total}).at c.par=some {q with mem:=q.mem.wake i}:=by rw[h1,if_neg (fun e=>k (e.trans d)),Pt hc u,if_pos rfl]
   rw[Qe.awake_eq e1 (q:={q with mem:=q.mem.wake i}) J hi];show(q.mem.wake i).up i=_;rw[Que,if_pos rfl];have:=(K c.par q u i).2 ⟨c,hc,hi,rfl,hs⟩;rw[this,hs];rfl
  ·have hs:c.aJ=false:=by simpa using hs
   rw[if_pos (by simp[hs]),ha,hs];rfl
theorem Qaz{i:Int}{c q:Qx}(hc:p.at i=some c)(u:p.at c.par=some q){j:Int}(z:j≠i)(k:j≠c.par):Bo p (p.note i) j:=by
 rw[St hc u];have d:=(Qe.aE u).2;refine Bo.set (y:=q) (show p.at q.id=_ by rw[d];exact u) rfl rfl rfl ⟨rfl,rfl⟩ (fun e=>absurd (e.trans d) k) fun a b=>?_;dsimp only;split;·unfold Vf;rw[Lb];unfold Xa;rw[List.mem_filter];simp only[Prod.mk.injEq,z,false_and,and_false,false_or,Bool.not_eq_true',decide_eq_false_iff_not,not_false_eq_true,and_true]
 ·unfold Xa;rw[List.mem_filter];simp only[z,Bool.not_eq_true',decide_eq_false_iff_not,not_false_eq_true,and_true]
theorem Cr{i:Int}{c q:Qx}(hc:p.at i=some c)(d:p.at c.par=some q):Hm p (p.note i):=by rw[St hc d];have k:=(Qe.aE d).2;exact Hm.set (y:=q) (show p.at q.id=_ by rw[k];exact d) (fun _=>rfl) rfl
theorem Qr7{i:Int}{c q:Qx}(hc:p.at i=some c)(u:p.at c.par=some q)(j:Int):∀k,((p.note i).at k).map (fun c=>(c.mem.up j,c.mem.v j))=(p.at k).map fun c=>(c.mem.up j,c.mem.v j):=fun k=>by
 rw[St hc u];have d:=(Qe.aE u).2;rw[V0 (x:={q with tree:=if p.aL i then Vf i (p.v i) c.fit q.tree else Xa i q.tree}) (y:=q) (show p.at q.id=_ by rw[d];exact u)];show Option.map _ (if k=q.id then _ else _)=_;by_cases e:k=q.id;·rw[if_pos e,e,d,u];rfl
 ·rw[if_neg e]
theorem Qgk(hs:Jv p p'){j:Int}(B:∀k,(p'.at k).map (fun c=>(c.mem.up j,c.mem.v j))=(p.at k).map fun c=>(c.mem.up j,c.mem.v j)):p'.aL j=p.aL j∧p'.v j=p.v j:=by
 unfold Qe.aL Qe.v;cases hc:p.at j with
 |none=>rw[hs.none hc];exact⟨rfl,rfl⟩
 |some c=>
  obtain⟨c',d,e,_⟩:=hs.get hc;rw[d];dsimp only;rw[e];have:=B c.par;cases u:p.at c.par with
  |none=>rw[hs.none u];exact⟨rfl,rfl⟩
  |some q=> rw[u]at this;obtain⟨E,z,_⟩:=hs.get u;rw[z]at this⊢;simp only[Zn,Option.some.injEq,Prod.mk.injEq]at this;simp[this.1,this.2]
theorem E9(d:Qs dep N p){i:Int}{c q:Qx}(hc:p.at i=some c)(hi:0<i)(k:p.at c.par=some q)(j:Int):(p.note i).aL j=p.aL j∧(p.note i).v j=p.v j:=Qgk (d.note hc hi k).2 (Qr7 hc k j)
theorem Wg(B:Qs dep N p){i:Int}{c q:Qx}(hc:p.at i=some c)(hi:0<i)(R:p.at c.par=some q):Mw (p.note i) i:=by
 obtain⟨V,I⟩:=B.pid hc hi R;obtain⟨ha,hv⟩:=E9 B hc hi R i;intro k q' u a b;rw[ha,hv];have J:∀j,(p.note i).at j=if j=c.par then some {q with tree:=if p.aL i then Vf i (p.v i) c.fit q.tree else Xa i q.tree}else p.at j:=fun j=>by rw[St hc R,V0 (x:={q with tree:=if p.aL i then Vf i (p.v i) c.fit q.tree else Xa i q.tree}) (y:=q) (show p.at q.id=_ by rw[I];exact R)];show(if j=q.id then _ else _)=_;rw[I]
 have Z:i≠c.par:=fun e=>V (by rw[I,e]);rw[J,if_neg Z];rw[J]at u;by_cases K:k=c.par
 ·rw[if_pos K]at u;obtain rfl:=Zs u;dsimp only;by_cases z:p.aL i=true;·rw[if_pos z];unfold Vf;rw[Lb];unfold Xa;rw[List.mem_filter];simp only[Prod.mk.injEq,true_and,decide_true,Bool.not_true,Bool.false_eq_true,and_false,or_false,hi,z,hc,Option.some.injEq,exists_eq_left'];exact⟨fun⟨h1,U⟩=>⟨h1,K.symm,U⟩,fun⟨h1,_,U⟩=>⟨h1,U⟩⟩
  ·rw[if_neg z];unfold Xa;rw[List.mem_filter];simp[z]
 ·rw[if_neg K]at u;refine⟨fun hm=>?_,fun⟨_,_,_,c',d,E,_⟩=>?_⟩;·obtain⟨ab,aa⟩:=Qe.aE u;obtain⟨c',d,E,_⟩:=B.tr q' ab (a,i,b) hm;dsimp only at d;rw[hc]at d;obtain rfl:=Zs d;exact absurd (aa.symm.trans E.symm) K
  ·rw[hc]at d;obtain rfl:=Zs d;exact absurd E.symm K
theorem Wq{g:Nat}{i:Int}{c:Qx}(hc:p.at i=some c):p.gain1 g i=(p.set {c with total:=c.total+min g (Xw-c.total)}).fam i fun f=>f.gain i g:=by unfold Qe.gain1;rw[hc]
theorem Ce(z:Qs dep N p){g:Nat}{i:Int}{c q:Qx}(hc:p.at i=some c)(hi:0<i)(E:p.at c.par=some q):
  p.at c.id=some c∧(p.set {c with total:=c.total+min g (Xw-c.total)}).at i=some {c with total:=c.total+min g (Xw-c.total)}∧(p.set {c with total:=c.total+min g (Xw-c.total)}).at c.par=some q:=by
 obtain⟨u,B⟩:=z.pid hc hi E;have d:=(Qe.aE hc).2;have k:p.at c.id=some c:=by rw[d];exact hc
 have h1:=V0 (x:={c with total:=c.total+min g (Xw-c.total)}) (y:=c) k;exact⟨k,by rw[h1,if_pos d.symm],by rw[h1,if_neg (fun e=>u (by rw[B,e];exact d))];exact E⟩
theorem Qd0(u:Qs dep N p){g:Nat}{i:Int}{c q:Qx}(hc:p.at i=some c)(hi:0<i)(E:p.at c.par=some q){j:Int}(z:j≠i):Bo p (p.gain1 g i) j:=by
 rw[Wq hc];obtain⟨d,h1,B⟩:=Ce (g:=g) u hc hi E;have k:=(Qe.aE hc).2;exact(Bo.set (x:={c with total:=c.total+min g (Xw-c.total)}) (y:=c) d rfl rfl rfl ⟨rfl,rfl⟩ (fun e=>absurd (e.trans k) z) (fun _ _=>Iff.rfl)).trans
  (Ab h1 B (Be (by rw[Qeq,if_neg z])))
theorem Qk4(k:Qs dep N p){g:Nat}{i:Int}{c q:Qx}(hc:p.at i=some c)(hi:0<i)(z:p.at c.par=some q):Hm p (p.gain1 g i):=by rw[Wq hc];obtain⟨d,h1,u⟩:=Ce (g:=g) k hc hi z;exact(Hm.set (x:={c with total:=c.total+min g (Xw-c.total)}) (y:=c) d (fun _=>rfl) rfl).trans (Qap h1 u (fun j=>Qqe))
theorem Qg5(d:Qs dep N p){g:Nat}{i:Int}{c q:Qx}(hc:p.at i=some c)(hi:0<i)(k:p.at c.par=some q)(j:Int):(p.gain1 g i).aL j=p.aL j:=by
 by_cases I:j=i
 ·obtain⟨u,B⟩:=d.pid hc hi k;obtain⟨K,h1,E⟩:=Ce (g:=g) d hc hi k;have z:i≠c.par:=fun e=>u (by rw[B,e]);rw[Wq hc,I];have e1:((p.set {c with total:=c.total+min g (Xw-c.total)}).fam i fun f=>f.gain i g).at i=some {c with total:=c.total+min g (Xw-c.total)}:=by rw[Pt h1 E,if_neg z];exact h1
  have J:((p.set {c with total:=c.total+min g (Xw-c.total)}).fam i fun f=>f.gain i g).at c.par=some {q with mem:=q.mem.gain i g}:=by rw[Pt h1 E,if_pos rfl]
  rw[Qe.awake_eq e1 (q:={q with mem:=q.mem.gain i g}) J hi,Qe.awake_eq hc k hi];exact Qud
 ·exact(Qd0 d hc hi k I).aL
theorem Nu{sl:Bool}{i:Int}{c:Qx}(hc:p.at i=some c):p.rest1 sl i=Qe.note (if sl&&(c.leaf||decide (c.tree.length=0))then p.fam i fun f=>f.sleep i else p) i:=by unfold Qe.rest1;rw[hc]
theorem Sw(k:Qs dep N p){i:Int}{c q:Qx}(hc:p.at i=some c)(hi:0<i)(z:p.at c.par=some q):
  (p.fam i fun f=>f.sleep i).at i=some c∧(p.fam i fun f=>f.sleep i).at c.par=some {q with mem:=q.mem.sleep i}:=by
 obtain⟨d,B⟩:=k.pid hc hi z;have u:i≠c.par:=fun e=>d (by rw[B,e]);exact⟨by rw[Pt hc z,if_neg u];exact hc,by rw[Pt hc z,if_pos rfl]⟩
theorem Qi8(d:Qs dep N p){i:Int}{c q:Qx}(hc:p.at i=some c)(hi:0<i)(k:p.at c.par=some q):Qs dep N (p.fam i fun f=>f.sleep i)∧Jv p (p.fam i fun f=>f.sleep i):=by obtain⟨k1,k2,_⟩:=d.fam (f:=fun f=>f.sleep i) (Zv _) hc hi k ((d.ok q (Qe.aE k).1).fam.sleep i);exact⟨k1,k2⟩
theorem Qpg(u:Qs dep N p){sl:Bool}{i:Int}{c q:Qx}(hc:p.at i=some c)(hi:0<i)(z:p.at c.par=some q){j:Int}(k:j≠i)(d:j≠c.par):Bo p (p.rest1 sl i) j:=by
 rw[Nu hc];split;·obtain⟨h1,B⟩:=Sw u hc hi z;exact(Ab hc z (Be (by rw[M6,if_neg k]))).trans (Qaz h1 B k d)
 ·exact Qaz hc z k d
theorem Qk5(d:Qs dep N p){sl:Bool}{i:Int}{c q:Qx}(hc:p.at i=some c)(hi:0<i)(k:p.at c.par=some q):Hm p (p.rest1 sl i):=by
 rw[Nu hc];split;·obtain⟨h1,u⟩:=Sw d hc hi k;exact(Qap hc k (fun j=>Qmk)).trans (Cr h1 u)
 ·exact Cr hc k
theorem Qog(d:Qs dep N p){sl:Bool}{i:Int}{c q:Qx}(hc:p.at i=some c)(hi:0<i)(k:p.at c.par=some q):Mw (p.rest1 sl i) i:=by
 rw[Nu hc];split;·obtain⟨h1,u⟩:=Sw d hc hi k;exact Wg (Qi8 d hc hi k).1 h1 hi u
 ·exact Wg d hc hi k
theorem Og(d:Qs dep N p){sl:Bool}{i:Int}{c q:Qx}(hc:p.at i=some c)(hi:0<i)(u:p.at c.par=some q)(j:Int):
  (p.rest1 sl i).aL j=if j=i∧(sl&&(c.leaf||decide (c.tree.length=0)))=true then false else p.aL j:=by
 rw[Nu hc];by_cases hs:(sl&&(c.leaf||decide (c.tree.length=0)))=true
 ·obtain⟨h1,z⟩:=Sw d hc hi u;rw[if_pos hs,(E9 (Qi8 d hc hi u).1 h1 hi z j).1];by_cases k:j=i;·rw[if_pos ⟨k,hs⟩,k,Qe.awake_eq h1 z hi];show(q.mem.sleep i).up i=_;rw[Qsz,if_pos rfl]
  ·rw[if_neg (fun h=>k h.1)];exact(Ab hc u (Be (by rw[M6,if_neg k]))).aL
 ·rw[if_neg hs,if_neg (fun h=>hs h.2),(E9 d hc hi u j).1]
end
section
variable{p p':Qe}{N:Nat}{dep:Int→Nat}
theorem Gv(h:Jv p p'):∀(n:Nat)(i:Int),p'.path n i=p.path n i
 |0,_=>rfl
 |n+1,i=>by
  rw[Qe.path,Qe.path];by_cases hi:i<1;·rw[if_pos hi,if_pos hi]
  ·rw[if_neg hi,if_neg hi];cases hc:p.at i with
   |none=>rw[h.none hc]
   |some c=> obtain⟨c',d,e,_⟩:=h.get hc;rw[d];dsimp only;rw[e,Gv h n]
theorem Mf(q:Qs dep N p):∀{l:List Int}{id:Int},Vy p (id::l)→∀k∈l,dep k<dep id
 |[],_,_,k,d=>by cases d
 |x::l,id,h,k,d=>by
  obtain⟨h1,⟨c,hc,J⟩,B⟩:=h;obtain⟨I,u⟩:=Qe.aE hc;have E:=(q.up.2 c I (by omega)).2.2.1;have z:c.par=x:=J;rw[u,z]at E;rcases Zu.1 d with rfl|d;·omega
  ·have:=Mf q B k d;omega
theorem Qa0(c:Qs dep N p){l:List Int}{id:Int}(h:Vy p (id::l)):id∉l:=fun d=>by have:=Mf c h id d;omega
theorem Sv{n:Nat}{i:Int}{c:Qx}(hc:p.at i=some c)(hi:0<i):i∈p.path (n+1) i:=by rw[Qe.path,if_neg (by omega),hc];simp
theorem Qnk(k:Qs dep N p):∀{n:Nat}{i j:Int}{c:Qx},dep i<n→j∈p.path n i→p.at j=some c→0<c.par→c.par∈p.path n i
 |0,i,j,c,hd,_,_,_=>by omega
 |n+1,i,j,c,hd,d,hc,hp=>by
  rw[Qe.path]at d⊢;by_cases hi:i<1;·rw[if_pos hi]at d;cases d
  ·rw[if_neg hi]at d⊢;cases u:p.at i with
   |none=>rw[u]at d;cases d
   |some x=>
    rw[u]at d;dsimp only at d⊢;obtain⟨J,E⟩:=Qe.aE u;have B:=(k.up.2 x J (by omega)).2.2.1;rw[E]at B;rcases Zu.1 d with rfl|d;·rw[u]at hc;obtain rfl:=Zs hc;obtain⟨q,z⟩:=k.par u (by omega);refine Zr _ ?_;have I:=(k.up.2 q (Qe.aE z).1 (by rw[(Qe.aE z).2];omega)).2.2.1;rw[(Qe.aE z).2]at I;obtain⟨m,rfl⟩:∃m,n=m+1:=⟨n-1,by omega⟩;exact Sv z hp
    ·exact Zr _ (Qnk k (by omega) d hc hp)
theorem Quz(d:Qs dep N p){i:Int}{c:Qx}(hc:p.at i=some c):dep i≤8:=by
 obtain⟨q,k⟩:=Qe.aE hc;have h0:=d.pos hc;by_cases h:i=0;·rw[h,d.up.1];omega
 ·have:=(d.up.2 c q (by omega)).2.2.2;rwa[k]at this
structure Uz(p:Qe):Prop where
 ent:∀j,Mw p j
 memb:Bt p
 inn:∀i c q,p.at i=some c→0<i→p.at c.par=some q→q.leaf=false
 low:∀j,p.aL j=true→∃L c,p.at L=some c∧c.leaf=true∧j∈p.path 9 L∧p.aL L=true
theorem Mi(k:Qs dep N p)(B:∀i c q,p.at i=some c→0<i→p.at c.par=some q→q.leaf=false):∀{n:Nat}{i j:Int},j∈p.path n i→j≠i→∃c,p.at j=some c∧c.leaf=false
 |0,i,j,d,_=>by rw[Qe.path]at d;cases d
 |n+1,i,j,d,hne=>by
  rw[Qe.path]at d;by_cases hi:i<1;·rw[if_pos hi]at d;cases d
  ·rw[if_neg hi]at d;cases u:p.at i with
   |none=>rw[u]at d;cases d
   |some x=>
    rw[u]at d;dsimp only at d;rcases Zu.1 d with rfl|d;·exact absurd rfl hne
    ·by_cases e:j=x.par;·obtain⟨q,z⟩:=k.par u (by omega);exact⟨q,by rw[e];exact z,B i x q u (by omega) z⟩
     ·exact Mi k B d e
theorem Wp{c:Qe→Int→Qe}{J:List Int→Qe→Prop}(h:∀id rest p,J (id::rest) p→J rest (c p id)):∀(l:List Int)(p:Qe),J l p→J [] (l.foldl c p)
 |[],_,hp=>hp
 |id::rest,p,hp=>Wp h rest _ (h id rest p hp)
structure J1(dep:Int→Nat)(N L:Nat)(p0:Qe)(L0:List Int)(rest:List Int)(p:Qe):Prop where
 go:Y9 dep N L p0 rest p
 sub:∀j∈rest,j∈L0
 off:∀j,j∉L0→Bo p0 p j
 memb:Hm p0 p
 aw:∀j,p.aL j=true↔p0.aL j=true∨(j∈L0∧j∉rest∧∃c,p0.at j=some c∧c.aJ=true)
theorem Qts{p0:Qe}{L:Nat}{L0:List Int}(now:Nat)(K:Bt p0)(id:Int)(rest:List Int)(p:Qe)(h:J1 dep N L p0 L0 (id::rest) p):J1 dep N L p0 L0 rest (p.up1 now id):=by
 obtain⟨hi,c,q,hc,z,U⟩:=h.go.head;have ok:=h.go.ok;obtain⟨k1,k2⟩:=ok.up1 now hc hi z;have I:id∉rest:=Qa0 ok h.go.path;have u:id∈L0:=h.sub id (by simp);refine⟨(h.go.next k1 k2).2.2.1,fun j E=>h.sub j (by simp[E]),fun j E=>(h.off j E).trans (Qni ok hc hi z (by rintro rfl;exact E u)),h.memb.trans (Qrz ok hc hi z),fun j=>?_⟩;by_cases e:j=id
 ·subst e;rw[Qqn ok (K.same h.go.same h.memb) hc hi z,Bool.or_eq_true,h.aw j];obtain⟨J,d,_,_,B⟩:=h.go.same.back hc;constructor
  ·rintro((h1|⟨_,h1,_⟩)|h1);·exact .inl h1
   ·exact absurd (List.mem_cons_self) h1
   ·exact .inr ⟨u,I,J,d,B.trans h1⟩
  ·rintro(h1|⟨_,_,R,k,h1⟩);·exact .inl (.inl h1)
   ·rw[d]at k;obtain rfl:=Zs k;exact .inr (B.symm.trans h1)
 ·rw[(Qni ok hc hi z e).aL,h.aw j];refine or_congr_right (and_congr_right fun _=>and_congr_left fun _=>?_);simp[e]
structure J2(dep:Int→Nat)(N L:Nat)(p1:Qe)(rest:List Int)(p:Qe):Prop where
 go:Y9 dep N L p1 rest p
 ent:∀j,j∉rest→Mw p j
 memb:Hm p1 p
 aw:∀j,p.aL j=p1.aL j
theorem Qgz{p:Qe}(d:Qs dep N p){j:Int}(u:¬0<j):Mw p j:=fun k q B a b=>by refine⟨fun z=>?_,fun h=>absurd h.1 u⟩;obtain⟨c,_,_,h⟩:=d.tr q (Qe.aE B).1 (a,j,b) z;exact absurd h u
theorem Qif{p:Qe}{id:Int}{rest:List Int}{c:Qx}(h:c.par=Eu rest){j:Int}(d:j∉rest)(h0:0<j):j≠c.par:=by
 rintro rfl;cases rest with
 |nil=>rw[h]at h0;exact absurd h0 (by decide)
 |cons x l=>exact d (by rw[h];exact List.mem_cons_self)
theorem Qtt{p1:Qe}{L:Nat}(id:Int)(rest:List Int)(p:Qe)(h:J2 dep N L p1 (id::rest) p):J2 dep N L p1 rest (p.note id):=by
 obtain⟨hi,c,q,hc,d,u⟩:=h.go.head;have ok:=h.go.ok;obtain⟨k1,k2⟩:=ok.note hc hi d;refine⟨(h.go.next k1 k2).2.2.1,fun j k=>?_,h.memb.trans (Cr hc d),fun j=>(E9 ok hc hi d j).1.trans (h.aw j)⟩;by_cases e:j=id;·subst e;exact Wg ok hc hi d
 ·by_cases h0:0<j;·exact(h.ent j (by simp[e,k])).off (Qaz hc d e (Qif (p:=p) (id:=id) u k h0))
  ·exact Qgz k1 h0
theorem Uz.wake(R:Qs dep N p)(V:Uz p)(i:Int)(now:Nat):
  Uz (p.wake i now)∧Hm p (p.wake i now)∧∀j,(p.wake i now).aL j=true↔p.aL j=true∨(j∈p.path 9 i∧(∃c,p.at j=some c∧c.aJ=true)∧∃c,p.at i=some c∧0<i∧c.leaf=true∧c.aJ=true):=by
 have ab:=R.wake i now;have B:p.wake i now=p→(∀c,p.at i=some c→0<i→c.leaf=true→c.aJ=true→False)→Uz (p.wake i now)∧Hm p (p.wake i now)∧∀j,(p.wake i now).aL j=true↔p.aL j=true∨(j∈p.path 9 i∧(∃c,p.at j=some c∧c.aJ=true)∧∃c,p.at i=some c∧0<i∧c.leaf=true∧c.aJ=true):=fun e u=>by rw[e];exact⟨V,Hm.refl _,fun j=>⟨.inl,fun h=>h.elim id fun⟨_,_,c,h1,h2,U,h4⟩=>(u c h1 h2 U h4).elim⟩⟩
 cases hc:p.at i with
 |none=> have:=B (by unfold Qe.wake;rw[hc]) (fun c h=>by rw[hc]at h;cases h);rw[hc]at this;exact this
 |some c=>
  rw[hc]at B;by_cases u:(decide (i<1)||!c.leaf||!c.aJ)=true
  ·refine B (by unfold Qe.wake;rw[hc];dsimp only;rw[if_pos (by simpa using u)]) fun c' h h1 h2 U=>?_;obtain rfl:=Zs h;have:¬i<1:=by omega
   simp[this,h2,U]at u
  ·have hw:p.wake i now=(p.path 9 i).foldl Qe.note ((p.path 9 i).foldl (Qe.up1 now) p):=by unfold Qe.wake;rw[hc];dsimp only;rw[if_neg (by simpa using u)]
   have J:0<i∧c.leaf=true∧c.aJ=true:=by simp only[Bool.or_eq_true,decide_eq_true_eq,Bool.not_eq_true',not_or,Bool.not_eq_false]at u;exact⟨by omega,u.1.2,u.2⟩
   obtain⟨h1,_,U⟩:=De R hc;have K:=Wp (Qts (dep:=dep) (N:=N) (p0:=p) (L:=(p.path 9 i).length) (L0:=p.path 9 i) now V.memb) (p.path 9 i) p
    ⟨Y9.start R h1,fun j I=>I,fun j _=>Bo.refl _ _,Hm.refl _,fun j=>⟨.inl,fun h=>h.elim id fun h=>absurd h.1 h.2.1⟩⟩
   generalize(p.path 9 i).foldl (Qe.up1 now) p=p1 at K hw;have g2:=Wp (Qtt (dep:=dep) (N:=N+(p.path 9 i).length) (p1:=p1) (L:=(p.path 9 i).length)) (p.path 9 i) p1
    ⟨Y9.start (by simpa using K.go.ok) (Vy.same K.go.same h1),fun j I=>(V.ent j).off (K.off j I),Hm.refl _,fun j=>rfl⟩
   generalize(p.path 9 i).foldl Qe.note p1=p2 at g2 hw;rw[hw];have hs:Jv p p2:=K.go.same.trans g2.go.same;have hm:Hm p p2:=K.memb.trans g2.memb;have E:∀j,p2.aL j=true↔p.aL j=true∨(j∈p.path 9 i∧(∃c,p.at j=some c∧c.aJ=true)):=fun j=>by rw[g2.aw j,K.aw j];simp
   refine⟨⟨fun j=>g2.ent j (by simp),V.memb.same hs hm,fun k d q hd hk hq=>?_,fun j I=>?_⟩,hm,fun j=>?_⟩;·obtain⟨Z,z,e1,_⟩:=hs.back hd;obtain⟨q',aa,_,e2,_⟩:=hs.back hq;rw[←e2];exact V.inn k Z q' z hk (by rw[e1];exact aa)
   ·rcases(E j).1 I with I|⟨I,_⟩;·obtain⟨L,d,h1,h2,U,h4⟩:=V.low j I;obtain⟨Z,z,_,e2,_⟩:=hs.get h1;exact⟨L,Z,z,e2.trans h2,by rw[Gv hs];exact U,(E L).2 (.inl h4)⟩
    ·obtain⟨Z,z,_,e2,_⟩:=hs.get hc;exact⟨i,Z,z,e2.trans J.2.1,by rw[Gv hs];exact I,(E i).2 (.inr ⟨Sv hc J.1,c,hc,J.2.2⟩)⟩
   ·rw[E j];exact or_congr_right (and_congr_right fun _=>⟨fun h=>⟨h,c,rfl,J⟩,fun h=>h.1⟩)
structure J3(dep:Int→Nat)(N L:Nat)(p0:Qe)(L0:List Int)(rest:List Int)(p:Qe):Prop where
 go:Y9 dep N L p0 rest p
 sub:∀j∈rest,j∈L0
 off:∀j,j∉L0→Bo p0 p j
 memb:Hm p0 p
 aw:∀j,p.aL j=p0.aL j
theorem Qtu{p0:Qe}{L:Nat}{L0:List Int}(g:Nat)(id:Int)(rest:List Int)(p:Qe)(h:J3 dep N L p0 L0 (id::rest) p):J3 dep N L p0 L0 rest (p.gain1 g id):=by obtain⟨hi,c,q,hc,k,z⟩:=h.go.head;have ok:=h.go.ok;obtain⟨k1,k2⟩:=ok.gain1 g hc hi k;have u:id∈L0:=h.sub id (by simp);exact⟨(h.go.next k1 k2).2.2.1,fun j d=>h.sub j (by simp[d]),fun j d=>(h.off j d).trans (Qd0 ok hc hi k (by rintro rfl;exact d u)),h.memb.trans (Qk4 ok hc hi k),fun j=>(Qg5 ok hc hi k j).trans (h.aw j)⟩
structure J4(dep:Int→Nat)(N L:Nat)(p1:Qe)(L0:List Int)(i:Int)(sl:Bool)(rest:List Int)(p:Qe):Prop where
 go:Y9 dep N L p1 rest p
 sub:∀j∈rest,j∈L0
 ent:∀j,j∉rest→Mw p j
 memb:Hm p1 p
 less:∀j,p.aL j=true→p1.aL j=true
 same:∀j,j∉L0∨sl=false→p.aL j=p1.aL j
 off:sl=true→i∉rest→p.aL i=false
 low:sl=true→∀j,j∉rest→p.aL j=true→∃L' c,L'≠i∧p.at L'=some c∧c.leaf=true∧j∈p.path 9 L'∧p.aL L'=true
theorem Qtv{p1:Qe}{L:Nat}{L0:List Int}{i:Int}{sl:Bool}(am:∀i c q,p1.at i=some c→0<i→p1.at c.par=some q→q.leaf=false)(hL:∀j∈L0,j≠i→∃c,p1.at j=some c∧c.leaf=false)(ac:∃c,p1.at i=some c∧c.leaf=true)
  (id:Int)(rest:List Int)(p:Qe)(h:J4 dep N L p1 L0 i sl (id::rest) p):J4 dep N L p1 L0 i sl rest (p.rest1 sl id):=by
 obtain⟨hi,c,q,hc,I,hp⟩:=h.go.head;have ok:=h.go.ok;obtain⟨k1,k2⟩:=ok.rest1 sl hc hi I;have R:id∈L0:=h.sub id (by simp);have al:id∉rest:=Qa0 ok h.go.path;have ho:∀j,j≠id→(p.rest1 sl id).aL j=p.aL j:=fun j u=>by rw[Og ok hc hi I,if_neg (fun e=>u e.1)]
 have ai:∀j,(p.rest1 sl id).aL j=true→p.aL j=true:=fun j u=>by
  rw[Og ok hc hi I]at u;split at u;·cases u
  ·exact u
 refine⟨(h.go.next k1 k2).2.2.1,fun j u=>h.sub j (by simp[u]),fun j u=>?_,h.memb.trans (Qk5 ok hc hi I),fun j u=>h.less j (ai j u),fun j u=>?_,fun hs ag=>?_,fun hs j u ha=>?_⟩
 ·by_cases e:j=id;·subst e;exact Qog ok hc hi I
  ·by_cases h0:0<j;·exact(h.ent j (by simp[e,u])).off (Qpg ok hc hi I e (Qif (p:=p) (id:=id) hp u h0))
   ·exact Qgz k1 h0
 ·rw[Og ok hc hi I];split
  ·rename_i e;rcases u with u|u;·exact absurd (e.1▸R) u
   ·rw[u]at e;simp at e
  ·exact h.same j u
 ·by_cases e:i=id;·subst e;obtain⟨c1,z,V⟩:=ac;obtain⟨c',B,_,U,_⟩:=h.go.same.get z;rw[hc]at B;obtain rfl:=Zs B;rw[Og ok hc hi I,if_pos ⟨rfl,by simp[hs,U.trans V]⟩]
  ·rw[ho i e];exact h.off hs (by simp[e,ag])
 ·
  have aB:∀j,(∃L' c,L'≠i∧p.at L'=some c∧c.leaf=true∧j∈p.path 9 L'∧p.aL L'=true)→∃L' c,L'≠i∧(p.rest1 sl id).at L'=some c∧c.leaf=true∧j∈(p.rest1 sl id).path 9 L'∧(p.rest1 sl id).aL L'=true:=by
   rintro j⟨L',c',h1,Z,h3,h4,h5⟩;obtain⟨d,hd,_,e2,_⟩:=k2.get Z;refine⟨L',d,h1,hd,e2.trans h3,by rw[Gv k2];exact h4,?_⟩;rw[ho L' ?_];·exact h5
   ·rintro rfl;obtain⟨c0,K,ab⟩:=hL L' R h1;obtain⟨c1,z,_,e3,_⟩:=h.go.same.get K;rw[Z]at z;obtain rfl:=Zs z;rw[h3,ab]at e3;cases e3
  by_cases e:j=id
  ·subst e;refine aB j ?_;have aj:j≠i:=by rintro rfl;obtain⟨c1,z,V⟩:=ac;obtain⟨c',B,_,U,_⟩:=h.go.same.get z;rw[hc]at B;obtain rfl:=Zs B;rw[Og ok hc hi I,if_pos ⟨rfl,by simp[hs,U.trans V]⟩]at ha;cases ha
   obtain⟨c0,K,ab⟩:=hL j R aj;obtain⟨c1,z,_,e3,_⟩:=h.go.same.get K;rw[hc]at z;obtain rfl:=Zs z;have ak:c.tree≠[]:=fun e=>by rw[Og ok hc hi I,if_pos ⟨rfl,by simp[hs,e]⟩]at ha;cases ha
   obtain⟨⟨a,k,b⟩,hm⟩:=List.exists_mem_of_ne_nil _ ak;obtain⟨ck,E,J,ah⟩:=ok.tr c (Qe.aE hc).1 (a,k,b) hm;dsimp only at E ah;rw[(Qe.aE hc).2]at J;have af:=(ok.up.2 ck (Qe.aE E).1 (by rw[(Qe.aE E).2];omega)).2.2.1;rw[(Qe.aE E).2,J]at af;have aa:k∉j::rest:=fun hk=>by
    rcases Zu.1 hk with rfl|hk;·omega
    ·have:=Mf ok h.go.path k hk;omega
   have ae:=((h.ent k aa j c hc a b).1 hm).2.1;obtain⟨L',c',h1,Z,h3,h4,h5⟩:=h.low hs k aa ae;refine⟨L',c',h1,Z,h3,?_,h5⟩;have:=Qnk ok (Nat.lt_succ_of_le (Quz ok Z)) h4 E (by rw[J];exact hi);rwa[J]at this
  ·rw[ho j e]at ha;exact aB j (h.low hs j (by simp[e,u]) ha)
theorem Uz.sent(aa:Qs dep N p)(hv:Uz p)(i:Int)(g:Nat)(more:Bool):
  Uz (p.sent i g more)∧Hm p (p.sent i g more)∧(∀j,(p.sent i g more).aL j=true→p.aL j=true)∧(∀j,j∉p.path 9 i∨more=true∨p.aL i=false→(p.sent i g more).aL j=p.aL j)∧
   (more=false→(∃c,p.at i=some c∧c.leaf=true)→(p.sent i g more).aL i=false):=by
 have V:p.sent i g more=p→(more=false→(∃c,p.at i=some c∧c.leaf=true)→p.aL i=false)→Uz (p.sent i g more)∧Hm p (p.sent i g more)∧(∀j,(p.sent i g more).aL j=true→p.aL j=true)∧(∀j,j∉p.path 9 i∨more=true∨p.aL i=false→(p.sent i g more).aL j=p.aL j)∧
   (more=false→(∃c,p.at i=some c∧c.leaf=true)→(p.sent i g more).aL i=false):=fun e h=>by
  rw[e];exact⟨hv,Hm.refl _,fun _ h=>h,fun _ _=>rfl,h⟩
 cases hc:p.at i with
 |none=> have:=V (by unfold Qe.sent;rw[hc]) (fun _⟨c,h,_⟩=>by rw[hc]at h;cases h);rw[hc]at this;exact this
 |some c=>
  rw[hc]at V;by_cases R:(decide (i<1)||!c.leaf)=true;·refine V (by unfold Qe.sent;rw[hc];dsimp only;rw[if_pos (by simpa using R)]) fun _⟨c',h,h2⟩=>?_;obtain rfl:=Zs h;simp only[h2,Bool.not_true,Bool.or_false,decide_eq_true_eq]at R;exact Qe.awake_neg (by omega)
  ·have hw:p.sent i g more=(p.path 9 i).foldl (Qe.rest1 (!more&&((p.path 9 i).foldl (Qe.gain1 g) p).aL i)) ((p.path 9 i).foldl (Qe.gain1 g) p):=by unfold Qe.sent;rw[hc];dsimp only;rw[if_neg (by simpa using R)]
   have ac:0<i∧c.leaf=true:=by simp only[Bool.or_eq_true,decide_eq_true_eq,Bool.not_eq_true',not_or,Bool.not_eq_false]at R;exact⟨by omega,R.2⟩
   obtain⟨h1,_,h3⟩:=De aa hc;have E:=Wp (Qtu (dep:=dep) (N:=N) (p0:=p) (L:=(p.path 9 i).length) (L0:=p.path 9 i) g) (p.path 9 i) p
    ⟨Y9.start aa h1,fun j B=>B,fun j _=>Bo.refl _ _,Hm.refl _,fun j=>rfl⟩
   generalize(p.path 9 i).foldl (Qe.gain1 g) p=p1 at E hw;have aj:∀k d q,p1.at k=some d→0<k→p1.at d.par=some q→q.leaf=false:=fun k d q hd hk hq=>by obtain⟨J,u,e1,_⟩:=E.go.same.back hd;obtain⟨q',ab,_,K,_⟩:=E.go.same.back hq;rw[←K];exact hv.inn k J q' u hk (by rw[e1];exact ab)
   have hL:∀j∈p.path 9 i,j≠i→∃c,p1.at j=some c∧c.leaf=false:=fun j B ah=>by obtain⟨d,hd,hl⟩:=Mi aa hv.inn B ah;obtain⟨J,u,_,K,_⟩:=E.go.same.get hd;exact⟨J,u,K.trans hl⟩
   have af:∃c,p1.at i=some c∧c.leaf=true:=by obtain⟨J,u,_,K,_⟩:=E.go.same.get hc;exact⟨J,u,K.trans ac.2⟩
   obtain⟨sl,U⟩:=Zx ((!more&&p1.aL i));rw[←U]at hw;have ae:i∈p.path 9 i:=Sv hc ac.1;have Z:=Wp (Qtv (dep:=dep) (N:=N+(p.path 9 i).length) (p1:=p1) (L:=(p.path 9 i).length) (L0:=p.path 9 i) (i:=i) (sl:=sl) aj hL af) (p.path 9 i) p1
    ⟨Y9.start (by simpa using E.go.ok) (Vy.same E.go.same h1),fun j B=>B,fun j B=>(hv.ent j).off (E.off j B),Hm.refl _,fun j h=>h,fun j _=>rfl,fun _ h=>absurd ae h,fun hs j B ha=>by
     rw[E.aw j]at ha;obtain⟨L',d,k1,k2,k3,k4⟩:=hv.low j ha;obtain⟨J,u,_,K,_⟩:=E.go.same.get k1;exact⟨L',J,fun e=>B (by rw[←e];exact k3),u,K.trans k2,by rw[Gv E.go.same];exact k3,by rw[E.aw];exact k4⟩⟩
   generalize(p.path 9 i).foldl (Qe.rest1 sl) p1=p2 at Z hw;rw[hw];have hs:Jv p p2:=E.go.same.trans Z.go.same;have hm:Hm p p2:=E.memb.trans Z.memb;have I:sl=false→∀j,p2.aL j=p.aL j:=fun h j=>(Z.same j (.inr h)).trans (E.aw j);have ai:more=true∨p.aL i=false→sl=false:=fun h=>by rw[U,E.aw];rcases h with h|h<;>simp[h]
   refine⟨⟨fun j=>Z.ent j (by simp),hv.memb.same hs hm,fun k d q hd hk hq=>?_,fun j B=>?_⟩,hm,fun j B=>by rw[←E.aw];exact Z.less j B,fun j B=>?_,fun ag _=>?_⟩;·obtain⟨J,u,e1,_⟩:=hs.back hd;obtain⟨q',ab,_,K,_⟩:=hs.back hq;rw[←K];exact hv.inn k J q' u hk (by rw[e1];exact ab)
   ·cases z:sl with
    |true=> obtain⟨L',d,k1,k2,k3,k4,k5⟩:=Z.low z j (by simp) B;exact⟨L',d,k2,k3,k4,k5⟩
    |false=> rw[I z j]at B;obtain⟨L',d,k1,k2,k3,k4⟩:=hv.low j B;obtain⟨J,u,_,K,_⟩:=hs.get k1;exact⟨L',J,u,K.trans k2,by rw[Gv hs];exact k3,by rw[I z];exact k4⟩
   ·rcases B with B|B;·exact(Z.same j (.inl B)).trans (E.aw j)
    ·exact I (ai B) j
   ·cases z:sl with
    |true=>exact Z.off z (by simp)
    |false=> rw[I z];rw[ag,E.aw]at U;rw[z]at U;simpa using U.symm
end
end Go.Proofs.YtnnhmpehkbihnaaGreat
