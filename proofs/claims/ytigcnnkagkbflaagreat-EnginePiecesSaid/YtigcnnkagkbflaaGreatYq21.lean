/- A part of the proof: no condition. -/
import Derived.Test.YtigcnnkagkbflaaGreatYq20
namespace Go.Proofs.YtigcnnkagkbflaaGreat
set_option linter.unusedVariables false
set_option maxRecDepth 100000
set_option maxHeartbeats 4000000
open Go.RowKit
open Go.Proofs.Tryz
attribute [local go_sem] Qp
attribute [local irreducible] Kl J9 Xo
structure Vp(h:Qm)(p:Qe):Prop where
 root:∃r,p.at 0=some r/\r.leaf=false/\r.aM=(h.aM 0).length
 cls:∀i,i≠0->(p.at i).map (λx=>(x.par,x.leaf,x.aJ,x.aM))=(h.at i).map λc=>(c.sp.par,c.sp.leaf,c.sp.aJ,(h.aM i).length)
section
variable{h:Qm}{p p':Qe}{N M:Nat}{dep:Int->Nat}
theorem Vp.fwd(m:Vp h p)(q:J8 h){i:Int}{c:Vm}(d:h.at i=some c):∃x,p.at i=some x/\x.par=c.sp.par/\x.leaf=c.sp.leaf/\x.aJ=c.sp.aJ/\x.aM=(h.aM i).length:=by
 have u:=(q.pos d).1;have:=m.cls i (by omega);rw[d]at this;cases k:p.at i with
 |none=>rw[k]at this;cases this
 |some x=> rw[k]at this;simp only[Zn,Option.some.injEq,Prod.mk.injEq]at this;exact⟨x,rfl,this⟩
theorem Vp.back(m:Vp h p){i:Int}(k:i≠0){x:Qx}(q:p.at i=some x):∃c,h.at i=some c/\x.par=c.sp.par/\x.leaf=c.sp.leaf/\x.aJ=c.sp.aJ/\x.aM=(h.aM i).length:=by
 have:=m.cls i k;rw[q]at this;cases d:h.at i with
 |none=>rw[d]at this;cases this
 |some c=> rw[d]at this;simp only[Zn,Option.some.injEq,Prod.mk.injEq]at this;exact⟨c,rfl,this⟩
theorem Vp.no(m:Vp h p){i:Int}(c:i≠0)(d:h.at i=none):p.at i=none:=by have:=m.cls i c;rw[d]at this;simpa using this
theorem Vp.path(m:Vp h p)(k:J8 h):∀(n:Nat)(i:Int),p.path n i=h.path n i
 |0,_=>rfl
 |n+1,i=>by
  rw[Qe.path,Qm.path];by_cases d:i<1;·rw[if_pos d,k.zero d]
  .rw[if_neg d];cases q:h.at i with
   |none=>rw[m.no (by omega) q]
   |some c=> obtain⟨x,u,e,_⟩:=m.fwd k q;rw[u];dsimp only;rw[e,m.path k n]
theorem Vp.par(m:Vp h p)(d:J8 h){c:Vm}(z:c∈h):∃q,p.at c.sp.par=some q/\q.leaf=false/\q.aM=(h.aM c.sp.par).length:=by
 rcases d.par c z with⟨e,_⟩|⟨q,E,B,_⟩;·rw[e];exact m.root
 .obtain⟨x,I,_,k,_,u⟩:=m.fwd d E;exact⟨x,I,k.trans B,u⟩
theorem Vp.same(m:Vp h p)(k:Jv p p')(U:Hm p p'):Vp h p':=by
 have B:∀i,(p'.at i).map Qx.aM=(p.at i).map Qx.aM:=λi=>by
  have:=U i 0;cases c:p.at i with
  |none=>rw[k.none c]
  |some x=> obtain⟨y,q,_⟩:=k.get c;rw[c,q]at this;simp only[Zn,Option.some.injEq,Prod.mk.injEq]at this;rw[q];simp[this.2]
 refine⟨?_,λi K=>?_⟩;·obtain⟨r,z,R,J⟩:=m.root;obtain⟨V,d,_,u,_⟩:=k.get z;have:=B 0;rw[z,d]at this;simp only[Zn,Option.some.injEq]at this;exact⟨V,d,u.trans R,this.trans J⟩
 .rw[<-m.cls i K];have:=B i;cases c:p.at i with
  |none=>rw[k.none c]
  |some x=> obtain⟨y,q,E,u,I⟩:=k.get c;rw[c,q]at this;simp only[Zn,Option.some.injEq]at this;rw[q];simp[this,E,u,I]
theorem Vp.new:Vp [] Qe.new:=by refine⟨⟨_,by rw[Rl,if_pos rfl],rfl,rfl⟩,λi c=>?_⟩;rw[Rl,if_neg c];rfl
theorem Qwe(h:Qm)(i:Int):(h.aM i).length<=h.length:=by unfold Qm.aM;rw[List.length_map];exact List.length_filter_le _ _
theorem Ra(x:Int):∀l:List Int,(Nm x l).length=l.length+1
 |[]=>rfl
 |y::l=>by
  rw[Nm];split;·rfl
  .simp[Ra x l]
theorem Qje(E:J8 h){i:Int}(z:i≠0)(B:h.at i=none):h.aM i=[]:=by
 unfold Qm.aM;rw[List.map_eq_nil_iff,List.filter_eq_nil_iff];intro c u e;simp only[decide_eq_true_eq]at e;rcases E.par c u with⟨k,_⟩|⟨q,d,_⟩;·exact z (e.symm.trans k)
 .rw[e,B]at d;cases d
theorem Vp.add(m:Vp h p)(I:J8 h){s:Yk}(U:h.aO s=0):
  ∃q,p.at s.par=some q/\q.leaf=false/\q.aM<=64/\p.at s.id=none/\1<=s.id/\Vp (h.add s) (p.put s)/\
   Xk (h.add s) 0=0/\Xk (h.add s) s.id=Xk (h.add s) s.par+1/\Xk (h.add s) s.id<=8/\∀i,i≠s.id->Xk (h.add s) i=Xk h i:=by
 obtain⟨h1,h2,h3,h4⟩:=Ub U;obtain⟨i1,i2,i3,i4,i5⟩:=Cq h1;have hn:=m.no (by omega) h3;have z:=Qjv U;have hd:=Qgy I h4;have ae:=I.add U;have u:∃q,p.at s.par=some q/\q.leaf=false/\q.aM=(h.aM s.par).length:=by
  rcases hd with⟨e,_⟩|⟨q,u,K,_⟩;·rw[e];exact m.root
  .obtain⟨x,Z,_,d,_,e3⟩:=m.fwd I u;exact⟨x,Z,d.trans K,e3⟩
 obtain⟨q,u,K,R⟩:=u;have hu:∀k,(h.add s).aM k=if s.par=k then Nm s.id (h.aM k)else h.aM k:=λk=>by rw[Bv U];exact Fe ⟨s,h.depth s.par⟩ k I.sorted
 have E:=Qsc i1 hn u K;have J:∀i,i≠s.id->Xk (h.add s) i=Xk h i:=λi V=>by unfold Xk;rw[z,if_neg V]
 refine⟨q,u,K,by rw[R];exact Zp (Qwe _ _) (by omega),hn,i1,⟨?_,λi V=>?_⟩,?_,?_,?_,J⟩
 .by_cases e:s.par=0;·refine⟨{q with mem:=if s.aJ then q.mem.add s.id s.share else q.mem,aM:=q.aM+1},by rw[E,if_pos e.symm],K,?_⟩;rw[hu,if_pos e,Ra,<-e,<-R]
  .obtain⟨r,hr,ab,ac⟩:=m.root;refine⟨r,by rw[E,if_neg (Ne.symm e),if_neg (by omega)];exact hr,ab,?_⟩;rw[hu,if_neg e,ac]
 .rw[E,z,hu];by_cases e:i=s.par
  .have aa:s.par≠s.id:=λe=>i5 e.symm;subst e;rw[if_pos rfl,if_neg (c:=s.par=s.id) aa,if_pos rfl,Ra];have B:=m.cls s.par V;rw[u]at B;cases Z:h.at s.par with
   |none=>rw[Z]at B;cases B
   |some c=> rw[Z]at B;simp only[Zn,Option.some.injEq,Prod.mk.injEq]at B;simp[B.1,B.2.1,B.2.2.1,B.2.2.2]
  .rw[if_neg e,if_neg (Ne.symm e)];by_cases d:i=s.id;·rw[if_pos d,if_pos d,d,Qje I (by omega) h3];rfl
   .rw[if_neg d,if_neg d];exact m.cls i V
 .exact Kr (ae.zero (by decide))
 .rw[V7 (by rw[z,if_pos rfl]),J s.par (λe=>i5 e.symm)];rcases hd with⟨e,d⟩|⟨q,u,_,d,_⟩;·show h.depth s.par=_;rw[d,e,Kr (I.zero (by decide))]
  .show h.depth s.par=_;rw[d,V7 u]
 .rw[V7 (by rw[z,if_pos rfl])];rcases hd with⟨e,d⟩|⟨q,u,_,d,_⟩;·show h.depth s.par<=8;omega
  .show h.depth s.par<=8;omega
theorem Vp.aK(m:Vp h p)(ok:J8 h)(J:Qs dep N p){s:Yk}(K:h.aG s=0)(ha:p.aL s.id=false):
  ∃c q,p.at s.id=some c/\1<=s.id/\p.at c.par=some q/\Vp (h.change s) (p.aK s)/\∀i,Xk (h.change s) i=Xk h i:=by
 obtain⟨c0,d,hm⟩:=Gb K;obtain⟨i1,_,_,i4,i5,i6⟩:=ok.pos d;obtain⟨c,R,V,e2,e3,e4⟩:=m.fwd ok d;obtain⟨q,u⟩:=J.par R (by omega);have B:=Si K;have z:=Qit J i1 R ha u;have hu:∀k,(h.change s).aM k=h.aM k:=λk=>by unfold Qm.change;rw[if_pos K];exact Ik h s k
 have aa:c.par≠s.id:=by rw[V];exact λe=>i4 e.symm
 refine⟨c,q,R,i1,u,⟨?_,λi hi=>?_⟩,λi=>?_⟩
 .obtain⟨r,U,E,I⟩:=m.root;rw[hu];by_cases e:0=c.par
  .refine⟨{q with mem:=if s.aJ then(q.mem.drop s.id).add s.id s.share else q.mem.drop s.id},by rw[z,if_neg (by omega),if_pos e],?_,?_⟩;·rw[<-e,U]at u;obtain rfl:=Zs u;exact E
   .rw[<-e,U]at u;obtain rfl:=Zs u;exact I
  .exact⟨r,by rw[z,if_neg (by omega),if_neg e];exact U,E,I⟩
 .rw[z,B,hu];by_cases e:i=s.id;·rw[if_pos e,if_pos e,d,e];simp only[Zn,Option.some.injEq,Prod.mk.injEq];exact⟨V,e2,rfl,e4⟩
  .rw[if_neg e,if_neg e];split;·rename_i Z;have:=m.cls i hi;rw[Z,u]at this;rw[Z,<-this];rfl
   .exact m.cls i hi
 .unfold Xk;rw[B];by_cases e:i=s.id;·rw[if_pos e,e,d];rfl
  .rw[if_neg e]
theorem Qql{i:Int}{c:Vm}(d:c∈h)(k:c.sp.par=i):1<=(h.aM i).length:=by have:c.sp.id∈h.aM i:=Z3.2 ⟨c,List.mem_filter.2 ⟨d,by simpa using k⟩,rfl⟩;exact List.length_pos_of_mem this
theorem Vp.drop(m:Vp h p)(ok:J8 h)(ah:Qs dep N p){i:Int}(h0:h.aP i=0)(ha:p.aL i=false):
  ∃c q,p.at i=some c/\1<=i/\c.aM=0/\p.at c.par=some q/\1<=q.aM/\(∀j d,p.at j=some d->0<j->d.par≠i)/\Vp (h.drop i) (p.drop i)/\∀j,j≠i->Xk (h.drop i) j=Xk h j:=by
 obtain⟨c0,I,ac⟩:=Tz h0;obtain⟨i1,_,_,i4,i5,i6⟩:=ok.pos I;obtain⟨c,hc,e1,e2,e3,e4⟩:=m.fwd ok I;obtain⟨q,K,ag,U⟩:=m.par ok i6;rw[<-e1]at K;have aa:c.aM=0:=by rw[e4,ac];rfl
 have E:=We h0;have B:=Iz i1 hc aa ha K;have R:∀j d,p.at j=some d->0<j->d.par≠i:=λj d hd hj e=>by obtain⟨d0,Eu,k1,_⟩:=m.back (by omega) hd;exact Qby ac d0 (Qm.aE Eu).1 (k1.symm.trans e)
 have hu:∀k,(h.drop i).aM k=(h.aM k).filter λy=>!decide (y=i):=λk=>by unfold Qm.drop;rw[if_pos h0];exact Ph h i k
 have J:∀k,k≠c.par->(h.drop i).aM k=h.aM k:=λk hk=>by rw[hu k];rw[<-Ph];exact Ij ok.nodup I (by rw[<-e1];exact hk)
 have ab:((h.drop i).aM c.par).length=q.aM-1:=by
  rw[hu,U,e1];have u:i∈h.aM c0.sp.par:=Z3.2 ⟨c0,List.mem_filter.2 ⟨i6,by simp⟩,i5⟩;have hs:=Gk ok.sorted c0.sp.par;generalize h.aM c0.sp.par=l at u hs;clear hu J B E;induction l with
  |nil=>cases u
  |cons y l ih=>
   rw[List.filter_cons];have Z:=List.pairwise_cons.1 hs;by_cases e:y=i
   .have:l.filter (λy=>!decide (y=i))=l:=List.filter_eq_self.2 λz hz=>by
     have:=Z.1 z hz;have:z≠i:=by omega
     simpa using this
    simp[e,this]
   .have hm:i∈l:=(Zu.1 u).resolve_left (λe'=>e e'.symm);have:=ih hm Z.2;have hp:1<=l.length:=List.length_pos_of_mem hm;simp only[e,decide_false,Bool.not_false,if_true,Zm];omega
 have ae:1<=q.aM:=by rw[U];exact Qql i6 rfl
 refine⟨c,q,hc,i1,aa,K,ae,R,⟨?_,λk hk=>?_⟩,λj hj=>?_⟩
 .obtain⟨r,hr,V,af⟩:=m.root;by_cases e:0=c.par
  .refine⟨{q with mem:=q.mem.drop i,aM:=q.aM-1},by rw[B,if_neg (by omega),if_pos e],?_,?_⟩;·rw[<-e,hr]at K;obtain rfl:=Zs K;exact V
   .rw[e];exact ab.symm
  .exact⟨r,by rw[B,if_neg (by omega),if_neg e];exact hr,V,by rw[J 0 e];exact af⟩
 .rw[B,E];by_cases e:k=i;·rw[if_pos e,if_pos e];rfl
  .rw[if_neg e,if_neg e];split
   .rename_i e5;have:=m.cls k hk;rw[e5,K]at this;rw[e5,ab];cases hx:h.at c.par with
    |none=>rw[hx]at this;cases this
    |some x=> rw[hx]at this;simp only[Zn,Option.some.injEq,Prod.mk.injEq]at this;simp[this.1,this.2.1,this.2.2.1]
   .rename_i e5;rw[J k e5];exact m.cls k hk
 .unfold Xk;rw[E,if_neg hj]
end
section
variable{X:Type}{key:X->Int}{l:List X}
theorem Qeo{x y:X}(h:Hn key (key x) l=some y)(k:Int):Hn key k (Lg key x l)=if k=key x then some x else Hn key k l:=by
 unfold Hn Lg at*;induction l with
 |nil=>cases h
 |cons z l J=>
  rw[List.map_cons,List.find?_cons,List.find?_cons];rw[List.find?_cons]at h;by_cases d:key z=key x
  .rw[if_pos d];by_cases e:k=key x;·simp[e]
   .have E:¬key x=k:=λc=>e c.symm;have K:¬key z=k:=λc=>e (by rw[<-c,d]);simp only[E,K,decide_false];rw[if_neg e];clear h J;induction l with
    |nil=>rfl
    |cons u l q=>
     rw[List.map_cons,List.find?_cons,List.find?_cons];by_cases B:key u=key x;·rw[if_pos B];have R:¬key u=k:=λc=>e (by rw[<-c,B]);simp only[E,R,decide_false];exact q
     .rw[if_neg B];by_cases I:key u=k;·simp only[I,decide_true]
      .simp only[I,decide_false];exact q
  .rw[if_neg d];simp only[d,decide_false]at h;by_cases e:key z=k;·have:¬k=key x:=λc=>d (by rw[e,c]);simp only[e,decide_true];rw[if_neg this]
   .simp only[e,decide_false];exact J h
theorem Ix(x:X)(k:Int):Hn key k (l++[x])=(Hn key k l).or (if key x=k then some x else none):=by simp[Hn]
theorem Qgi(i k:Int):Hn key k (Kp key i l)=if k=i then none else Hn key k l:=by grind [Hn,Kp]
theorem Qqa(x:X):(Lg key x l).map key=l.map key:=by
 unfold Lg;rw[List.map_map];refine List.map_congr_left λy _=>?_;simp only[Function.comp];split;·rename_i h;exact h.symm
 .rfl
theorem Qm1{f:X->X}(c:∀x,key (f x)=key x)(k:Int):Hn key k (l.map f)=(Hn key k l).map f:=by
 unfold Hn;induction l with
 |nil=>rfl
 |cons z l d=>
  rw[List.map_cons,List.find?_cons,List.find?_cons,c];by_cases h:key z=k;·simp[h]
  .simp only[h,decide_false];exact d
end
structure Br(N:Nat)(h:Qm)(p:Qe)(l:Qw):Prop where
 sp:∃c,h.at l.id=some c/\c.sp.leaf=true/\(l.pk:Int)=c.sp.pk/\(l.bt:Int)=c.sp.bt/\l.debt.isSome=!c.sp.real.none/\p.aL l.id=(c.sp.aJ&&decide (l.q≠[]))
 many:l.q.length<=l.pk
 held:Jn l.q<=l.bt
 good:∀x∈l.q,Ll x/\x.cls=l.id
 debt:∀d,l.debt=some d->d.got<=Xw/\d.run.l.length<=N/\d.aL=decide (l.q≠[])
def Qvc(aI:List Qw)(c:List Xu):Prop:=∀a i b,(a,i,b)∈c↔∃l d,Hn Qw.id i aI=some l/\l.debt=some d/\d.aL=true/\a=d.elig/\b=d.due
structure Vl(N:Nat)(s:Qf):Prop where
 most:1<=s.most/\s.most<65536
 tree:J8 s.tree
 pick:Qs (Xk s.tree) N s.pick
 pinv:Uz s.pick
 mt:Vp s.tree s.pick
 nd:(s.aI.map Qw.id).Nodup
 lv:∀i c,s.tree.at i=some c->c.sp.leaf=true->∃l,s.leaf i=some l
 ok:∀l∈s.aI,Br N s.tree s.pick l
 row:Qvc s.aI s.row
section
variable{N M:Nat}{s:Qf}
theorem Vl.at(h:Vl N s){i:Int}{l:Qw}(k:s.leaf i=some l):Br N s.tree s.pick l/\l.id=i/\l∈s.aI:=by obtain⟨c,d⟩:=Y3 (key:=Qw.id) k;exact⟨h.ok l c,d,c⟩
theorem Vl.leaf_of(h:Vl N s){l:Qw}(c:l∈s.aI):s.leaf l.id=some l:=Ls (key:=Qw.id) h.nd c rfl
theorem Br.more{h:Qm}{p:Qe}{l:Qw}(k:Br N h p l)(q:N<=M):Br M h p l:=⟨k.sp,k.many,k.held,k.good,λd c=>⟨(k.debt d c).1,Zp (k.debt d c).2.1 q,(k.debt d c).2.2⟩⟩
theorem Vl.more(h:Vl N s)(c:N<=M):Vl M s:=⟨h.most,h.tree,h.pick.more c,h.pinv,h.mt,h.nd,h.lv,λl d=>(h.ok l d).more c,h.row⟩
theorem Vl.new{k:Int}(q:1<=k)(u:k<65536):Vl N (Qf.new k):=
 ⟨⟨q,u⟩,J8.nil,Qs.new rfl,Uz.new,Vp.new,List.nodup_nil,λi c z=>(by cases z),nofun,λa i b=>⟨λh=>(by cases h),λ⟨l,d,h,_⟩=>(by cases h)⟩⟩
theorem Qnu:∀{l:List Int}{x:Int},(∀y∈l,0<=y)->x∈l->0<x->0<l.sum
 |y::l,x,h,k,h0=>by
  rw[List.sum_cons];have c:=h y List.mem_cons_self;have d:∀{l:List Int},(∀y∈l,0<=y)->0<=l.sum:=λ{l}h=>by
   induction l with
   |nil=>simp
   |cons z l q=>rw[List.sum_cons];have:=h z List.mem_cons_self;have:=q λy c=>h y (Zr _ c);omega
  rcases Zu.1 k with rfl|k;·have:=d λy c=>h y (Zr _ c);omega
  .have:=Qnu (λy c=>h y (Zr _ c)) k h0;omega
theorem Qhx{id x:Int}(d:x∈s.tree.aI id)(c:s.qOf x≠[]):0<s.many id:=by
 unfold Qf.many;refine Qnu (x:=((s.qOf x).length:Int)) (λy k=>?_) (Z3.2 ⟨x,d,rfl⟩) ?_;·obtain⟨z,_,rfl⟩:=Z3.1 k;omega
 .have:=List.length_pos_iff.2 c;omega
theorem Ov{i:Int}{l:Qw}(h:s.leaf i=some l):s.qOf i=l.q:=by unfold Qf.qOf;rw[h];rfl
theorem Vl.busy(h:Vl N s){L:Int}{x:Qx}(z:s.pick.at L=some x)(q:x.leaf=true)(ha:s.pick.aL L=true):∃c l,s.tree.at L=some c/\c.sp.leaf=true/\s.leaf L=some l/\l.q≠[]:=by
 have J:L≠0:=λe=>by obtain⟨r,R,u,_⟩:=h.mt.root;rw[e,R]at z;obtain rfl:=Zs z;rw[u]at q;cases q
 obtain⟨c,I,_,B,_⟩:=h.mt.back J z;obtain⟨l,d⟩:=h.lv L c I (B.symm.trans q);obtain⟨k,U,_⟩:=h.at d;obtain⟨V,K,_,_,_,_,E⟩:=k.sp;refine⟨c,l,I,B.symm.trans q,d,?_⟩;rw[U,ha]at E;have:=E.symm;simp only[Zw,decide_eq_true_eq]at this;exact this.2
theorem Vl.asleep(h:Vl N s){i:Int}(J:¬0<s.many i):s.pick.aL i=false:=by
 cases ha:s.pick.aL i with
 |false=>rfl
 |true=> obtain⟨L,x,R,I,B,d⟩:=h.pinv.low i ha;obtain⟨c,l,E,q,z,K⟩:=h.busy R I d;rw[h.mt.path h.tree]at B;obtain⟨u,k⟩:=Qm.aE E;exact absurd (Qhx (Y8.2 ⟨c,u,k,q,.inr B⟩) (by rw[Ov z];exact K)) J
theorem Vl.add(h:Vl N s){c:Yk}(h0:s.aO c=0):Vl N (s.add c):=by
 have E:s.tree.aO c=0:=h0;obtain⟨q,hq,ae,aj,hn,i1,mt,d0,d1,d8,dd⟩:=h.mt.add h.tree E;have Z:=Qjv E;have aa:=(Ub E).2.2.1;have ai:=(Ub E).1;have af:Qs (Xk (s.tree.add c)) N (s.pick.put c):=h.pick.put i1 hn hq ae (by omega) d0 (λx B ak=>dd x.id (Qm2 hn x B)) d1 d8;obtain⟨pv,ag⟩:=h.pinv.put h.pick i1 hn hq ae af;have e:s.add c={s with tree:=s.tree.add c,pick:=s.pick.put c,aI:=if c.leaf then s.aI++[⟨c.id,c.pk.toNat,c.bt.toNat,[],Xl c.real⟩]else s.aI}:=by unfold Qf.add;rw[if_pos h0]
 rw[e];have R:∀l∈s.aI,l.id≠c.id:=λl u e=>by obtain⟨x,B,_⟩:=(h.ok l u).sp;rw[e,aa]at B;cases B
 have U:∀l∈s.aI,Br N (s.tree.add c) (s.pick.put c) l:=λl u=>by have k:=h.ok l u;obtain⟨x,B,k2⟩:=k.sp;exact⟨⟨x,by rw[Z,if_neg (R l u)];exact B,by rw[ag];exact k2⟩,k.many,k.held,k.good,k.debt⟩
 have J:∀i,i≠c.id->Hn Qw.id i (if c.leaf then s.aI++[⟨c.id,c.pk.toNat,c.bt.toNat,[],Xl c.real⟩]else s.aI)=s.leaf i:=λi hi=>by
  split;·rw[Ix,if_neg (λe=>hi e.symm)];show(s.leaf i).or none=_;cases s.leaf i<;>rfl
  .rfl
 refine⟨h.most,h.tree.add E,af,pv,mt,?_,λi x B ab=>?_,λl u=>?_,λa i b=>?_⟩
 .dsimp only;split
  .rw[List.map_append];refine List.nodup_append.2 ⟨h.nd,by simp,λa ha b hb=>?_⟩;obtain⟨l,u,rfl⟩:=Z3.1 ha;obtain rfl:b=c.id:=by simpa using hb
   exact R l u
  .exact h.nd
 .dsimp only at B;rw[Z]at B;by_cases V:i=c.id
  .rw[if_pos V]at B;obtain rfl:=Zs B;dsimp only at ab;refine⟨⟨c.id,c.pk.toNat,c.bt.toNat,[],Xl c.real⟩,?_⟩;show Hn Qw.id i (if c.leaf then _ else _)=_;rw[if_pos ab,Ix,V,if_pos rfl];have:Hn Qw.id c.id s.aI=none:=by
    cases K:Hn Qw.id c.id s.aI with
    |none=>rfl
    |some l=>exact absurd (Y3 K).2 (R l (Y3 K).1)
   rw[this];rfl
  .rw[if_neg V]at B;obtain⟨l,u⟩:=h.lv i x B ab;exact⟨l,(J i V).trans u⟩
 .dsimp only at u|-;split at u
  .rename_i ac;rcases Zl.1 u with u|u;·exact U l u
   .obtain rfl:l=⟨c.id,c.pk.toNat,c.bt.toNat,[],Xl c.real⟩:=by simpa using u
    obtain⟨b1,b2,b3,b4⟩:=Qam ai ac;refine⟨⟨⟨c,s.tree.depth c.par⟩,by rw[Z,if_pos rfl],ac,?_,?_,?_,?_⟩,Nat.zero_le _,?_,nofun,λd hd=>?_⟩;·show((c.pk.toNat:Nat):Int)=c.pk;omega
    .show((c.bt.toNat:Nat):Int)=c.bt;omega
    .show(Xl c.real).isSome=!c.real.none;unfold Xl;by_cases hr:c.real.none=true;·rw[if_pos hr,hr];rfl
     .rw[if_neg hr];have:c.real.none=false:=by simpa using hr
      rw[this];rfl
    .show(s.pick.put c).aL c.id=_;rw[ag,Qe.awake_none hn];simp
    .show Jn []<=((c.bt.toNat:Nat):Int);simp only[Jn];omega
    .have z:Xl c.real=some d:=hd;unfold Xl at z;split at z;·cases z
     .obtain rfl:=Zs z;exact⟨Nat.zero_le _,Nat.zero_le _,rfl⟩
  .exact U l u
 .dsimp only;rw[h.row];by_cases V:i=c.id
  .subst V;have K:s.leaf c.id=none:=by
    cases K:s.leaf c.id with
    |none=>rfl
    |some l=>exact absurd (Y3 (key:=Qw.id) K).2 (R l (Y3 (key:=Qw.id) K).1)
   constructor;·rintro⟨l,d,u,_⟩;have I:s.leaf c.id=some l:=u;rw[K]at I;cases I
   .rintro⟨l,d,u,hd,ha,_⟩;exfalso;split at u
    .rw[Ix]at u;have ah:Hn Qw.id c.id s.aI=none:=K;rw[ah,if_pos rfl]at u;obtain rfl:=Zs u;have z:Xl c.real=some d:=hd;unfold Xl at z;split at z;·cases z
     .obtain rfl:=Zs z;cases ha
    .have I:s.leaf c.id=some l:=u;rw[K]at I;cases I
  .rw[J i V];rfl
theorem L8{c:Yk}(d:s.aG c=0):¬0<s.many c.id/\s.tree.aG c=0:=by unfold Qf.aG at*;simp_all;omega
theorem Mh{h:Qm}{i:Int}{c:Vm}(d:h.at i=some c):i∈h.path 9 i:=by rw[Qm.path,d];exact List.mem_cons_self
theorem Vl.idle(h:Vl N s){i:Int}{l:Qw}(B:s.leaf i=some l)(E:¬0<s.many i):l.q=[]:=by
 obtain⟨k,J,_⟩:=h.at B;obtain⟨c,d,u,_⟩:=k.sp;rw[J]at d;obtain⟨z,q⟩:=Qm.aE d;cases I:l.q with
 |nil=>rfl
 |cons x t=>exact absurd (Qhx (Y8.2 ⟨c,z,q,u,.inr (Mh d)⟩) (by rw[Ov B,I];simp)) E
theorem Vl.change(h:Vl N s){c:Yk}(h0:s.aG c=0):Vl N (s.change c):=by
 obtain⟨hm,V⟩:=L8 h0;have ha:=h.asleep hm;obtain⟨x,q,hx,i1,hq,mt,dd⟩:=h.mt.aK h.tree h.pick V ha;have Z:=Si V;have ai:Qs (Xk (s.tree.change c)) N (s.pick.aK c):=(h.pick.aK i1 hx ha hq).redep (by rw[dd,h.pick.up.1]) (λ_ _ _=>dd _);obtain⟨pv,ag⟩:=h.pinv.aK h.pick i1 hx ha hq;have e:s.change c={s with tree:=s.tree.change c,pick:=s.pick.aK c,aI:=s.aI.map λl=>if l.id=c.id then{l with debt:=Xl c.real}else l}:=by unfold Qf.change;rw[if_pos h0]
 rw[e];have hf:∀l:Qw,(if l.id=c.id then{l with debt:=Xl c.real}else l).id=l.id:=λl=>by split<;>rfl
 have J:∀i,Hn Qw.id i (s.aI.map λl=>if l.id=c.id then{l with debt:=Xl c.real}else l)=(s.leaf i).map λl=>if l.id=c.id then{l with debt:=Xl c.real}else l:=λi=>Qm1 hf i;refine⟨h.most,h.tree.change V,ai,pv,mt,?_,λi y E af=>?_,λl R=>?_,λa i b=>?_⟩;·dsimp only;rw[List.map_map];have:(Qw.id∘λl:Qw=>if l.id=c.id then{l with debt:=Xl c.real}else l)=Qw.id:=funext hf;rw[this];exact h.nd
 .dsimp only at E;rw[Z]at E;have:∃y',s.tree.at i=some y'/\y'.sp.leaf=true:=by
   split at E
   .rename_i B;cases hz:s.tree.at c.id with
    |none=>rw[hz]at E;cases E
    |some z=> rw[hz]at E;obtain rfl:=Zs E;exact⟨z,by rw[B];exact hz,af⟩
   .exact⟨y,E,af⟩
  obtain⟨y',ah,I⟩:=this;obtain⟨l,R⟩:=h.lv i y' ah I;exact⟨_,by show Hn Qw.id i _=_;rw[J,R];rfl⟩
 .obtain⟨U,ac,rfl⟩:=Z3.1 R;have k:=h.ok U ac;obtain⟨y,E,k1,k2,k3,k4,k5⟩:=k.sp;by_cases B:U.id=c.id
  .rw[if_pos B];have ae:=h.leaf_of ac;rw[B]at ae;have K:=h.idle ae hm;rw[B]at E;refine⟨⟨⟨y.sp.aK c,y.d⟩,?_,k1,k2,k3,?_,?_⟩,k.many,k.held,k.good,λd hd=>?_⟩;·show(s.tree.change c).at U.id=_;rw[Z,if_pos B,E];rfl
   .show(Xl c.real).isSome=!c.real.none;unfold Xl;by_cases hr:c.real.none=true;·rw[if_pos hr,hr];rfl
    .rw[if_neg hr];have:c.real.none=false:=by simpa using hr
     rw[this];rfl
   .show(s.pick.aK c).aL U.id=_;rw[ag,B,ha];show _=(_&&decide (U.q≠[]));rw[K];simp
   .have u:Xl c.real=some d:=hd;unfold Xl at u;split at u;·cases u
    .obtain rfl:=Zs u;exact⟨Nat.zero_le _,Nat.zero_le _,by show false=decide (U.q≠[]);rw[K];rfl⟩
  .rw[if_neg B];exact⟨⟨y,by show(s.tree.change c).at U.id=_;rw[Z,if_neg B];exact E,k1,k2,k3,k4,by show(s.pick.aK c).aL U.id=_;rw[ag];exact k5⟩,k.many,k.held,k.good,k.debt⟩
 .dsimp only;rw[h.row,J];have el:Hn Qw.id i s.aI=s.leaf i:=rfl;rw[el];by_cases B:i=c.id
  .cases R:s.leaf i with
   |none=>simp
   |some l=>
    obtain⟨k,ki,_⟩:=h.at R;have K:l.q=[]:=h.idle (by rw[<-B];exact R) hm;constructor;·rintro⟨l',d,I,hd,aa,_⟩;obtain rfl:=Zs I;have:=(k.debt d hd).2.2;rw[aa,K]at this;simp at this
    .rintro⟨l',d,I,hd,aa,_⟩;obtain rfl:=Zs I;have ab:(if l.id=c.id then{l with debt:=Xl c.real}else l).debt=some d:=hd;rw[if_pos (ki.trans B)]at ab;have u:Xl c.real=some d:=ab;unfold Xl at u;split at u;·cases u
     .obtain rfl:=Zs u;cases aa
  .cases R:s.leaf i with
   |none=>simp
   |some l=> have ki:=(h.at R).2.1;rw[Zn,if_neg (by rw[ki];exact B)]
theorem Ng{i:Int}(d:s.aP i=0):¬0<s.many i/\s.tree.aP i=0:=by
 unfold Qf.aP at d;unfold Qm.aP;split at d;·cases d
 .rename_i k;split at d;·cases d
  .rename_i q;split at d;·cases d
   .rename_i u;refine⟨u,?_⟩;cases z:s.tree.at i with
    |none=>rw[z]at k;exact absurd rfl k
    |some c=> dsimp only;rw[if_neg q]
theorem Vl.drop(h:Vl N s){i:Int}(h0:s.aP i=0):Vl N (s.drop i):=by
 obtain⟨hm,B⟩:=Ng h0;have ha:=h.asleep hm;obtain⟨x,q,hx,i1,hu,hq,ag,hk,mt,dd⟩:=h.mt.drop h.tree h.pick B ha;have E:=We B;have K:=h.tree.drop B;have aa:=Iz i1 hx hu ha hq;have J:=h.pick.drop h.pinv i1 hx hu ha hq hk;have ae:Qs (Xk (s.tree.drop i)) N (s.pick.drop i):=J.redep (Kr (K.zero (by decide))) (λy z _=>by
  have:=Qe.at_of J.nd z;rw[aa]at this;split at this;·cases this
  .rename_i e;exact dd _ e)
 obtain⟨pv,af⟩:=h.pinv.drop h.pick i1 hx hu ha hq hk;have e:s.drop i={s with tree:=s.tree.drop i,pick:=s.pick.drop i,aI:=Kp Qw.id i s.aI}:=by unfold Qf.drop;rw[if_pos h0];rfl
 rw[e];have c:∀j,Hn Qw.id j (Kp Qw.id i s.aI)=if j=i then none else s.leaf j:=λj=>Qgi i j;have I:∀l,l∈Kp Qw.id i s.aI->l∈s.aI/\l.id≠i:=λl u=>by have:=List.mem_filter.1 u;exact⟨this.1,by simpa using this.2⟩
 refine⟨h.most,K,ae,pv,mt,h.nd.sublist (List.filter_sublist.map _),λj y z ac=>?_,λl u=>?_,λa j b=>?_⟩
 .dsimp only at z;rw[E]at z;split at z;·cases z
  .rename_i R;obtain⟨l,u⟩:=h.lv j y z ac;exact⟨l,by show Hn Qw.id j _=_;rw[c,if_neg R];exact u⟩
 .obtain⟨V,Z⟩:=I l u;have k:=h.ok l V;obtain⟨y,z,k2⟩:=k.sp;exact⟨⟨y,by show(s.tree.drop i).at l.id=_;rw[E,if_neg Z];exact z,by show _/\_/\_/\_/\(s.pick.drop i).aL l.id=_;rw[af];exact k2⟩,k.many,k.held,k.good,k.debt⟩
 .dsimp only;rw[h.row,c];have el:Hn Qw.id j s.aI=s.leaf j:=rfl;rw[el];split;·rename_i R;refine⟨λ⟨l,d,u,hd,U,_⟩=>?_,λ⟨l,d,u,_⟩=>(by cases u)⟩;exfalso;obtain⟨k,ki,_⟩:=h.at u;have ab:l.q=[]:=h.idle (by rw[<-R];exact u) hm;have:=(k.debt d hd).2.2;rw[U,ab]at this;simp at this
  .exact Iff.rfl
theorem If{c:List Xu}{i:Int}{d:Ju}{a:Nat}{j:Int}{b:Nat}:(a,j,b)∈Hj c i d↔if j=i then d.aL=true/\a=d.elig/\b=d.due else(a,j,b)∈c:=by unfold Hj Vf Xa;grind [Lb]
theorem Vl.upd(h:Vl N s)(U:N<=M){i:Int}{l l':Qw}{row':List Xu}{p':Qe}(hl:s.leaf i=some l)(q:l'.id=i)(ag:l'.pk=l.pk)(aa:l'.bt=l.bt)(ab:l'.debt.isSome=l.debt.isSome)
  (h1:l'.q.length<=l'.pk)(h2:Jn l'.q<=l'.bt)(h3:∀x∈l'.q,Ll x/\x.cls=i)(h4:∀d,l'.debt=some d->d.got<=Xw/\d.run.l.length<=M/\d.aL=decide (l'.q≠[]))
  (ae:Qs (Xk s.tree) M p') (af:Uz p') (ac:Vp s.tree p') (Z:∀j x,s.pick.at j=some x->x.leaf=true->j≠i->p'.aL j=s.pick.aL j)
  (V:∀c,s.tree.at i=some c->p'.aL i=(c.sp.aJ&&decide (l'.q≠[])))
  (E:∀a j b,(a,j,b)∈row'↔if j=i then∃d,l'.debt=some d/\d.aL=true/\a=d.elig/\b=d.due else(a,j,b)∈s.row):
  Vl M {s with aI:=Lg Qw.id l' s.aI,row:=row',pick:=p'}:=by
 have u:∀j,Hn Qw.id j (Lg Qw.id l' s.aI)=if j=i then some l' else s.leaf j:=λj=>by have:=Qeo (key:=Qw.id) (x:=l') (y:=l) (l:=s.aI) (by rw[q];exact hl) j;rw[this,q];rfl
 obtain⟨k,ki,_⟩:=h.at hl;obtain⟨c,hc,c1,c2,c3,c4,c5⟩:=k.sp;rw[ki]at hc;refine⟨h.most,h.tree,ae,af,ac,by show(List.map Qw.id (Lg Qw.id l' s.aI)).Nodup;rw[Qqa];exact h.nd,λj y I ah=>?_,λy I=>?_,λa j b=>?_⟩
 .by_cases e:j=i;·exact⟨l',by show Hn Qw.id j _=_;rw[u,if_pos e]⟩
  .obtain⟨z,R⟩:=h.lv j y I ah;exact⟨z,by show Hn Qw.id j _=_;rw[u,if_neg e];exact R⟩
 .rcases Qao (x:=l) h.nd I with rfl|⟨I,B⟩;·refine⟨⟨c,by show s.tree.at y.id=_;rw[q];exact hc,c1,by rw[ag];exact c2,by rw[aa];exact c3,ab.trans c4,by show p'.aL y.id=_;rw[q];exact V c hc⟩,h1,h2,λx K=>⟨(h3 x K).1,(h3 x K).2.trans q.symm⟩,h4⟩
  .have J:=(h.ok y I).more U;rw[q]at B;obtain⟨z,R,z1,z2⟩:=J.sp;obtain⟨x,K,_,e2,_⟩:=h.mt.fwd h.tree R;exact⟨⟨z,R,z1,by show _/\_/\_/\p'.aL y.id=_;rw[Z y.id x K (e2.trans z1) B];exact z2⟩,J.many,J.held,J.good,J.debt⟩
 .show(a,j,b)∈row'↔_;rw[E];show _↔∃l d,Hn Qw.id j (Lg Qw.id l' s.aI)=some l/\_;rw[u];by_cases e:j=i;·rw[if_pos e,if_pos e];exact⟨λ⟨d,h⟩=>⟨l',d,rfl,h⟩,λ⟨l0,d,e0,h⟩=>by obtain rfl:=Zs e0;exact⟨d,h⟩⟩
  .rw[if_neg e,if_neg e];exact h.row a j b
end
section
variable{N M:Nat}{s:Qf}
theorem Qjb(l:List Jr)(p:Jr):Jn (l++[p])=Jn l+p.len:=by rw[Tk];simp[Jn]
theorem Qlk{n c:Int}(h:Eo n c=0):1<=n/\n<=c/\c<=65535:=by grind [Eo]
theorem Mk{p:Jr}(d:s.aQ p=0):∃c l,s.tree.at p.cls=some c/\c.sp.leaf=true/\(1<=p.len/\p.len<=s.most/\s.most<=65535)/\s.leaf p.cls=some l/\¬(l.q.length=l.pk\/(l.bt:Int)-Jn l.q<p.len):=by
 unfold Qf.aQ at d;cases q:s.tree.at p.cls with
 |none=>rw[q]at d;cases d
 |some c=>
  rw[q]at d;dsimp only at d;split at d;·cases d
  .rename_i z;split at d;·rename_i k;exact absurd d k
   .rename_i k;cases u:s.leaf p.cls with
    |none=>rw[u]at d;cases d
    |some l=>
     rw[u]at d;dsimp only at d;split at d;·cases d
     .rename_i B;exact⟨c,l,rfl,by simpa using z,Qlk (by simpa using k),rfl,B⟩
theorem Qmg(l:Qw):s.aR l={s with aI:=Lg Qw.id l s.aI}:=rfl
theorem Rm(l:Qw)(f:Ju->Ju):s.owe l f={s with aI:=Lg Qw.id {l with debt:=l.debt.map f} s.aI,row:=match l.debt with
  |none=>s.row
  |some d=>Hj s.row l.id (f d)}:=by
 obtain⟨i,k,c,q,debt⟩:=l;unfold Qf.owe;cases debt with
 |none=>rfl
 |some d=>rfl
theorem Ct{p:Jr}{now:Nat}{l:Qw}(c:s.aQ p=0)(k:s.leaf p.cls=some l):
  s.push p now=if l.q≠[]then s.aR {l with q:=l.q++[p]}else{s.owe {l with q:=l.q++[p]} (λd=>d.wake now p.len)with pick:=s.pick.wake p.cls now}:=by unfold Qf.push;grind [Rm]
theorem Vl.offpath(h:Vl N s){i j:Int}{x:Qx}(B:s.pick.at j=some x)(z:x.leaf=true)(k:j≠i):j∉s.pick.path 9 i:=λu=>by obtain⟨c,q,d⟩:=Mi h.pick h.pinv.inn u k;rw[B]at q;obtain rfl:=Zs q;rw[z]at d;cases d
theorem Qgq{a b:Bool}(h:a=true↔b=true):a=b:=by cases a<;>cases b<;>simp_all
theorem Vl.push(h:Vl N s){p:Jr}(now:Nat)(h0:s.aQ p=0):Vl (N+16) (s.push p now):=by
 obtain⟨c,l,V,af,Z,J,aj⟩:=Mk h0;obtain⟨k,ki,_⟩:=h.at J;obtain⟨c',I,_,c2,c3,c4,c5⟩:=k.sp;rw[ki]at I c5;rw[V]at I;obtain rfl:=Zs I;have ai:=k.many;have ah:=k.held;have h1:(l.q++[p]).length<=l.pk:=by simp;omega
 have h2:Jn (l.q++[p])<=l.bt:=by rw[Qjb];omega
 have h3:∀x∈l.q++[p],Ll x/\x.cls=p.cls:=λx B=>by
  rcases Zl.1 B with B|B;·have:=k.good x B;exact⟨this.1,this.2.trans ki⟩
  .obtain rfl:x=p:=by simpa using B
   exact⟨⟨Z.1,by omega⟩,rfl⟩
 rw[Ct h0 J];by_cases hq:l.q=[]
 .rw[if_neg (by simpa using hq),Rm];have aa:=h.pick.wake p.cls now;obtain⟨pv,pm,ae⟩:=h.pinv.wake h.pick p.cls now;have am:=h.tree.pos V;obtain⟨x,B,_,x2,x3,_⟩:=h.mt.fwd h.tree V;refine Vl.upd (l:=l) (l':={l with q:=l.q++[p],debt:=l.debt.map λd=>d.wake now p.len}) h (by omega) J ki rfl rfl (by simp) h1 h2 h3 (λd z=>?_) aa.1 pv (h.mt.same aa.2 pm) (λj y E ak hj=>?_) (λy E=>?_) (λa j b=>?_)
  .dsimp only at z;cases Eu:l.debt with
   |none=>rw[Eu]at z;cases z
   |some d0=>
    rw[Eu]at z;have ag:d0.wake now p.len=d:=Zs z;subst ag;obtain⟨g1,g2,R⟩:=k.debt d0 Eu;rw[hq]at R;have R:d0.aL=false:=by simpa using R
    unfold Ju.wake;rw[if_neg (by simp[R])];refine⟨g1,?_,by simp⟩;dsimp only;rw[Gj];omega
  .refine Qgq ((ae j).trans ⟨λU=>U.elim id λhh=>absurd hh.1 ?_,.inl⟩);exact h.offpath E ak hj
  .rw[V]at E;obtain rfl:=Zs E;have e0:s.pick.aL p.cls=false:=by rw[c5,hq];simp
   have:decide (l.q++[p]≠[])=true:=by simp
   dsimp only;rw[this,Bool.and_true];refine Qgq ((ae p.cls).trans ⟨λU=>?_,λhs=>.inr ⟨Sv B (by omega),⟨x,B,x3.trans hs⟩,x,B,by omega,x2.trans af,x3.trans hs⟩⟩);rcases U with U|⟨_,⟨y,E,al⟩,_⟩;·rw[e0]at U;cases U
   .rw[B]at E;obtain rfl:=Zs E;exact x3.symm.trans al
  .dsimp only;cases Eu:l.debt with
   |none=>
    dsimp only;rw[h.row];by_cases e:j=p.cls;·rw[if_pos e,e];refine⟨λ⟨l0,d,K,z,_⟩=>?_,λ⟨d,z,_⟩=>(by cases z)⟩;have u:s.leaf p.cls=some l0:=K;rw[J]at u;obtain rfl:=Zs u;rw[Eu]at z;cases z
    .rw[if_neg e]
   |some d0=>
    dsimp only;rw[If];rw[ki];by_cases e:j=p.cls;·rw[if_pos e,if_pos e];simp
    .rw[if_neg e,if_neg e]
 .rw[if_pos (by simpa using hq),Qmg];have ab:decide (l.q++[p]≠[])=true:=by simp
  have ac:decide (l.q≠[])=true:=by simpa using hq
  refine Vl.upd (l:=l) (l':={l with q:=l.q++[p]}) (row':=s.row) (p':=s.pick) h (by omega) J ki rfl rfl rfl h1 h2 h3 (λd z=>?_) (h.pick.more (by omega)) h.pinv h.mt (λ_ _ _ _ _=>rfl) (λy E=>?_) (λa j b=>?_);·obtain⟨g1,g2,R⟩:=k.debt d z;exact⟨g1,by omega,by dsimp only;rw[R,ab,ac]⟩
  .rw[V]at E;obtain rfl:=Zs E;dsimp only;rw[c5,ab,ac]
  .rw[h.row];by_cases e:j=p.cls;·rw[if_pos e,e];refine⟨λ⟨l0,d,K,z⟩=>?_,λ⟨d,z⟩=>⟨l,d,J,z⟩⟩;have u:s.leaf p.cls=some l0:=K;rw[J]at u;obtain rfl:=Zs u;exact⟨d,z⟩
   .rw[if_neg e]
theorem Qax{p:Qe}{dep:Int->Nat}(K:Qs dep N p)(B:Uz p)(now:Nat):∀(n:Nat)(i j:Int),p.next now n i=some j->(∃c,p.at j=some c/\c.leaf=true)/\(j=i\/p.aL j=true)
 |0,i,j,h=>by rw[Qe.next]at h;cases h
 |n+1,i,j,h=>by
  rw[Qe.next]at h;cases d:p.at i with
  |none=>rw[d]at h;cases h
  |some c=>
   rw[d]at h;dsimp only at h;by_cases z:c.leaf=true;·rw[if_pos z]at h;obtain rfl:=Zs h;exact⟨⟨c,d,z⟩,.inl rfl⟩
   .rw[if_neg z]at h;cases u:Xf now c.tree with
    |none=>rw[u]at h;cases h
    |some e=>
     rw[u]at h;dsimp only at h;obtain⟨a,k,b⟩:=e;have J:(a,k,b)∈c.tree:=List.mem_of_find?_eq_some u;have I:=((B.ent k i c d a b).1 J).2.1;obtain⟨E,q⟩:=Qax K B now n k j h;refine⟨E,.inr ?_⟩;rcases q with rfl|q;·exact I
     .exact q
theorem Sq{l:List Xu}{x:Nat×Int}(h:low l=some x):∃a,(a,x.2,x.1)∈l:=by obtain⟨⟨a,i,b⟩,c,e⟩:=Qe9 h;exact⟨a,by rw[e];exact c⟩
theorem Vl.who(h:Vl N s){now:Nat}{id:Int}{k:Nat}(q:s.who now=some (id,k)):
  ∃l,s.leaf id=some l/\l.q≠[]/\(k=1\/k=2):=by
 unfold Qf.who at q;cases ha:Jt now s.row with
 |some x=>
  rw[ha]at q;obtain⟨B,E⟩:=Prod.mk.inj (Zs q);unfold Jt at ha;obtain⟨a,hm⟩:=Sq ha;obtain⟨l,d,U,hd,R,_⟩:=(h.row a x.2 x.1).1 (List.mem_filter.1 hm).1;have z:s.leaf id=some l:=by rw[<-B];exact U
  refine⟨l,z,?_,.inl E.symm⟩;have:=((h.at z).1.debt d hd).2.2;rw[R]at this;exact of_decide_eq_true this.symm
 |none=>
  rw[ha]at q;dsimp only at q;cases V:s.pick.next now 10 0 with
  |none=>rw[V]at q;cases q
  |some j=>
   rw[V]at q;obtain⟨B,E⟩:=Prod.mk.inj (Zs q);obtain⟨⟨c,K,u⟩,I⟩:=Qax h.pick h.pinv now 10 0 j V;have J:s.pick.aL j=true:=by
    rcases I with rfl|I;·obtain⟨r,hr,Z,_⟩:=h.mt.root;rw[hr]at K;obtain rfl:=Zs K;rw[Z]at u;cases u
    .exact I
   obtain⟨_,l,_,_,U,hq⟩:=h.busy K u J;exact⟨l,by rw[<-B];exact U,hq,.inr E.symm⟩
theorem Fd{id:Int}{rule:Nat}{l:Qw}(c:s.leaf id=some l):
  s.take id rule={s.owe {l with q:=l.q.tail} (λd=>d.serve rule (l.q.headD Jr.zero).len (l.q.tail.headD Jr.zero).len)with pick:=s.pick.sent id ((l.q.headD Jr.zero).len*256).toNat (decide (l.q.tail≠[]))}:=by
 unfold Qf.take;rw[c];dsimp only;rw[Rm]
theorem Vl.take(h:Vl N s){id:Int}(rule:Nat){l:Qw}(hl:s.leaf id=some l)(hq:l.q≠[]):Vl (N+16) (s.take id rule):=by
 obtain⟨k,ki,_⟩:=h.at hl;obtain⟨c,hc,ac,c2,c3,c4,c5⟩:=k.sp;rw[ki]at hc c5;rw[Fd hl,Rm];obtain⟨x,t,E⟩:∃x t,l.q=x::t:=by
  cases ag:l.q with
  |nil=>exact absurd ag hq
  |cons x t=>exact⟨x,t,rfl⟩
 have u:=k.good;rw[E]at u;have K:=k.many;have J:=k.held;rw[E]at K J;simp only[Zm,Jn]at K J;have aj:=(u x (by simp)).1.1;have aa:=h.pick.sent id ((l.q.headD Jr.zero).len*256).toNat (decide (l.q.tail≠[]));obtain⟨pv,pm,ai,B,Z⟩:=h.pinv.sent h.pick id ((l.q.headD Jr.zero).len*256).toNat (decide (l.q.tail≠[]));have ab:decide (l.q≠[])=true:=by simpa using hq
 have U:∀I,l.debt=some I->(I.serve rule (l.q.headD Jr.zero).len (l.q.tail.headD Jr.zero).len).got<=Xw/\(I.serve rule (l.q.headD Jr.zero).len (l.q.tail.headD Jr.zero).len).run.l.length<=N+16/\(I.serve rule (l.q.headD Jr.zero).len (l.q.tail.headD Jr.zero).len).aL=decide (l.q.tail≠[]):=λI Eu=>by
  obtain⟨g1,g2,g3⟩:=k.debt I Eu;rw[ab]at g3;unfold Ju.serve;rw[if_neg (by simp[g3])];refine⟨?_,by show I.run.l.length<=_;omega,?_⟩
  .dsimp only;split;·exact Nat.min_le_right _ _
   .exact g1
  .show decide (1<=(l.q.tail.headD Jr.zero).len)=_;rw[E];cases t with
   |nil=>rfl
   |cons y t=> have:=(u y (by simp)).1.1;simp[this]
 refine Vl.upd (l:=l) (l':={l with q:=l.q.tail,debt:=l.debt.map λd=>d.serve rule (l.q.headD Jr.zero).len (l.q.tail.headD Jr.zero).len}) h (by omega) hl ki rfl rfl (by simp) (by simp[E];omega) (by simp[E];omega)
  (λy hy=>by
   have:=k.good y (by rw[E]at hy|-;exact Zr _ hy);exact⟨this.1,this.2.trans ki⟩) (λd R=>?_) aa.1 pv (h.mt.same aa.2 pm) (λj y hy ah hj=>B j (.inl (h.offpath hy ah hj))) (λy hy=>?_) (λa j b=>?_)
 .dsimp only at R;cases Eu:l.debt with
  |none=>rw[Eu]at R;cases R
  |some I=> rw[Eu]at R;have ae:I.serve rule (l.q.headD Jr.zero).len (l.q.tail.headD Jr.zero).len=d:=Zs R;subst ae;exact U I Eu
 .rw[hc]at hy;obtain rfl:=Zs hy;obtain⟨z,hz,_,z2,_⟩:=h.mt.fwd h.tree hc;dsimp only;cases ht:decide (l.q.tail≠[])with
  |true=> rw[ht]at B;rw[B id (.inr (.inl rfl)),c5,ab]
  |false=> rw[ht]at Z;rw[Z rfl ⟨z,hz,z2.trans ac⟩,Bool.and_false]
 .dsimp only;cases Eu:l.debt with
  |none=>
   dsimp only;rw[h.row];by_cases e:j=id;·rw[if_pos e,e];refine⟨λ⟨l0,d,af,R,_⟩=>?_,λ⟨d,R,_⟩=>(by cases R)⟩;have V:s.leaf id=some l0:=af;rw[hl]at V;obtain rfl:=Zs V;rw[Eu]at R;cases R
   .rw[if_neg e]
  |some I=>
   dsimp only;rw[If];rw[ki];by_cases e:j=id;·rw[if_pos e,if_pos e];simp
   .rw[if_neg e,if_neg e]
end
def RT(p:Qe):Prop:=∀c∈p,Xd c.tree
section
variable{p:Qe}
theorem Ie{id:Int}{l:List Xu}(h:Xd l):Xd (Xa id l):=h.sublist List.filter_sublist
theorem RT.at(h:RT p){i:Int}{c:Qx}(d:p.at i=some c):Xd c.tree:=h c (Qe.aE d).1
theorem RT.set(h:RT p){x:Qx}(k:Xd x.tree):RT (p.set x):=λc d=>by
 rcases mem_set d with rfl|⟨d,_⟩;·exact k
 .exact h c d
theorem RT.fam(h:RT p)(i:Int)(f:Jc->Jc):RT (p.fam i f):=by
 unfold Qe.fam;split;·exact h
 .split;·exact h
  .rename_i q c;exact h.set (show Xd q.tree from h.at c)
theorem RT.note(h:RT p)(i:Int):RT (p.note i):=by
 unfold Qe.note;split;·exact h
 .split;·exact h
  .rename_i q c;refine h.set ?_;dsimp only;split;·exact Th (show Xd q.tree from h.at c)
   .exact Ie (show Xd q.tree from h.at c)
theorem RT.up1(h:RT p)(now:Nat)(i:Int):RT (p.up1 now i):=by
 unfold Qe.up1;split;·exact h
 .rename_i c d;split;·exact h
  .exact(h.fam i _).set (show Xd c.tree from h.at d)
theorem RT.aV(h:RT p)(g:Nat)(i:Int):RT (p.aV g i):=by
 unfold Qe.aV;split;·exact h
 .rename_i c d;exact(h.set (x:={c with total:=c.total+min g (Xw-c.total)}) (show Xd c.tree from h.at d)).fam i _
theorem RT.aW(h:RT p)(sl:Bool)(i:Int):RT (p.aW sl i):=by
 unfold Qe.aW;split;·exact h
 .split;·exact(h.fam i _).note i
  .exact h.note i
theorem RT.fold{c:Qe->Int->Qe}(d:∀p i,RT p->RT (c p i)):∀(l:List Int)(p:Qe),RT p->RT (l.foldl c p)
 |[],_,h=>h
 |i::l,p,h=>RT.fold d l _ (d p i h)
theorem RT.wake(h:RT p)(i:Int)(now:Nat):RT (p.wake i now):=by unfold Qe.wake;grind [RT.fold,Qs.note,RT.note,Qs.up1,RT.up1]
theorem RT.sent(h:RT p)(i:Int)(g:Nat)(c:Bool):RT (p.sent i g c):=by unfold Qe.sent;grind [RT.fold,Qs.aW,RT.aW,Qs.aV,RT.aV]
theorem RT.put(h:RT p)(s:Yk):RT (p.put s):=by
 unfold Qe.put;split;·exact h
 .rename_i q k;split;·exact h
  .refine RT.set (λc d=>?_) (show Xd q.tree from h.at k);rcases Zl.1 d with d|d;·exact h c d
   .obtain rfl:=List.mem_singleton.1 d;exact List.Pairwise.nil
theorem RT.drop(h:RT p)(i:Int):RT (p.drop i):=by
 unfold Qe.drop;split;·exact h
 .split;·exact h
  .split;·exact h
   .rename_i q k;exact λc d=>(h.set (x:={q with mem:=q.mem.drop i,aM:=q.aM-1}) (show Xd q.tree from h.at k)) c (List.mem_filter.1 d).1
theorem RT.aK(h:RT p)(s:Yk):RT (p.aK s):=by
 unfold Qe.aK;split;·exact h
 .split;·exact h
  .intro c d;obtain⟨x,k,rfl⟩:=Z3.1 d;have:=(h.fam s.id λf=>if s.aJ then(f.drop s.id).add s.id s.share else f.drop s.id) x k;split;·exact this
   .exact this
theorem RT.new:RT Qe.new:=λc d=>by obtain rfl:=List.mem_singleton.1 d;exact List.Pairwise.nil
end
structure SR(s:Qf):Prop where
 row:Xd s.row
 pick:RT s.pick
 due:∀l∈s.aI,∀d,l.debt=some d->d.elig<=Qq/\d.due<=Qq
theorem Qm5(r:Xh)(y:Nat):r.elig y<=Qq:=by unfold Xh.elig;grind [Pb]
theorem Az{c:Jy}{d:Ju}(h:Xl c=some d):d.elig<=Qq/\d.due<=Qq:=by
 unfold Xl at h;split at h;·cases h
 .obtain rfl:=Zs h;exact⟨Nat.zero_le _,Nat.zero_le _⟩
theorem Qs3{d:Ju}(h:d.elig<=Qq/\d.due<=Qq)(now:Nat)(c:Int):(d.wake now c).elig<=Qq/\(d.wake now c).due<=Qq:=by unfold Ju.wake;grind [Qm5,reach_le]
theorem Qp8{d:Ju}(h:d.elig<=Qq/\d.due<=Qq)(c:Nat)(k q:Int):(d.serve c k q).elig<=Qq/\(d.serve c k q).due<=Qq:=by unfold Ju.serve;grind [reach_le,Qm5]
section
variable{s:Qf}
theorem SR.new(c:Int):SR (.new c):=⟨List.Pairwise.nil,RT.new,nofun⟩
theorem SR.add(h:SR s)(c:Yk):SR (s.add c):=by
 unfold Qf.add;split
 .refine⟨h.row,h.pick.put c,λl k d q=>?_⟩;dsimp only at k;split at k
  .rcases Zl.1 k with k|k;·exact h.due l k d q
   .obtain rfl:=List.mem_singleton.1 k;exact Az q
  .exact h.due l k d q
 .exact h
theorem SR.change(h:SR s)(c:Yk):SR (s.change c):=by
 unfold Qf.change;split
 .refine⟨h.row,h.pick.aK c,λl q d k=>?_⟩;obtain⟨x,u,rfl⟩:=Z3.1 q;split at k;·exact Az k
  .exact h.due x u d k
 .exact h
theorem SR.drop(h:SR s)(i:Int):SR (s.drop i):=by
 unfold Qf.drop;split;·exact⟨h.row,h.pick.drop i,λl c=>h.due l (List.mem_filter.1 c).1⟩
 .exact h
theorem Qiu{c:List Xu}(h:Xd c)(i:Int)(d:Ju):Xd (Hj c i d):=by
 unfold Hj;split;·exact Th h
 .exact Ie h
theorem SR.aR(h:SR s){l:Qw}(k:∀d,l.debt=some d->d.elig<=Qq/\d.due<=Qq):SR (s.aR l):=by
 refine⟨h.row,h.pick,λy u d c=>?_⟩;obtain⟨x,q,rfl⟩:=Z3.1 u;split at c;·exact k d c
 .exact h.due x q d c
theorem SR.owe(h:SR s)(l:Qw)(f:Ju->Ju)(k:∀d,l.debt=some d->(f d).elig<=Qq/\(f d).due<=Qq):SR (s.owe l f):=by
 unfold Qf.owe;split;·rename_i q;exact h.aR λd c=>by rw[q]at c;cases c
 .rename_i d c;have:=h.aR (l:={l with debt:=some (f d)}) λu e=>by obtain rfl:=Zs e;exact k d c
  exact⟨Qiu h.row _ _,h.pick,this.due⟩
theorem I8{i:Int}{l:Qw}(c:s.leaf i=some l):l∈s.aI:=List.mem_of_find?_eq_some c
theorem SR.push(h:SR s)(p:Jr)(now:Nat):SR (s.push p now):=by
 unfold Qf.push;split
 .split;·exact h
  .rename_i l k;have c:=h.due l (I8 k);dsimp only;split;·exact h.aR c
   .have:=h.owe {l with q:=l.q++[p]} (λd=>d.wake now p.len) λd e=>Qs3 (c d e) _ _;exact⟨this.row,this.pick.wake p.cls now,this.due⟩
 .exact h
theorem SR.take(h:SR s)(i:Int)(rule:Nat):SR (s.take i rule):=by
 unfold Qf.take;split;·exact h
 .rename_i l k;have c:=h.due l (I8 k);have:=h.owe {l with q:=l.q.tail} (λd=>d.serve rule (l.q.headD Jr.zero).len (l.q.tail.headD Jr.zero).len) λd e=>Qp8 (c d e) _ _ _;exact⟨this.row,this.pick.sent i _ _,this.due⟩
end
structure Xp(N:Nat)(s:Qf):Prop extends Vl N s where
 sr:SR s
section
variable{N M:Nat}{s:Qf}
theorem Xp.more(h:Xp N s)(c:N<=M):Xp M s:=⟨h.toVl.more c,h.sr⟩
theorem Xp.new{c:Int}(d:1<=c)(k:c<65536):Xp N (Qf.new c):=⟨Vl.new d k,SR.new c⟩
theorem Xp.add(h:Xp N s){c:Yk}(d:s.aO c=0):Xp N (s.add c):=⟨h.toVl.add d,h.sr.add c⟩
theorem Xp.change(h:Xp N s){c:Yk}(d:s.aG c=0):Xp N (s.change c):=⟨h.toVl.change d,h.sr.change c⟩
theorem Xp.drop(h:Xp N s){i:Int}(c:s.aP i=0):Xp N (s.drop i):=⟨h.toVl.drop c,h.sr.drop i⟩
theorem Xp.push(h:Xp N s){p:Jr}(now:Nat)(c:s.aQ p=0):Xp (N+16) (s.push p now):=⟨h.toVl.push now c,h.sr.push p now⟩
theorem Xp.take(h:Xp N s){id:Int}(rule:Nat){l:Qw}(c:s.leaf id=some l)(d:l.q≠[]):Xp (N+16) (s.take id rule):=⟨h.toVl.take rule c d,h.sr.take id rule⟩
theorem Xp.next(h:Xp N s)(now:Nat):Xp (N+16) (s.next now).2:=by
 unfold Qf.next;cases q:s.who now with
 |none=>exact h.more (by omega)
 |some x=> obtain⟨id,c⟩:=x;obtain⟨l,d,k,_⟩:=h.who q;exact h.take c d k
end
section
variable{N:Nat}{s:Qf}
theorem Qem{c:Yk}(h:s.aO c≠0):s.add c=s:=by unfold Qf.add;rw[if_neg h]
theorem Sj{c:Yk}(h:s.aG c≠0):s.change c=s:=by unfold Qf.change;rw[if_neg h]
theorem I0{i:Int}(h:s.aP i≠0):s.drop i=s:=by unfold Qf.drop;rw[if_neg h]
theorem Qnm{p:Jr}{now:Nat}(h:s.aQ p≠0):s.push p now=s:=by unfold Qf.push;rw[if_neg h]
theorem Qbc{i:Int}(h:s.leaf i=none):s.qOf i=[]:=by unfold Qf.qOf;rw[h];rfl
theorem Xp.leaf_none(h:Xp N s){i:Int}(u:s.tree.at i=none):s.leaf i=none:=by
 cases q:s.leaf i with
 |none=>rfl
 |some l=> obtain⟨k,z,_⟩:=h.at q;obtain⟨c,d,_⟩:=k.sp;rw[z,u]at d;cases d
theorem Xp.leaf_at(h:Xp N s){i:Int}{l:Qw}(u:s.leaf i=some l):∃c,s.tree.at i=some c/\c.sp.leaf=true:=by obtain⟨k,z,_⟩:=h.at u;obtain⟨c,q,d,_⟩:=k.sp;rw[z]at q;exact⟨c,q,d⟩
theorem Qt8(h:Xp N s)(c:Yk)(i:Int):(s.add c).qOf i=s.qOf i:=by
 by_cases d:s.aO c=0
 .have k:s.tree.aO c=0:=d;have q:=h.leaf_none (Ub k).2.2.1;unfold Qf.add;rw[if_pos d];unfold Qf.qOf Qf.leaf;dsimp only;split
  .have:=Ix (key:=Qw.id) (l:=s.aI) ⟨c.id,c.pk.toNat,c.bt.toNat,[],Xl c.real⟩ i;unfold Hn at this;rw[this];cases u:s.aI.find? (λx=>decide (x.id=i))with
   |some x=>rfl
   |none=> dsimp only;split<;>rfl
  .rfl
 .rw[Qem d]
theorem Qbb(c:Yk)(i:Int):(s.change c).qOf i=s.qOf i:=by
 by_cases d:s.aG c=0
 .unfold Qf.change;rw[if_pos d];unfold Qf.qOf Qf.leaf;dsimp only;have:=Qm1 (key:=Qw.id) (l:=s.aI) (f:=λl=>if l.id=c.id then{l with debt:=Xl c.real}else l) (λl=>by split<;>rfl) i;unfold Hn at this;rw[this];cases k:s.aI.find? (λx=>decide (x.id=i))with
  |none=>rfl
  |some x=> simp only[Zn];split<;>rfl
 .rw[Sj d]
theorem Qsf(h:Xp N s)(d i:Int):(s.drop d).qOf i=s.qOf i:=by
 by_cases c:s.aP d=0
 .obtain⟨q,_⟩:=Ng c;unfold Qf.drop;rw[if_pos c];unfold Qf.qOf Qf.leaf;dsimp only;have:=Qgi (key:=Qw.id) (l:=s.aI) d i;unfold Hn Kp at this;rw[this];split
  .rename_i e;cases u:s.aI.find? (λx=>decide (x.id=i))with
   |none=>rfl
   |some x=>
    have k:s.leaf d=some x:=by rw[<-e];exact u
    simp[h.idle k q]
  .rfl
 .rw[I0 c]
theorem Qbd{l l':Qw}{row:List Xu}{p:Qe}{i:Int}(d:s.leaf i=some l)(c:l'.id=i)(j:Int):Qf.qOf {s with aI:=Lg Qw.id l' s.aI,row:=row,pick:=p} j=if j=i then l'.q else s.qOf j:=by unfold Qf.qOf Qf.leaf;dsimp only;have:=Qeo (key:=Qw.id) (x:=l') (y:=l) (l:=s.aI) (by rw[c];exact d) j;unfold Hn at this;rw[this,c];split<;>rfl
theorem Qsg(h:Xp N s){p:Jr}(now:Nat)(B:s.aQ p=0)(i:Int):(s.push p now).qOf i=if i=p.cls then s.qOf p.cls++[p]else s.qOf i:=by
 obtain⟨c,l,J,I,E,k,z⟩:=Mk B;have u:=(h.at k).2.1;rw[Ct B k,Ov k];split;·exact Qbd (l:=l) (l':={l with q:=l.q++[p]}) (row:=s.row) (p:=s.pick) k u i
 .rw[Rm];exact Qbd (l:=l) (l':={l with q:=l.q++[p],debt:=l.debt.map λd=>d.wake now p.len}) k u i
theorem Qsh(h:Xp N s){id:Int}(c:Nat){l:Qw}(d:s.leaf id=some l)(i:Int):(s.take id c).qOf i=if i=id then l.q.tail else s.qOf i:=by grind [Qf.leaf,Qf.take,Qf.qOf,Jy.at,Tr.at,Xh.at,Ju.serve,Jr.zero,Fd,Rm,Qbd]
theorem Qhw(i:Int):0<=s.many i:=by
 unfold Qf.many;generalize s.tree.aI i=l;induction l with
 |nil=>simp
 |cons x l c=>rw[List.map_cons,List.sum_cons];omega
def G4(f:Nat->Int):Nat->Int
 |0=>0
 |n+1=>G4 f n+f n
theorem Qj1{f:Nat->Int}:∀{n:Nat},(∀k,k<n->f k=0)->G4 f n=0
 |0,_=>rfl
 |n+1,h=>by rw[G4,Qj1 λk c=>h k (by omega),h n (by omega)];rfl
theorem Pl{f g:Nat->Int}:∀{n:Nat},(∀k,k<n->f k=g k)->G4 f n=G4 g n
 |0,_=>rfl
 |n+1,h=>by rw[G4,G4,Pl λk c=>h k (by omega),h n (by omega)]
theorem Qwc{f g:Nat->Int}:∀n:Nat,G4 (λk=>f k+g k) n=G4 f n+G4 g n
 |0=>rfl
 |n+1=>by rw[G4,G4,G4,Qwc n];omega
theorem Qwd{v:Int}{m:Nat}:∀{n:Nat},m<n->G4 (λk=>if k=m then v else 0) n=v
 |0,h=>by omega
 |n+1,h=>by
  rw[G4];by_cases e:n=m;·rw[Qj1 λk c=>if_neg (by omega),if_pos e];omega
  .rw[Qwd (by omega),if_neg e];omega
theorem Qwt{f:Int->Int}{n:Nat}:∀{l:List Int},l.Pairwise (· < ·)->(∀x∈l,0<=x/\x<n)->(l.map f).sum=G4 (λk=>if(k:Int)∈l then f k else 0) n
 |[],_,_=>by rw[Qj1 λk _=>by simp];rfl
 |x::l,hp,hb=>by
  obtain⟨B,E⟩:=List.pairwise_cons.1 hp;have I:=hb x List.mem_cons_self;rw[List.map_cons,List.sum_cons,Qwt E λy z=>hb y (Zr _ z)];have e:(λk:Nat=>if(k:Int)∈x::l then f k else 0)=λk:Nat=>(if k=x.toNat then f x else 0)+(if(k:Int)∈l then f k else 0):=funext λk=>by
   by_cases u:k=x.toNat
   .have c:(k:Int)=x:=by omega
    have q:x∉l:=λh=>by have:=B x h;omega
    rw[c,if_pos List.mem_cons_self,if_pos u,if_neg q];omega
   .have c:(k:Int)≠x:=by omega
    rw[if_neg u];by_cases d:(k:Int)∈l;·rw[if_pos d,if_pos (Zr _ d)];omega
    .rw[if_neg d,if_neg (λh=>(Zu.1 h).elim c d)];omega
  rw[e,Qwc,Qwd (by omega)]
theorem G8(h:Xp N s){x:Int}:x∈s.tree.aI 0↔∃l,s.leaf x=some l:=by
 rw[Y8];constructor;·rintro⟨c,d,rfl,q,_⟩;exact h.lv _ c (Da h.tree.sorted d) q
 .rintro⟨l,q⟩;obtain⟨c,d,k⟩:=h.leaf_at q;obtain⟨z,u⟩:=Qm.aE d;exact⟨c,z,u,k,.inl rfl⟩
theorem Qv8(h:Xp N s){n:Nat}(I:∀c∈s.tree,c.sp.id<n):s.many 0=G4 (λk=>((s.qOf k).length:Int)) n/\s.bytes 0=G4 (λk=>Jn (s.qOf k)) n:=by
 have E:=Ut h.tree 0;have q:∀x∈s.tree.aI 0,0<=x/\x<n:=λx J=>by obtain⟨c,z,rfl,_⟩:=Y8.1 J;have:=(Cq (h.tree.may c z)).1;have:=I c z;omega
 have u:∀k:Nat,(k:Int)∉s.tree.aI 0->s.qOf k=[]:=λk d=>by
  cases B:s.leaf (k:Int)with
  |none=>exact Qbc B
  |some l=>exact absurd ((G8 h).2 ⟨l,B⟩) d
 unfold Qf.many Qf.bytes;rw[Qwt (f:=λx=>((s.qOf x).length:Int)) E q,Qwt (f:=λx=>Jn (s.qOf x)) E q];refine⟨Pl λk _=>?_,Pl λk _=>?_⟩
 .by_cases d:(k:Int)∈s.tree.aI 0;·rw[if_pos d]
  .rw[if_neg d,u k d];rfl
 .by_cases d:(k:Int)∈s.tree.aI 0;·rw[if_pos d]
  .rw[if_neg d,u k d];rfl
theorem Qpn(p:Jr)(now:Nat):(s.push p now).tree=s.tree:=by
 unfold Qf.push;split
 .cases c:s.leaf p.cls with
  |none=>rfl
  |some l=>
   dsimp only;split;·rfl
   .rw[Rm]
 .rfl
theorem Qqk(id:Int)(c:Nat):(s.take id c).tree=s.tree:=by unfold Qf.take;grind [Rm]
end
def quS(b d c:Nat)(q:List Jr):Ya:=λw F=>∃r,Jz w b r d c q/\F b/\F r/\Bd F w
theorem Lm(b J E:Nat)(q:List Jr):Uy (quS b J E q) where
 bd:=λ⟨r,_,_,_,h⟩=>h
 aB:=λ⟨r,h,c,d,k⟩u z=>⟨r,h.aB u (z _ c) (z _ d),c,d,k.later u⟩
 more:=λ⟨r,h,c,d,k⟩B I=>⟨r,h,B _ c,B _ d,I⟩
def Qrs(b d:Nat)(c:Value)(l:Qw):List Ya:=[Tv b #[ptr d,c] 107,quS d l.pk l.bt l.q,λw F=>Kv w F c l.debt]
theorem U5(b k:Nat)(d:Value)(l:Qw):∀P∈Qrs b k d l,Uy P:=by
 intro P c;simp only[Qrs,Zu,List.not_mem_nil,or_false]at c;rcases c with rfl|rfl|rfl;·exact Ks _ _ _
 .exact Lm _ _ _ _
 .exact Kv.good _ _
def Yj(w:World)(F:Fp)(b:Nat)(l:Qw):Prop:=∃d c,Oh (Qrs b d c l) w F
theorem Yj.obj:Hf Yj where
 bd:=λ⟨qb,dv,h⟩=>(Je (U5 _ _ _ _)).bd h
 own:=λ⟨qb,dv,h⟩=>by obtain⟨G,c,d⟩:=J6 (U5 _ _ _ _) 0 rfl h;exact d _ c.2.1
 aB:=λ⟨qb,dv,h⟩q u=>⟨qb,dv,(Je (U5 _ _ _ _)).aB h q u⟩
 more:=λ⟨qb,dv,h⟩z k=>⟨qb,dv,(Je (U5 _ _ _ _)).more h z k⟩
structure Tb where
 tb:Nat
 m:Nat
 rb:Nat
 pb:Nat
 ad:Int->Nat
def Qfq(A:Tb)(s:Qf):Array Value:=#[ZI s.most,ptr A.tb,.map (some A.m),ptr A.rb,ptr A.pb]
def Lw(A:Tb)(b:Nat)(L:List Qw)(s:Qf):List Ya:=
 [Tv b (Qfq A s) 97,λw F=>Q9 w F A.tb s.tree,λw F=>Yn Qw.id Yj w F A.m A.ad L,λw F=>Yq w F A.rb s.row,λw F=>Yr w F A.pb s.pick]
theorem Ua(A:Tb)(b:Nat)(L:List Qw)(s:Qf):∀P∈Lw A b L s,Uy P:=by
 intro P c;simp only[Lw,Zu,List.not_mem_nil,or_false]at c;rcases c with rfl|rfl|rfl|rfl|rfl;·exact Ks _ _ _
 .exact Q9.obj.good _ _
 .exact Sm Yj.obj _ _ _
 .exact Yq.obj.good _ _
 .exact Yr.obj.good _ _
def Qi(A:Tb)(w:World)(F:Fp)(b:Nat)(s:Qf):Prop:=∃L:List Qw,L.Perm s.aI/\Oh (Lw A b L s) w F
theorem Qi.obj(A:Tb):Hf (Qi A) where
 bd:=λ⟨L,_,h⟩=>(Je (Ua A _ L _)).bd h
 own:=λ⟨L,_,h⟩=>by obtain⟨G,d,k⟩:=J6 (Ua A _ L _) 0 rfl h;exact k _ d.2.1
 aB:=λ⟨L,c,h⟩u z=>⟨L,c,(Je (Ua A _ L _)).aB h u z⟩
 more:=λ⟨L,c,h⟩B q=>⟨L,c,(Je (Ua A _ L _)).more h B q⟩
def Qt(w:World)(F:Fp)(b:Nat)(s:Qf):Prop:=∃A,Qi A w F b s
theorem Qt.obj:Hf Qt where
 bd:=λ⟨A,h⟩=>(Qi.obj A).bd h
 own:=λ⟨A,h⟩=>(Qi.obj A).own h
 aB:=λ⟨A,h⟩d k=>⟨A,(Qi.obj A).aB h d k⟩
 more:=λ⟨A,h⟩q c=>⟨A,(Qi.obj A).more h q c⟩
section
variable{A:Tb}{w:World}{F:Fp}{b:Nat}{s:Qf}
theorem Qi.is(h:Qi A w F b s):Qt w F b s:=⟨A,h⟩
theorem Qi.drew(h:Qi A w F b s):Qi A w.drew F b s:=(Qi.obj A).aB h (Zg Qb w).drew (Jl.none F)
theorem Qi.blk(h:Qi A w F b s):Qh w b (Qfq A s) 97:=by obtain⟨L,d,h⟩:=h;obtain⟨G,c,_⟩:=J6 (Ua A b L s) 0 rfl h;exact c.1
theorem Qi.part(h:Qi A w F b s)(i:Nat){R:List Qw->Ya}(E:∀L,(Lw A b L s)[i]? =some (R L)):
  ∃L,L.Perm s.aI/\∃G:Fp,R L w G/\(∀k,G k->F k)/\∀w' d s' Q,d.Perm s'.aI->Lw A b d s'=(Lw A b L s).set i Q->Q w' (Qn G w w')->Qc G w w'->Qi A w' (Qn F w w') b s'/\Qc F w w':=by
 obtain⟨L,I,h⟩:=h;obtain⟨G,z,u,_,B⟩:=Xv i (Ua A b L s) (E L) h;refine⟨L,I,G,z,u,λw' d s' Q q K J c=>⟨⟨d,q,?_⟩,c.sub u⟩⟩;rw[K];exact B w' Q c J
theorem Qi.treeOf(h:Qi A w F b s):∃G:Fp,Q9 w G A.tb s.tree/\(∀k,G k->F k)/\∀w' t,Q9 w' (Qn G w w') A.tb t->Qc G w w'->Qi A w' (Qn F w w') b {s with tree:=t}/\Qc F w w':=by obtain⟨L,z,G,d,q,u⟩:=h.part 1 (R:=λ_ w F=>Q9 w F A.tb s.tree) (λ_=>rfl);exact⟨G,d,q,λw' t B c=>u w' L {s with tree:=t} _ z rfl B c⟩
theorem Qi.rowOf(h:Qi A w F b s):∃G:Fp,Yq w G A.rb s.row/\(∀k,G k->F k)/\∀w' t,Yq w' (Qn G w w') A.rb t->Qc G w w'->Qi A w' (Qn F w w') b {s with row:=t}/\Qc F w w':=by obtain⟨L,z,G,d,q,u⟩:=h.part 3 (R:=λ_ w F=>Yq w F A.rb s.row) (λ_=>rfl);exact⟨G,d,q,λw' t B c=>u w' L {s with row:=t} _ z rfl B c⟩
theorem Qi.pickOf(h:Qi A w F b s):∃G:Fp,Yr w G A.pb s.pick/\(∀k,G k->F k)/\∀w' t,Yr w' (Qn G w w') A.pb t->Qc G w w'->Qi A w' (Qn F w w') b {s with pick:=t}/\Qc F w w':=by obtain⟨L,z,G,d,q,u⟩:=h.part 4 (R:=λ_ w F=>Yr w F A.pb s.pick) (λ_=>rfl);exact⟨G,d,q,λw' t B c=>u w' L {s with pick:=t} _ z rfl B c⟩
theorem Qi.collOf(h:Qi A w F b s):∃L,L.Perm s.aI/\∃G:Fp,Yn Qw.id Yj w G A.m A.ad L/\(∀k,G k->F k)/\
  ∀w' c s',c.Perm s'.aI->s'.most=s.most->s'.tree=s.tree->s'.row=s.row->s'.pick=s.pick->Yn Qw.id Yj w' (Qn G w w') A.m A.ad c->Qc G w w'->Qi A w' (Qn F w w') b s'/\Qc F w w':=by
 obtain⟨L,V,G,I,J,K⟩:=h.part 2 (R:=λL w F=>Yn Qw.id Yj w F A.m A.ad L) (λ_=>rfl);refine⟨L,V,G,I,J,λw' c s' q u z B E U d=>K w' c s' (λw F=>Yn Qw.id Yj w F A.m A.ad c) q ?_ U d⟩;unfold Lw Qfq;rw[u,z,B,E];rfl
theorem So{L:List Qw}(d:L.Perm s.aI)(c:(L.map Qw.id).Nodup)(i:Int):s.leaf i=Hn Qw.id i L:=(Mz d c i).symm
theorem Qi.leafOf(h:Qi A w F b s){i:Int}{l:Qw}(I:s.leaf i=some l):
  ∃G:Fp,Yj w G (A.ad i) l/\(∀k,G k->F k)/\∀w' d,d.id=i->Yj w' (Qn G w w') (A.ad i) d->Qc G w w'->Qi A w' (Qn F w w') b (s.aR d)/\Qc F w w':=by
 obtain⟨L,J,G,E,U,u⟩:=h.collOf;rw[So J E.nodup]at I;obtain⟨V,c⟩:=Y3 I;subst c;obtain⟨K,Z,R,k3⟩:=E.focus Yj.obj V;refine⟨K,Z,λk z=>U k (R k z).1,λw' d c B q=>?_⟩;have:=k3 w' d c B q;exact u w' _ (s.aR d) (J.map _) rfl rfl rfl rfl this (q.sub λk z=>(R k z).1)
def Qad(A:Tb)(s:Qf)(i:Int):Value:=match s.leaf i with
 |none=>.pointer none
 |some _=>ptr (A.ad i)
theorem Qf7(w):(zeroValue 102).run prog w=.ok (.pointer none) w:=by go_simp
theorem Qi.look1(h:Qi A w F b s)(i:Int):(Instr.lookup 93 (.map (some A.m)) (ZI i) false).run prog w=.ok (Qad A s i) w:=by
 obtain⟨L,k,G,c,_,_⟩:=h.collOf;have d:=Du (P:=prog) c.map underlying93 underlying3 (Qf7 w) i;rw[c.look i,<-So k c.nodup]at d;have q:((s.leaf i).map λ_=>ptr (A.ad i)).getD (.pointer none)=Qad A s i:=by unfold Qad;cases s.leaf i<;>rfl
 rw[q]at d;exact d
theorem G7{i:Int}{l:Qw}(c:s.leaf i=some l):Qad A s i=ptr (A.ad i):=by unfold Qad;rw[c]
theorem Qae{i:Int}(c:s.leaf i=none):Qad A s i=.pointer none:=by unfold Qad;rw[c]
theorem Qi.nodup(h:Qi A w F b s):(s.aI.map Qw.id).Nodup:=by obtain⟨L,d,G,c,_⟩:=h.collOf;exact((d.map _).nodup_iff).1 c.nodup
theorem Qi.once(h:Qi A w F b s):∃p G,Qh w A.rb #[ptr p] 185/\Jg w G p s.row:=by obtain⟨G,d,_⟩:=h.rowOf;obtain⟨p,c,q,k,_⟩:=d.ex;exact⟨p,c,q,k⟩
variable{l:Qw}{a:Nat}
theorem Yj.cells(h:Yj w F a l):∃qb dv,Qh w a #[ptr qb,dv] 107/\(∃r,Jz w qb r l.pk l.bt l.q)/\∃G,Kv w G dv l.debt:=by obtain⟨qb,dv,h⟩:=h;obtain⟨u,d,_⟩:=J6 (U5 a qb dv l) 0 rfl h;obtain⟨z,⟨r,k,_⟩,_⟩:=J6 (U5 a qb dv l) 1 rfl h;obtain⟨c,q,_⟩:=J6 (U5 a qb dv l) 2 rfl h;exact⟨qb,dv,d.1,⟨r,k⟩,c,q⟩
theorem Yj.opn(h:Yj w F a l):∃E B,Qh w a #[ptr E,B] 107/\
  (∃G:Fp,quS E l.pk l.bt l.q w G/\(∀k,G k->F k)/\¬G a/\∀w' q',quS E l.pk l.bt q' w' (Qn G w w')->Qc G w w'->Yj w' (Qn F w w') a {l with q:=q'}/\Qc F w w')/\
  (∃G:Fp,Kv w G B l.debt/\(∀k,G k->F k)/\¬G a/\∀w' d',Kv w' (Qn G w w') B d'->Qc G w w'->Yj w' (Qn F w w') a {l with debt:=d'}/\Qc F w w'):=by
 obtain⟨E,B,h⟩:=h;have hh:=h;obtain⟨u,G0,R0,U,⟨ab,I,R1,g1,⟨ac,J,R2,g2,_,_,s4,_⟩,d1,s2,s3⟩,d0,s0,s1⟩:=hh;have n1:¬I a:=λc=>d0 a U.2.1 (s2 _ c);have n2:¬J a:=λc=>d0 a U.2.1 (s3 _ (s4 _ c));have Z:∀k,I k->F k:=λk c=>s1 _ (s2 _ c);have f2:∀k,J k->F k:=λk c=>s1 _ (s3 _ (s4 _ c));have K:Jl I J:=λk c aa=>d1 k c (s4 _ aa);have ga:F a:=s0 _ U.2.1;have R:Bd I w:=u.sub Z;have z:Bd J w:=u.sub f2;refine⟨E,B,U.1,⟨I,g1,Z,n1,λw' q' hq d=>?_⟩,⟨J,g2,f2,n2,λw' d' hd d=>?_⟩⟩
 .have V:=d.sub Z;refine⟨⟨E,B,?_⟩,V⟩;have hB:Qh w' a #[ptr E,B] 107:=d.blk U.1 n1;refine Q7 (G:=λk=>k=a) (H:=λk=>Qn I w w' k\/J k) ⟨hB,rfl,λk e=>e▸hB.lt⟩ ?_ ?_ (λk e=>.inl (e▸ga)) ?_ (u.ext V);·refine Q7 (G:=Qn I w w') (H:=J) hq (Y6 ((Kv.good B l.debt).aB g2 d K.symm) (z.later d)) (Jl.extL K z) (λk c=>.inl c) (λk c=>.inr c) ?_;exact λk c=>c.elim (R.ext d k) (z.later d k)
  .rintro k rfl(c|c);·exact c.elim n1 λc=>by have:=u _ ga;omega
   .exact n2 c
  .exact λk c=>c.elim (Qn.mono Z k) λc=>.inl (f2 k c)
 .have V:=d.sub f2;refine⟨⟨E,B,?_⟩,V⟩;have hB:Qh w' a #[ptr E,B] 107:=d.blk U.1 n2;refine Q7 (G:=λk=>k=a) (H:=λk=>I k\/Qn J w w' k) ⟨hB,rfl,λk e=>e▸hB.lt⟩ ?_ ?_ (λk e=>.inl (e▸ga)) ?_ (u.ext V);·refine Q7 (G:=I) (H:=Qn J w w') ((Lm E l.pk l.bt l.q).aB g1 d K) (Y6 hd (z.ext d)) (Jl.extR K R) (λk c=>.inl c) (λk c=>.inr c) ?_;exact λk c=>c.elim (R.later d k) (z.ext d k)
  .rintro k rfl(c|c);·exact n1 c
   .exact c.elim n2 λc=>by have:=u _ ga;omega
  .exact λk c=>c.elim (λc=>.inl (Z k c)) (Qn.mono f2 k)
end
section
variable{A:Tb}{w:World}{F:Fp}{b:Nat}{s:Qf}
theorem Ku(h:Qi A w F b s)(q:1<=s.most):ZW 41 #[ptr b] w (.bool false) λw'=>w=w':=by
 have k:=Ym h.blk;have d:(s.most==0)=false:=by
  have:s.most≠0:=by omega
  simpa using this
 have c:decide (s.most=0)=false:=by
  have:s.most≠0:=by omega
  simpa using this
 unfold ptr;clear h;apply WH func41;exact WE
theorem Qiz(c:Int)(w)(h:c<1\/65536<=c):ZW 30 #[ZI c] w (.tuple #[.pointer none,ZI 2]) λw'=>Qc Qb w w':=by
 have C:=O (Zg Qb w).drew;by_cases d:c<1
 .have k:decide (c<1)=true:=by simpa using d
  apply WH func30;go_wp2;go_ret2;refine⟨rfl,?_⟩;(exact Z0)
 .have q:65536<=c:=h.resolve_left d;have k:decide (c<1)=false:=by simp;omega
  have u:decide (65536<=c)=true:=by simpa using q
  apply WH func30;go_wp2;go_ret2;refine⟨rfl,?_⟩;(exact Z0)
theorem Qeb(c:Int)(h1:1<=c)(h2:c<65536)(w):Cl 30 #[ZI c] w λe w'=>∃b,e=.returned (.tuple #[ptr b,ZI 0])/\Qt w' (Qn Qb w w') b (Qf.new c)/\Qc Qb w w':=by
 have HN:=O Qos;have EN:=O Qod;have PN:=O Qpk;have ae:=@run_makeMap prog;have d1:decide (c<1)=false:=by simp;omega
 have d2:decide (65536<=c)=false:=by simp;omega
 have aa:Hi (∀w1 w3 d z u q,Qc Qb w w1->Q9 w1 (Qn Qb w w1) z []->Qc Qb (w1.alloc (.map #[] 0)) w3->Yq w3 (Qn Qb (w1.alloc (.map #[] 0)) w3) u []->Qc Qb w3 d->Yr d (Qn Qb w3 d) q Qe.new->
   Qt (d.alloc (.cells #[ZI c,ptr z,.map (some w1.heap.size),ptr u,ptr q] 97)) (Qn Qb w (d.alloc (.cells #[ZI c,ptr z,.map (some w1.heap.size),ptr u,ptr q] 97))) d.heap.size (Qf.new c)/\Qc Qb w (d.alloc (.cells #[ZI c,ptr z,.map (some w1.heap.size),ptr u,ptr q] 97))):=O (by
  intro w1 w3 d z u q J Z I R B V;have c2:Qc Qb w1 (w1.alloc (.map #[] 0)):=(Zg _ _).alloc _;have ac:Xq (w1.alloc (.map #[] 0)) w1.heap.size []:=Xq.new w1;have hz:(w1.alloc (.map #[] 0)).heap.size=w1.heap.size+1:=by simp
  generalize w1.alloc (.map #[] 0)=w2 at*;have K:Qc Qb d (d.alloc (.cells #[ZI c,ptr z,.map (some w1.heap.size),ptr u,ptr q] 97)):=(Zg _ _).alloc _;have hB:Qh (d.alloc (.cells #[ZI c,ptr z,.map (some w1.heap.size),ptr u,ptr q] 97)) d.heap.size #[ZI c,ptr z,.map (some w1.heap.size),ptr u,ptr q] 97:=Qh.new _ _ _;generalize d.alloc (.cells #[ZI c,ptr z,.map (some w1.heap.size),ptr u,ptr q] 97)=E at*;have s1:=J.size;have s3:=I.size;have s4:=B.size;have s5:=hB.lt;refine⟨⟨⟨z,w1.heap.size,u,q,λ_=>0⟩,[],List.Perm.refl _,?_⟩,(((J.aA c2).aA I).aA B).aA K⟩;have t5:Q9 E (Qn Qb w w1) z []:=Q9.obj.aB Z (((c2.aA I).aA B).aA K) (Jl.none _);have m5:Xq E w1.heap.size []:=ac.aB ((I.aA B).aA K) (λh=>h);have e5:Yq E (Qn Qb w2 w3) u []:=Yq.obj.aB R (B.aA K) (Jl.none _);have p5:Yr E (Qn Qb w3 d) q Qe.new:=Yr.obj.aB V K (Jl.none _);have ab:Bd (Qn Qb w E) E:=λk hk=>((Qr k).1 hk).2;have bd:∀{U:Fp},(∀k,U k->w.heap.size<=k/\k<E.heap.size)->Bd U E:=λh k hk=>(h k hk).2;refine Q7 (G:=λk=>k=d.heap.size) (H:=λk=>w.heap.size<=k/\k<d.heap.size) ⟨hB,rfl,λk e=>e▸s5⟩ ?_ (λk e h=>by omega) (λk e=>(Qr k).2 (by omega)) (λk h=>(Qr k).2 (by omega)) ab;refine Q7 (G:=Qn Qb w w1) (H:=λk=>w1.heap.size<=k/\k<d.heap.size) t5 ?_ (λk e h=>by have:=(Qr k).1 e;omega) (λk e=>by have:=(Qr k).1 e;omega) (λk h=>by omega) (bd λk h=>by omega);refine Q7 (G:=λk=>k=w1.heap.size) (H:=λk=>w2.heap.size<=k/\k<d.heap.size) (Yn.new m5 (λk e=>by rw[e];exact m5.lt) rfl) ?_ (λk e h=>by omega) (λk e=>by omega) (λk h=>by omega) (bd λk h=>by omega);refine Q7 (G:=Qn Qb w2 w3) (H:=Qn Qb w3 d) e5 (Y6 p5 (Yr.obj.bd p5)) (λk e h=>by have:=(Qr k).1 e;have:=(Qr k).1 h;omega) (λk e=>by have:=(Qr k).1 e;omega) (λk h=>by have:=(Qr k).1 h;omega) (bd λk h=>by omega))
 apply WH func30;go_wp2_with fail;refine(HN.o _).mono ?_;rintro e w1⟨z,rfl,Z,J⟩;have T1:=O (Zt J Z);clear J Z;go_wp2_with fail;refine(EN.o _).mono ?_;rintro e w3⟨u,rfl,R,I⟩;have T3:=O (Zt I R);clear I R;go_wp2_with fail;refine(PN.o _).mono ?_;rintro e d⟨q,rfl,V,B⟩;have FF:=O (aa.o w1 w3 d z u q T1.o.1 T1.o.2 T3.o.1 T3.o.2 B V);clear B V;exact WG FF
end
theorem Qjd{f:Int->Int}{l:List Int}{k:Nat}{x:Int}(c:l[k]? =some x):((l.take (k+1)).map f).sum=((l.take k).map f).sum+f x:=by rw[List.take_add_one,c];simp
theorem Qmn{f:Int->Int}{B:Int}:∀{l:List Int},(∀x∈l,0<=f x/\f x<=B)->0<=(l.map f).sum/\(l.map f).sum<=l.length*B
 |[],_=>by simp
 |x::l,h=>by
  have d:=h x (by simp);have k:=Qmn (l:=l) (λy c=>h y (by simp[c]));rw[List.map_cons,List.sum_cons,Zm];have:((l.length+1:Nat):Int)*B=(l.length:Int)*B+B:=by rw[Int.natCast_add,Int.add_mul];simp
  omega
section
variable{A:Tb}{w:World}{F:Fp}{b:Nat}{s:Qf}{N:Nat}
theorem Qi.leafQ(h:Qi A w F b s){i:Int}{l:Qw}(d:s.leaf i=some l):∃qb dv,Qh w (A.ad i) #[ptr qb,dv] 107/\(∃r,Jz w qb r l.pk l.bt l.q)/\∃G,Kv w G dv l.debt:=by obtain⟨G,c,_⟩:=h.leafOf d;exact c.cells
theorem Qi.bounds(h:Qi A w F b s)(i:Int):(0<=((s.qOf i).length:Int)/\((s.qOf i).length:Int)<=4096)/\0<=Jn (s.qOf i)/\Jn (s.qOf i)<=16777216:=by
 cases d:s.leaf i with
 |none=>rw[Qbc d];exact⟨⟨by simp,by simp⟩,by simp[Jn],by simp[Jn]⟩
 |some l=> rw[Ov d];obtain⟨I,q,_,⟨r,c⟩,_⟩:=h.leafQ d;have u:=c.many;have z:=c.pk2;have B:=c.held;have E:=c.bt2;have k:=Hd _ c.good;exact⟨⟨by omega,by omega⟩,k,by omega⟩
theorem Dn(h:Qi A w F b s)(J:Xp N s)(id:Int):ZW 20 #[ptr b,ZI id] w (.tuple #[ZI (s.many id),ZI (s.bytes id)]) λw'=>Qc Qb w w':=by
 have K:=O (λw'(c:Qc Qb w w')=>(Qi.obj A).aB h c (Jl.none F));have HN:=O (Ku h J.most.1);have a0:=Ym h.blk;obtain⟨Gt,ht,_⟩:=h.treeOf;have ag:=O (Ot J.tree 9 ht id (by omega));have BD:=O h.bounds;have R:Hi ((s.tree.aI id).length<=64):=O (Zp (Db _ _) J.tree.many);have LF:Hi (∀x∈s.tree.aI id,∃l,s.leaf x=some l):=O (λx I=>by
  obtain⟨c,hc,rfl,ab,_⟩:=Y8.1 I;exact J.lv _ c (Da J.tree.sorted hc) ab)
 unfold Qf.many Qf.bytes;clear h J ht;apply WH func20;go_wp2_with fail;apply Zy HN;rintro w1 rfl;go_wp2_with fail;apply Zo ag;rintro e w2⟨uv,rfl,hI,_,c2⟩;obtain⟨a,cap,rfl,aa,_,_⟩:=hI.row intT.hc;have HI:=O hI;have C2:=O c2;obtain⟨n0,E⟩:=Zx ((s.tree.aI id).length);have z:=O E;rw[<-E]at aa|-;clear hI c2 E a0;go_wp2_with fail;go_loopw [4,5,7,17] (λt4 t5 _ ti wr=>∃(k:Nat),ti=ZI k/\k<=n0/\t4=ZI ((((s.tree.aI id).take k).map λx=>((s.qOf x).length:Int)).sum)/\t5=ZI ((((s.tree.aI id).take k).map λx=>Jn (s.qOf x)).sum)/\Qc Qb w2 wr) (λ_ _ _ ti _=>n0-(intOf ti).toNat);case atStart=>exact⟨0,rfl,Nat.zero_le _,rfl,rfl,Zg _ _⟩
 case round=>
  obtain⟨k,rfl,hk,rfl,rfl,hc⟩:=hrel;have HC:=O hc;clear hc;by_cases ap:k<n0
  .have hd:decide ((k:Int)<(n0:Int))=true:=by simp;omega
   have d:k<(s.tree.aI id).length:=by have:=z.o;omega
   have ac:s.tree.aI id≠[]:=λe=>by rw[e]at d;simp at d
   obtain⟨g,am,an,ak,hB,al,q,_,_⟩:=HI.o.opn ac;injection ak with h1 h2 h3;subst h1;obtain⟨x,I⟩:∃x,(s.tree.aI id)[k]? =some x:=⟨_,List.getElem?_eq_getElem d⟩;have ab:wr.cell? ⟨g,k,none⟩=some (ZI x):=by rw[(HC.o.blk hB (λh=>h)).cell];exact q k x I
   have ae:x∈s.tree.aI id:=List.mem_of_getElem? I;obtain⟨l,hl⟩:=LF.o x ae;have hS:=K.o wr (C2.o.aA HC.o);have b0:=Ym hS.blk;have aj:=hS.look1 x;rw[G7 hl]at aj;obtain⟨qb,dv,Z,⟨r,hq⟩,_⟩:=hS.leafQ hl;have l0:=Q4 Z;have QL:=O (Qin hq);have QB:=O (Qls hq);have ao:IntKind.i64.wrap ((k:Int)+1)=(k:Int)+1:=by have h4:=R.o;have h5:=z.o;rw[IntWalk.i64_in _ (by omega)]
   have T1:=O (Qjd (f:=λx=>((s.qOf x).length:Int)) I);have T2:=O (Qjd (f:=λx=>Jn (s.qOf x)) I);have QO:=O (Ov hl);have U:=Qmn (f:=λx=>((s.qOf x).length:Int)) (B:=4096) (l:=(s.tree.aI id).take k) (λx _=>(BD.o x).1);have V:=Qmn (f:=λx=>Jn (s.qOf x)) (B:=16777216) (l:=(s.tree.aI id).take k) (λx _=>(BD.o x).2);have tl:((s.tree.aI id).take k).length<=64:=by have:=R.o;rw[List.length_take];omega
   have bx:=BD.o x;rw[QO.o]at bx;generalize ah:(((s.tree.aI id).take k).map λx=>((s.qOf x).length:Int)).sum=P1 at*;generalize ai:(((s.tree.aI id).take k).map λx=>Jn (s.qOf x)).sum=P2 at*;have ew1:IntKind.i64.wrap (P1+(l.q.length:Int))=P1+(l.q.length:Int):=by rw[IntWalk.i64_in _ (by omega)]
   have ew2:IntKind.i64.wrap (P2+Jn l.q)=P2+Jn l.q:=by rw[IntWalk.i64_in _ (by omega)]
   clear d ac hB al q I ae h2 h3 hl hS Z hq U V tl bx ah ai;go_wp2_with fail;apply Zy QL;rintro w4 rfl;go_wp2_with fail;apply Zy QB;rintro w4 rfl;go_wp2_with fail;go_roundw;case measure=>simp only[intOf];omega
   case rel=>
    refine⟨k+1,by rw[<-Int.natCast_one,<-Int.natCast_add],by omega,?_,?_,HC.o⟩;·have:=T1.o;rw[QO.o]at this;rw[this]
    .have:=T2.o;rw[QO.o]at this;rw[this]
  .have hd:decide ((k:Int)<(n0:Int))=false:=by simp;omega
   have u:k=(s.tree.aI id).length:=by have:=z.o;omega
   have TK:=O (show(s.tree.aI id).take k=s.tree.aI id by rw[u,List.take_length]);have af:=O (C2.o.aA HC.o);rw[TK.o];clear u;exact WD af
end
section
attribute [local go_sem ↓] X8 Yd
section
variable{A:Tb}{w:World}{F:Fp}{b:Nat}{s:Qf}{N:Nat}
theorem Qbl(h:Qi A w F b s)(u:Xp N s)(id:Int):ZW 118 #[ptr b,ZI id] w (.bool (decide (0<s.many id))) λw'=>Qc Qb w w':=by have d:=O (Dn h u id);generalize s.many id=m at d|-;generalize s.bytes id=q at d;clear h u;apply WH func118;go_wp2_with fail;apply ZQ d;intro w1 c;exact WD c
theorem Qbo(h:Qi A w F b s)(k:Xp N s):ZW 17 #[ptr b] w (ZU ((s.tick:Nat):Int)) λw'=>Qc Qb w w':=by
 have Z:=O (Ku h k.most.1);have q:=O h.blk;obtain⟨Gr,K,_⟩:=h.rowOf;obtain⟨Gp,⟨U,J⟩,_⟩:=h.pickOf;have z:=O (Qkc (Yq.obj.aB K (Zg Qb w).drew (Jl.none _)));have u:=O (λw'(c:Qc Qb w w')=>Qln ((Qo.obj U).aB J c (Jl.none _)) k.pick);unfold Qf.tick;generalize Hk s.row=x at z|-;generalize s.pick.tick=y at u|-;have a0:=Ym q.o.drew;clear h k K J;apply WH func17;go_wp2_with fail;apply Zy Z;rintro w1 rfl;go_wp2_with fail;apply YC [0,1,2,3,105,106,107,108,204,309,10,311] Qb w;iterate 4 (refine Xe (h:=?_))
 iterate 3 (refine Qy (h:=?_);try simp only[Act.put,Za,Zc,Zb])
 iterate 1 (apply YK λ_ hv=>Ym (hv.blk q.o (λh=>h)))
 clear a0;refine Yb ?_;go_wp2_with fail;apply ZF z (λ_ B=>B.aT);intro w2 d;go_wp2_with fail;refine⟨d.o,?_⟩;refine Km ?_;go_wp2_with fail;apply Zz (u.o _ d.o);intro w3 I;have V:=O (d.o.aA I);have E:=O (show((min x y:Nat):Int)=min (x:Int) (y:Int) by omega);clear I;go_wp2_with fail;apply YI 0;go_wp2;go_ret;exact⟨by rw[E.o];rfl,V.o⟩
end
end
section
variable{A:Tb}{w w1 w2:World}{F:Fp}{b:Nat}{s:Qf}{N:Nat}
theorem Qi.delLeaf(h:Qi A w F b s)(i:Int)(I ty:TypeId):
  ∃w',(Builtin.delete_ #[93,I] ty #[.map (some A.m),ZI i]).run prog w=.ok (.tuple #[]) w'/\Qi A w' (Qn F w w') b {s with aI:=s.aI.filter λl=>!decide (l.id=i)}/\Qc F w w':=by
 obtain⟨L,K,G,u,V,d⟩:=h.collOf;obtain⟨w',q,B,c⟩:=Di (P:=prog) u.map underlying93 underlying3 I ty i;have E:Qc G w w':=c.sub λk z=>z▸u.at_;have J:Yn Qw.id Yj w' (Qn G w w') A.m A.ad (Kp Qw.id i L):=(u.del Yj.obj i B c).more (λk z=>.inl z) (u.bd.ext E);obtain⟨R,U⟩:=d w' _ {s with aI:=s.aI.filter λl=>!decide (l.id=i)} (K.filter _) rfl rfl rfl rfl J E;exact⟨w',q,R,U⟩
theorem Qhe(q:Yk)(w1):∃c,Qc Qb w1 c/\Qh c w1.heap.size (Es q) 29/\
  (storeCells ⟨w1.heap.size,0,none⟩ (Es q).toList 0).run prog (w1.alloc (.cells Z5 29))=.ok () c:=by
 obtain⟨c,s2,d,u⟩:=Q0 (P:=prog) (vs:=Es q) (Qh.new w1 Z5 29) rfl (Hl _);exact⟨c,((Zg Qb w1).alloc _).trans u (λk e=>.inr (by omega)),d,s2⟩
theorem Qmd(h:Qt w F b s)(I:Xp N s)(id:Int):
  ZW 67 #[ptr b,ZI id] w (ZI (s.aP id)) λw'=>Qt w' (Qn F w w') b (s.drop id)/\Qc F w w':=by
 obtain⟨A,h⟩:=h;have R:=(Qi.obj A).bd h;have z:=O (λw'(c:Qc Qb w w')=>(Qi.obj A).aB h c (Jl.none F));have NO:Hi (∀w',Qc Qb w w'->s.aP id≠0->Qt w' (Qn F w w') b (s.drop id)/\Qc F w w'):=O (λw' c h0=>by rw[I0 h0];exact Qt.obj.same ⟨A,h⟩ c);have HN:=O (Ku h I.most.1);have U:=Ym h.blk;have HG:Hi (ZW 23 #[ptr A.tb,ZI id] w (.tuple #[.agg (Es (s.tree.get id).sp),.bool (s.tree.at id).isSome]) λw'=>Qc Qb w w'):=O (by
  obtain⟨G,hT,_⟩:=h.treeOf;exact Ob hT id)
 have HE:Hi (s.aP id=if(s.tree.at id).isNone then 81 else if s.tree.aM id≠[]then 161 else if 0<s.many id then 230 else 0):=O (rfl);cases hc:s.tree.at id with
 |none=> have E:=O (show s.aP id=81 by rw[HE.o,hc];rfl);rw[hc]at HG;dsimp only[Option.isSome_none]at HG;clear h I R hc;apply WH func67;go_wp2_with fail;apply Zy HN;rintro w1 rfl;go_wp2_with fail;apply Zy HG;intro w1 c1;obtain⟨W2,c2,_,ak⟩:=Qhe (s.tree.get id).sp w1;have d:=O (NO.o W2 (c1.aA c2) (by rw[E.o];decide));clear c1 c2;go_wp2_with fail;go_ret;exact⟨by rw[E.o];rfl,d.o⟩
 |some c=>
  have HU:Hi (∀w',Qc Qb w w'->Cl 85 #[ptr A.tb,ZI id] w' λe am=>∃v,e=.returned v/\Q6 am v (s.tree.aM id)/\(∀k,v.ownBlock=some k->w'.heap.size<=k)/\Qc Qb w' am):=O (λw' cc=>by
   obtain⟨G,hT,_⟩:=(z.o w' cc).treeOf;exact P8 hT id (by have:=Qwe s.tree id;have:=I.tree.many;omega))
  have u:=O (λw'(cc:Qc Qb w w')=>Qbl (z.o w' cc) I id);have ac:Hi (s.aP id=0->∀w3,Qc Qb w w3->Cl 121 #[ptr A.tb,ZI id] w3 λe J=>e=.returned (ZI 0)/\Qc F w J/\Qi A J (Qn F w J) b {s with tree:=s.tree.drop id}/\
    ZW 122 #[ptr A.pb,ZI id] J (.bool true) λw5=>Qi A w5 (Qn F w w5) b {s with tree:=s.tree.drop id,pick:=s.pick.drop id}/\
     ∃w6,(Builtin.delete_ #[93,3] 0 #[.map (some A.m),ZI id]).run prog w5=.ok (.tuple #[]) w6/\Qt w6 (Qn F w w6) b (s.drop id)/\Qc F w w6):=O (λh0 w3 c3=>by
   obtain⟨B,ai⟩:=Ng h0;obtain⟨c',ap,K⟩:=Tz ai;have ha:=I.asleep B;obtain⟨x,q,hx,i1,au,hq,ar,_⟩:=I.mt.drop I.tree I.pick ai ha;have h3:=z.o w3 c3;obtain⟨G,hT,_,aj⟩:=h3.treeOf;apply Zz (Qkl hT ap K (by have:=Qwe s.tree c'.sp.par;have:=I.tree.many;omega));rintro J⟨ao,c4⟩;obtain⟨m1,m2⟩:=aj J _ ao c4;have ag:Qc F w J:=c3.none.aA m2;have al:=(Qi.obj A).more m1 (Ke c3.size) (R.ext ag);refine⟨rfl,ag,al,?_⟩;obtain⟨Gp,⟨AP,hP⟩,_,af⟩:=al.pickOf;apply Zz (Qlj hP I.pick i1 hx au ha hq ar);rintro w5⟨an,c5⟩;obtain⟨n1,n2⟩:=af w5 _ ⟨AP,an⟩ c5;obtain⟨p1,p2⟩:=(Qi.obj A).two n1 R ag n2;refine⟨rfl,p1,?_⟩;obtain⟨w6,r6,h6,c6⟩:=p1.delLeaf id 3 0;obtain⟨q1,q2⟩:=(Qi.obj A).two h6 R p2 c6;refine⟨w6,r6,?_,q2⟩;have e:s.drop id={s with tree:=s.tree.drop id,pick:=s.pick.drop id,aI:=s.aI.filter λl=>!decide (l.id=id)}:=by unfold Qf.drop;rw[if_pos h0]
   rw[e];exact⟨A,q1⟩)
  have HA:=O h.blk;rw[hc]at HG HE;dsimp only[Option.isSome_some,Option.isNone_some]at HG HE;obtain⟨m,B⟩:=Zx (s.many id);rw[<-B]at HE u;clear h I hc B;apply WH func67;go_wp2_with fail;apply Zy HN;rintro w1 rfl;go_wp2_with fail;apply Zy HG;intro w1 c1;obtain⟨W2,c2,_,ak⟩:=Qhe (s.tree.get id).sp w1;have C2:=O (c1.aA c2);clear c1 c2 U;have U:=Ym (C2.o.blk HA.o (λh=>h));go_wp2_with fail;clear ak;refine(HU.o W2 C2.o).mono ?_;rintro e w3⟨uv,rfl,hI,_,c3⟩;obtain⟨ua,cap,rfl,_,_,_⟩:=hI.row intT.hc;have C3:=O (C2.o.aA c3);obtain⟨n0,ae⟩:=Zx ((s.tree.aM id).length);have ah:=O ae;rw[<-ae];clear hI c3 ae U;by_cases K:s.tree.aM id=[]
  .have hz:n0=0:=by rw[ah.o,K];rfl
   subst hz;by_cases B:0<m
   .have E:=O (show s.aP id=230 by rw[HE.o,if_neg (by decide),if_neg (by simpa using K),if_pos B]);have dm:decide (0<m)=true:=by simpa using B
    rw[dm]at u;clear B K dm;go_wp2_with fail;apply Z9 (u.o w3 C3.o) (λJ c4=>NO.o J (C3.o.aA c4) (by rw[E.o];decide));intro J d;go_wp2_with fail;go_ret;exact⟨by rw[E.o];rfl,d.o⟩
   .have E:=O (show s.aP id=0 by rw[HE.o,if_neg (by decide),if_neg (by simpa using K),if_neg B]);have dm:decide (0<m)=false:=by simpa using B
    rw[dm]at u;have ST:=O (ac.o E.o);clear B K dm;go_wp2_with fail;apply Z9 (u.o w3 C3.o) (λ_ c4=>C3.o.aA c4);intro J C4;have U:=Ym (C4.o.blk HA.o (λh=>h));go_wp2_with fail;clear U;apply Zz (ST.o J C4.o);rintro w5⟨c5,h5,hP⟩;have HP:=O hP;have U:=Ym h5.blk;clear hP c5 h5;go_wp2_with fail;clear U;apply Zy HP;rintro w6⟨h6,w7,r7,ab,aa⟩;have U:=Ym h6.blk;have d:=O (Zt ab aa);clear h6 ab aa;go_wp2_with fail;go_ret;exact⟨by rw[E.o];rfl,d.o⟩
  .have aq:n0≠0:=λe=>K (List.eq_nil_of_length_eq_zero (by rw[<-ah.o,e]));have E:=O (show s.aP id=161 by rw[HE.o,if_neg (by decide),if_pos K]);have dn:decide ((0:Int)<(n0:Int))=true:=by simp;omega
   have av:decide (0<n0)=true:=by simp;omega
   have d:=O (NO.o w3 C3.o (by rw[E.o];decide));clear K aq;go_wp2_with fail;go_ret;exact⟨by rw[E.o];rfl,d.o⟩
end
section
variable{A:Tb}{w w1 w2:World}{F:Fp}{b a:Nat}{s:Qf}{N:Nat}{l:Qw}
theorem Yj.owe(h:Yj w F a l):∃B J,Qh w a #[ptr B,J] 107/\∀w1 w2 q o,Qc Qb w w1->Kv w1 (Qn Qb w w1) q o->Qh w2 a #[ptr B,q] 107->Qc (λk=>k=a) w1 w2->Yj w2 (Qn F w w2) a {l with debt:=o}/\Qc F w w2:=by
 obtain⟨B,J,h⟩:=h;obtain⟨z,G0,R0,K,⟨ab,E,R1,g1,_,d1,s2,s3⟩,d0,s0,s1⟩:=h;have n1:¬E a:=λc=>d0 a K.2.1 (s2 _ c);have V:∀k,E k->F k:=λk c=>s1 _ (s2 _ c);have R:F a:=s0 _ K.2.1;have I:Bd E w:=z.sub V;refine⟨B,J,K.1,λw1 w2 q o u hd Z d=>?_⟩;have U:Qc F w w2:=(u.none (F:=F)).aA (d.sub λk e=>e▸R);have ac:=u.size;have ae:=d.size;have aa:=z _ R;refine⟨⟨B,q,?_⟩,U⟩;refine Q7 (G:=λk=>k=a) (H:=λk=>E k\/Qn Qb w w1 k) ⟨Z,rfl,λk e=>e▸Z.lt⟩ ?_ ?_ (λk e=>.inl (e▸R)) ?_ (z.ext U)
 .refine Q7 (G:=E) (H:=Qn Qb w w1) ((Lm B l.pk l.bt l.q).aB ((Lm B l.pk l.bt l.q).aB g1 u (Jl.none _)) d (λk c e=>n1 (e▸c))) (Y6 ((Kv.good q o).aB hd d (λk c e=>by have:=(Qr k).1 c;omega)) (λk c=>by have:=(Qr k).1 c;omega)) ?_ (λk c=>.inl c) (λk c=>.inr c) ?_;·intro k c he;have:=I k c;have:=(Qr k).1 he;omega
  .exact λk c=>c.elim (I.later u |>.later d k) (λc=>by have:=(Qr k).1 c;omega)
 .rintro k rfl(c|c);·exact n1 c
  .have:=(Qr k).1 c;omega
 .exact λk c=>c.elim (λc=>.inl (V k c)) (λc=>.inr (by have:=(Qr k).1 c;omega))
theorem Qfr(u:(s.aI.map Qw.id).Nodup){i:Int}{l:Qw}(q:s.leaf i=some l)(o:Option Ju):
  s.aR {l with debt:=o}={s with aI:=s.aI.map λx=>if x.id=i then{x with debt:=o}else x}:=by
 have d:Hn Qw.id i s.aI=some l:=q;obtain⟨B,k⟩:=Y3 d;unfold Qf.aR;congr 1;refine List.map_congr_left λx z=>?_;dsimp only;rw[k];by_cases c:x.id=i;·rw[if_pos c,if_pos c];rw[Zs ((Ls u z c).symm.trans d),k]
 .rw[if_neg c,if_neg c]
theorem Qh7{i:Int}(c:s.leaf i=none)(o:Option Ju):(s.aI.map λx=>if x.id=i then{x with debt:=o}else x)=s.aI:=by
 unfold Qf.leaf at c;rw[List.find?_eq_none]at c
 conv=>rhs;rw[<-List.map_id s.aI]
 refine List.map_congr_left λx d=>?_;have:=c x d;rw[if_neg (by simpa using this)];rfl
end
def Tb.put(A:Tb)(i:Int)(q:Nat):Tb:={A with ad:=λj=>if j=i then q else A.ad j}
section
variable{A:Tb}{w w1 w2:World}{F:Fp}{b:Nat}{s:Qf}{N:Nat}
theorem Qi.newLeaf(h:Qi A w F b s){l:Qw}{q:Nat}(hn:s.leaf l.id=none)(c:Qc Qb w w1)(hl:Yj w1 (Qn Qb w w1) q l):
  ∃w2,(Instr.mapUpdate 93 (.map (some A.m)) (ZI l.id) (ptr q)).run prog w1=.ok () w2/\Qi (A.put l.id q) w2 (Qn F w w2) b {s with aI:=s.aI++[l]}/\Qc F w w2:=by
 have R:=(Qi.obj A).bd h;obtain⟨L,Z,hs⟩:=h;obtain⟨G,z,V,_,B⟩:=Xv 2 (Ua A b L s) rfl hs;obtain⟨w2,E,U,d⟩:=X6 (P:=prog) (z.map.aB c (λh=>h)) underlying93 underlying3 l.id (ptr q);have J:=z.aB Yj.obj c (Jl.none G);have K:=J.put Yj.obj hl (λk a b'=>by
  have h1:=((Qr k).1 a).1;have:=R k (V k b');omega) (by rw[<-So Z z.nodup];exact hn) U d
 have I:Qc G w w2:=(c.none (F:=G)).aA (d.sub λk u=>u▸z.at_);have h5:=B w2 (λw G=>Yn Qw.id Yj w G A.m (A.put l.id q).ad (L++[l])) I
  (K.more (λk u=>u.elim .inl (λu=>.inr ⟨((Qr k).1 u).1,Nat.lt_of_lt_of_le ((Qr k).1 u).2 d.size⟩)) (z.bd.ext I))
 exact⟨w2,E,⟨L++[l],Z.append_right _,h5⟩,I.sub V⟩
theorem Yj.made{q d r:Nat}{u:Value}{l:Qw}{w3 w4}(J:Qc Qb w w1)(R:Jz w2 d r l.pk l.bt l.q)(h1:w1.heap.size<=d/\d<w2.heap.size)(h2:w1.heap.size<=r/\r<w2.heap.size)(E:Qc Qb w2 w3)(K:Kv w3 (Qn Qb w2 w3) u l.debt)
  (B:Qc Qb w3 w4) (I:Qh w4 q #[ptr d,u] 107) (U:w3.heap.size<=q):Yj w4 (Qn Qb w w4) q l:=by
 have s1:=J.size;have s3:=E.size;have s4:=B.size;have Z:=I.lt;have V:Jz w4 d r l.pk l.bt l.q:=(R.aB E (λh=>h) (λh=>h)).aB B (λh=>h) (λh=>h);have z:Bd (Qn Qb w w4) w4:=λk c=>((Qr k).1 c).2;refine⟨d,u,?_⟩;refine Q7 (G:=λk=>k=q) (H:=λk=>(k=d\/k=r)\/Qn Qb w2 w3 k) ⟨I,rfl,λk e=>e▸Z⟩ ?_ ?_ (λk e=>(Qr k).2 (by omega)) ?_ z
 .refine Q7 (G:=λk=>k=d\/k=r) (H:=Qn Qb w2 w3) ⟨r,V,.inl rfl,.inr rfl,λk e=>by rcases e with e|e<;>omega⟩ (Y6 ((Kv.good u l.debt).aB K B (Jl.none _)) (λk c=>by have:=(Qr k).1 c;omega)) ?_ (λk c=>.inl c) (λk c=>.inr c) ?_;·intro k e c;have:=(Qr k).1 c;rcases e with e|e<;>omega
  .intro k c;rcases c with(e|e)|c;·omega
   .omega
   .have:=(Qr k).1 c;omega
 .rintro k rfl((e|e)|c);·omega
  .omega
  .have:=(Qr k).1 c;omega
 .intro k c;rcases c with(e|e)|c;·exact(Qr k).2 (by omega)
  .exact(Qr k).2 (by omega)
  .have:=(Qr k).1 c;exact(Qr k).2 (by omega)
end
section
variable{A:Tb}{w w1 w2:World}{F:Fp}{b:Nat}{s:Qf}{N:Nat}
theorem Kv.ptr{w}{F:Fp}{v:Value}{o:Option Ju}(h:Kv w F v o):∃c,v=.pointer c:=by
 cases o with
 |none=>exact⟨none,h.1⟩
 |some d=>obtain⟨b,rfl,_⟩:=h;exact⟨_,rfl⟩
theorem Cy(h:Qt w F b s)(ok:Xp N s)(c:Yk):
  ZW 59 #[ptr b,Fb c] w (ZI (s.aO c)) λw'=>Qt w' (Qn F w w') b (s.add c)/\Qc F w w':=by
 obtain⟨A,h⟩:=h;have U:=(Qi.obj A).bd h;obtain⟨W,hW⟩:=Zx (w.alloc (.cells (Z4 c.leaf c) 29));have S0:Hi (Xx W w.heap.size c):=O (by rw[hW];exact Xx.new w c);have C0:Hi (Qc Qb w W):=O (by rw[hW];exact(Zg _ _).alloc _);have hP:=(Qi.obj A).aB h C0.o (Jl.none F);have HN:=O (Ku hP ok.most.1);have NF:Hi (¬F w.heap.size):=O (λhk=>by have:=U _ hk;omega);obtain⟨a0,a1,a2,a3,a4⟩:=Ym hP.drew.blk;obtain⟨g0,g1,g2,g3,g4,g5,g6,g7,g8,g9,K,R,d,k⟩:=(show Xx W.drew w.heap.size c from S0.o.aB (Zg Qb W).drew).cells;have B:Bd F W:=U.later C0.o;have aa:Hi (∀w' t,Qt w' (Qn F W w') b t->Qc F W w'->Qt w' (Qn F w w') b t/\Qc F w w'):=O (λw' t h1 h2=>by
  have cc:Qc F w w':=C0.o.none.aA h2;exact⟨Qt.obj.more h1 (Ke C0.o.size) (U.ext cc),cc⟩)
 have az:Hi (w.heap.size<W.heap.size):=O (Qh.lt S0.o);have HT:Hi (ZW 102 #[ptr A.tb,Fb c] W.drew (ZI (s.aO c)) λw'=>Qi A w' (Qn F W w') b {s with tree:=s.tree.add c}/\Qc F W w'):=O (by
  obtain⟨G,hT,_,ab⟩:=hP.drew.treeOf;apply Zz (Qor hT ok.tree c);rintro w2⟨ba,c2⟩;obtain⟨m1,m2⟩:=ab w2 _ ba c2;exact⟨rfl,m1,m2.aT⟩)
 by_cases Z:s.aO c=0
 .have ac:s.tree.aO c=0:=Z;obtain⟨q,hq,au,bc,av,i1,_⟩:=ok.mt.add ok.tree ac;have af:=(Ub ac).1;have E:=ok.leaf_none (Ub ac).2.2.1;have aq:=(Md af).1;have ay:Hi (∀w2,Qi A w2 (Qn F W w2) b {s with tree:=s.tree.add c}->Qc F W w2->ZW 103 #[ptr A.pb,Fb c] w2.drew (.bool true) λw'=>Qi A w' (Qn F W w') b {s with tree:=s.tree.add c,pick:=s.pick.put c}/\Qc F W w'/\Qc (Qn F W w2) w2 w'):=O (by
   intro w2 h2 c2;obtain⟨G,⟨AP,a9⟩,_,ab⟩:=h2.drew.pickOf;apply Zz (Qpl a9 c i1 av hq au (by omega));rintro w3⟨a8,c3⟩;obtain⟨m1,m2⟩:=ab w3 _ a8 c3;obtain⟨n1,n2⟩:=(Qi.obj A).two (w1:=w2) m1 B c2 m2.aT;exact⟨rfl,n1,n2,m2.aT⟩)
  have aw:Hi (c.leaf=false->s.add c={s with tree:=s.tree.add c,pick:=s.pick.put c}):=O (λhl=>by unfold Qf.add;rw[if_pos Z,hl];rfl);have ag:Hi (c.leaf=true->s.add c={s with tree:=s.tree.add c,pick:=s.pick.put c,aI:=s.aI++[⟨c.id,c.pk.toNat,c.bt.toNat,[],Xl c.real⟩]}):=O (λhl=>by unfold Qf.add;rw[if_pos Z,hl];rfl);have aj:Hi (c.leaf=true->∃I z:Nat,c.pk=(I:Int)/\c.bt=(z:Int)/\1<=I/\I<=4096/\1<=z/\z<=16777216):=O (λhl=>by
   obtain⟨k1,k2,k3,k4⟩:=Qam af hl;exact⟨c.pk.toNat,c.bt.toNat,by omega,by omega,by omega,by omega,by omega,by omega⟩)
  have a5:Hi (∀w3 w4 V I z pv,Qi A w3 (Qn F W w3) b {s with tree:=s.tree.add c,pick:=s.pick.put c}->Qc F W w3->Jz w4 (w3.heap.size+1) w3.heap.size I z []->Qc Qb w3 w4->Kv V (Qn Qb w4 V) (.pointer pv) (Xl c.real)->Qc Qb w4 V->w3.heap.size+1<w4.heap.size->
    ∃w6,(Instr.mapUpdate 93 (.map (some A.m)) (ZI c.id) (ZP V.heap.size)).run prog (V.alloc (.cells #[ptr (w3.heap.size+1),.pointer pv] 107))=.ok () w6/\
     Qt w6 (Qn F W w6) b {s with tree:=s.tree.add c,pick:=s.pick.put c,aI:=s.aI++[⟨c.id,I,z,[],Xl c.real⟩]}/\Qc F W w6):=O (by
   intro w3 w4 V I z pv h3 c3 hQ a6 hD am Xg;have an:Qc Qb V (V.alloc (.cells #[ptr (w3.heap.size+1),.pointer pv] 107)):=(Zg _ _).alloc _;have a7:Qh (V.alloc (.cells #[ptr (w3.heap.size+1),.pointer pv] 107)) V.heap.size #[ptr (w3.heap.size+1),.pointer pv] 107:=Qh.new _ _ _;generalize V.alloc (.cells #[ptr (w3.heap.size+1),.pointer pv] 107)=bi at*;have hL:=Yj.made (w:=w3) (w1:=w3) (l:=⟨c.id,I,z,[],Xl c.real⟩) (Zg _ _) hQ ⟨by omega,Xg⟩ ⟨by omega,by omega⟩ am hD an a7 (Zv _);obtain⟨w6,r6,h6,c6⟩:=h3.newLeaf (l:=⟨c.id,I,z,[],Xl c.real⟩) E ((a6.aA am).aA an) hL;obtain⟨n1,n2⟩:=(Qi.obj _).two h6 B c3 c6;exact⟨w6,r6,⟨_,n1⟩,n2⟩)
  have ax:=O (λw=>Qgx c.real aq w);rw[Z]at HT;have bh:=O U;have E0:=O Z;rw[Z];unfold Fb ptr cV at*;clear h ok hP ac hq au bc av i1 af E aq U B Z;apply WH func59;go_wp2_with fail;rw[<-hW];clear hW;apply Zy HN;rintro w1 rfl;go_wp2_with fail;apply XB 2200000;apply YA 0;clear a0 a1 a2 a3 a4 g0 g1 g2 g3 g4 g5 g6 g7 g8 g9 K R d k;go_wp2_with fail;apply Zy HT;rintro w2⟨h2,c2⟩;have H2:=O h2;have C2:=O c2;have S2:Hi (Xx w2 w.heap.size c):=O (c2.blk S0.o NF.o);clear h2 c2;go_wp2_with fail;apply YI 0;go_wp2_with fail;obtain⟨a0,a1,a2,a3,a4⟩:=Ym H2.o.drew.blk;obtain⟨g0,g1,g2,g3,g4,g5,g6,g7,g8,g9,K,R,d,k⟩:=(show Xx w2.drew w.heap.size c from S2.o.aB (Zg Qb w2).drew).cells;apply XB 200000;apply YA 0;clear a0 a1 a2 a3 a4 g0 g1 g2 g3 g4 g5 g6 g7 g8 g9 K R d k;go_wp2_with fail;apply Zz (ay.o w2 H2.o C2.o);rintro w3⟨h3,c3,al⟩;have H3:=O h3;have C3:=O c3;have S3:Hi (Xx w3 w.heap.size c):=O (al.blk S2.o (λhk=>hk.elim NF.o (λhk=>by
   have h1:=az.o;omega)))
  clear h3 c3 al;go_wp2_with fail;refine Jo ?_;have l2:=(show Xx w3 w.heap.size c from S3.o).cells.2.2.1;cases u:c.leaf with
  |false=> have J:Hi (Qt w3 (Qn F w w3) b (s.add c)/\Qc F w w3):=O (aa.o w3 _ (by rw[aw.o u];exact⟨A,H3.o⟩) C3.o);rw[u]at l2;clear u;go_wp2_with fail;go_ret;exact⟨rfl,J.o⟩
  |true=>
   obtain⟨I,z,ar,ap,p1,p2,p3,p4⟩:=aj.o u;have EQ:=O (ag.o u);have HQ:=O (λw=>Qt7 I z w p1 p2 p3 p4);rw[u]at l2;have ak:Hi (c.pk.toNat=I/\c.bt.toNat=z):=O (⟨by omega,by omega⟩);have ah:=O (Zt ar ap);clear u p1 p2 p3 p4 ar ap;go_wp2_with fail;clear l2;obtain⟨a0,a1,a2,a3,a4⟩:=Ym H3.o.drew.blk;obtain⟨g0,g1,g2,g3,g4,g5,g6,g7,g8,g9,K,R,d,k⟩:=(show Xx w3.drew w.heap.size c from S3.o.aB (Zg Qb w3).drew).cells;rw[ah.o.1]at d;rw[ah.o.2]at k;apply YC [100,101,102,103,104,105,6,7,8,9,111,112,210,213,14,215,316] Qb w3;iterate 3 (refine Qy (h:=?_);try simp only[Act.put,Za,Zc,Zb])
   iterate 1 (apply YK λ_ hv=>Ym (hv.blk H3.o.blk (λh=>h)))
   (refine Qy (h:=?_);try simp only[Act.put,Za,Zc,Zb]);iterate 1 (apply YK λwv hv=>(show Xx wv w.heap.size c from hv.blk S3.o (λh=>h)).cells)
   iterate 4 (refine Xe (h:=?_))
   (refine Qy (h:=?_);try simp only[Act.put,Za,Zc,Zb]);iterate 1 (apply YK λwv hv=>(show Xx wv w.heap.size c from hv.blk S3.o (λh=>h)).cells)
   clear a0 a1 a2 a3 a4 g0 g1 g2 g3 g4 g5 g6 g7 g8 g9 K R d k;refine Yb ?_;go_wp2_with fail;apply Zz (HQ.o _);rintro w4⟨ao,c4⟩;have C4:=O c4.aT;have ai:Hi (Jz w4 (w3.heap.size+1) w3.heap.size I z []):=O (ao);clear ao c4;go_wp2_with fail;refine⟨C4.o,?_⟩;refine Yb ?_;go_wp2_with fail;refine(ax.o _).mono ?_;rintro e V⟨dv,rfl,ae,c5⟩;obtain⟨pv,rfl⟩:=ae.ptr;have C5:=O (C4.o.aA c5);obtain⟨w6,r6,h6,c6⟩:=a5.o w3 w4 V I z pv H3.o C3.o ai.o C4.o ae c5 ai.o.lt.1;have J:=O (aa.o w6 _ h6 c6);clear ae c5 h6 c6;go_wp2_with fail;refine⟨C5.o,?_⟩;apply YA 0;go_wp2_with fail;refine⟨C5.o.alloc _,?_⟩;apply YI 0;clear r6;go_wp2;go_ret;refine⟨rfl,?_,J.o.2⟩;rw[EQ.o,ak.o.1,ak.o.2];exact J.o.1
 .have e1:s.tree.add c=s.tree:=Qgd Z;have e2:s.add c=s:=Qem Z;have hd:decide (s.aO c=0)=false:=by simpa using Z
  have bb:(s.aO c==0)=false:=by simpa using Z
  rw[e2];rw[e1]at HT;generalize s.aO c=er at HT hd bb|-;unfold Fb ptr at*;clear h ok hP e1 e2 Z U B;apply WH func59;go_wp2_with fail;rw[<-hW];clear hW;apply Zy HN;rintro w1 rfl;go_wp2_with fail;apply XB 2200000;apply YA 0;clear a0 a1 a2 a3 a4 g0 g1 g2 g3 g4 g5 g6 g7 g8 g9 K R d k;go_wp2_with fail;apply ZF HT (λw2 ⟨h2,c2⟩=>aa.o w2 s ⟨A,h2⟩ c2);intro w2 J;go_wp2_with fail;apply YI 0;exact WD J
end
section
variable{A:Tb}{w w1 w2:World}{F:Fp}{b a:Nat}{s:Qf}{N:Nat}{l:Qw}
theorem Qfp(h:Qt w F b s)(ok:Xp N s)(c:Yk):
  ZW 66 #[ptr b,Fb c] w (ZI (s.aG c)) λw'=>Qt w' (Qn F w w') b (s.change c)/\Qc F w w':=by
 obtain⟨A,h⟩:=h;have ah:=(Qi.obj A).bd h;obtain⟨W,hW⟩:=Zx (w.alloc (.cells (Z4 c.leaf c) 29));have S0:Hi (Xx W w.heap.size c):=O (by rw[hW];exact Xx.new w c);have C0:Hi (Qc Qb w W):=O (by rw[hW];exact(Zg _ _).alloc _);have hP:=(Qi.obj A).aB h C0.o (Jl.none F);have HN:=O (Ku hP ok.most.1);have NF:Hi (¬F w.heap.size):=O (λhk=>by have:=ah _ hk;omega);have ae:Bd F W:=ah.later C0.o;have a5:Hi (w.heap.size<W.heap.size):=O (Qh.lt S0.o);have ab:=O (λw'(c:Qc Qb W w')=>(Qi.obj A).aB hP c (Jl.none F));have J:Hi (∀w' t,Qt w' (Qn F W w') b t->Qc F W w'->Qt w' (Qn F w w') b t/\Qc F w w'):=O (λw' t h1 h2=>by
  have cc:Qc F w w':=C0.o.none.aA h2;exact⟨Qt.obj.more h1 (Ke C0.o.size) (ah.ext cc),cc⟩)
 have ai:Hi (∀w',Qc Qb W w'->s.change c=s->Qt w' (Qn F w w') b (s.change c)/\Qc F w w'):=O (λw' cc e=>by
  rw[e];obtain⟨p1,p2⟩:=Qt.obj.same ⟨A,hP⟩ cc;exact J.o w' _ p1 p2)
 have HG:Hi (∀w',Qc Qb W w'->ZW 23 #[ptr A.tb,ZI c.id] w' (.tuple #[.agg (Es (s.tree.get c.id).sp),.bool (s.tree.at c.id).isSome]) λaf=>Qc Qb w' af):=O (λw' cc=>by
  obtain⟨G,hT,_⟩:=(ab.o w' cc).treeOf;exact Ob hT c.id)
 have ax:Hi (∀w',Qc Qb W w'->ZW 119 #[ptr A.tb,Fb c] w' (ZI (s.tree.aG c)) λaf=>Qi A af (Qn F W af) b {s with tree:=s.tree.change c}/\Qc F W af):=O (λw' cc=>by
  obtain⟨G,hT,_,z⟩:=(ab.o w' cc).treeOf;apply Zz (Qe1 hT ok.tree c);rintro w2⟨ba,c2⟩;obtain⟨m1,m2⟩:=z w2 _ ba c2;have m3:Qc F W w2:=cc.none.aA m2;exact⟨rfl,(Qi.obj A).more m1 (Ke cc.size) (ae.ext m3),m3⟩)
 have ak:Hi (s.aG c=0->(∀w2,Qi A w2 (Qn F W w2) b {s with tree:=s.tree.change c}->Qc F W w2->ZW 120 #[ptr A.pb,Fb c] w2.drew (.bool true) λw3=>Qi A w3 (Qn F W w3) b {s with tree:=s.tree.change c,pick:=s.pick.aK c}/\Qc F W w3/\Qc (Qn F W w2) w2 w3)/\
   (∀w3,Cl 105 #[cV c.real] w3 λe I=>∃pv,e=.returned (.pointer pv)/\Kv I (Qn Qb w3 I) (.pointer pv) (Xl c.real)/\Qc Qb w3 I)/\
   (s.leaf c.id=none->s.change c={s with tree:=s.tree.change c,pick:=s.pick.aK c})/\
   (∀l w3,s.leaf c.id=some l->Qi A w3 (Qn F W w3) b {s with tree:=s.tree.change c,pick:=s.pick.aK c}->Qc F W w3->∃qb dv,Qh w3 (A.ad c.id) #[ptr qb,dv] 107/\
    ∀I w5 u ac,Qc Qb w3 I->Qc Qb I w5->Kv w5 (Qn Qb I w5) ac (Xl c.real)->Qh u (A.ad c.id) #[ptr qb,ac] 107->Qc (λk=>k=A.ad c.id) w5 u->Qt u (Qn F W u) b (s.change c)/\Qc F W u)):=O (λB=>by
  obtain⟨hm,aq⟩:=L8 B;have ha:=ok.asleep hm;obtain⟨x,q,hx,i1,hq,mt,dd⟩:=ok.mt.aK ok.tree ok.pick aq ha;obtain⟨c1,be,aw⟩:=Gb aq;have bb:=(Md aw).1;have E:s.change c={s with tree:=s.tree.change c,pick:=s.pick.aK c,aI:=s.aI.map λl=>if l.id=c.id then{l with debt:=Xl c.real}else l}:=by unfold Qf.change;rw[if_pos B]
  refine⟨λw2 h2 c2=>?_,λw3=>?_,λhl=>?_,λl w3 hl h3 c3=>?_⟩;·obtain⟨G,⟨AP,a9⟩,_,z⟩:=h2.drew.pickOf;apply Zz (Qii a9 ok.pick c i1 hx ha hq);rintro w3⟨a8,c3⟩;obtain⟨m1,m2⟩:=z w3 _ a8 c3;obtain⟨n1,n2⟩:=(Qi.obj A).two (w1:=w2) m1 ae c2 m2.aT;exact⟨rfl,n1,n2,m2.aT⟩
  .refine(Qgx c.real bb w3).mono ?_;rintro e I⟨v,rfl,hD,c4⟩;obtain⟨pv,rfl⟩:=Kv.ptr (w:=I) (F:=Qn Qb w3 I) (o:=Xl c.real) hD;exact⟨pv,rfl,hD,c4⟩
  .rw[E,Qh7 hl]
  .obtain⟨G,hL,hG,z⟩:=h3.leafOf (i:=c.id) (l:=l) hl;obtain⟨qb,dv,hB,k⟩:=hL.owe;refine⟨qb,dv,hB,λI w5 u ac ap a6 hD a7 ag=>?_⟩;obtain⟨p1,p2⟩:=k w5 u ac (Xl c.real) (ap.aA a6) ((Kv.good ac _).more hD (Ke ap.size) (λk hk=>((Qr k).1 hk).2)) a7 ag;obtain⟨q1,q2⟩:=z u {l with debt:=Xl c.real} (Y3 (show Hn Qw.id c.id s.aI=some l from hl)).2 p1 p2;obtain⟨r1,r2⟩:=(Qi.obj A).two q1 ae c3 q2;refine⟨?_,r2⟩;rw[E];have e:=Qfr (s:={s with tree:=s.tree.change c,pick:=s.pick.aK c}) hP.nodup (i:=c.id) (l:=l) hl (Xl c.real);rw[e]at r1;exact⟨A,r1⟩)
 have bd:=O (λw' t(h':Qi A w' (Qn F W w') b t)=>h'.drew.look1 c.id);have aa:=O (λw'(cc:Qc Qb W w')=>Qbl (ab.o w' cc) ok c.id);have HA:=O hP.blk;have HE:Hi (s.aG c=if(s.tree.at c.id).isNone then 81 else if 0<s.many c.id then 230 else s.tree.aG c):=O (rfl);have NO:=O (λ(B:s.aG c≠0)=>Sj B);obtain⟨is,am⟩:=Zx ((s.tree.at c.id).isSome);rw[<-am]at HG;have ao:=O am;clear am;obtain⟨gs,au⟩:=Zx ((s.tree.get c.id).sp);rw[<-au]at HG;clear au;unfold Fb ptr at*;clear h ah;apply WH func66;go_wp2_with fail;rw[<-hW];clear hW;apply Zy HN;rintro w1 rfl;go_wp2_with fail;go_cut [5,6] (λs5 s6 wz=>s6=.bool is/\Qc Qb W wz)
 case first=>
  refine Ui (.lookp 0 (.lookp 1 (.lookp 2 (.lookp 3 (.lookp 4 (.lookp 5 (.fork 6 (.lookp 7 (.lookp 8 (.lookp 9 (.walk 10 (.walk 11 (.walk 12 .nil)))))) 10 (.walk 6 (.look 7 (.look 8 (.lookp 9 (.walk 11 (.walk 12 .nil))))))))))))) (λwv=>Qc (Qb) (W) wv) Zq (by kernel_rfl) (λ_ _ _ _ _ h=>h) Z0 ?_;simp only[O0,Zf,Ze,Zd];iterate 3 (first|refine Vd (h:=?_)|refine Xi (h:=?_);try simp only[Act.put,Za,Zc,Zb])
  iterate 1 (apply YL λ_ hv=>Ym (hv.blk HA.o (λh=>h)))
  iterate 1 (first|refine Vd (h:=?_)|refine Xi (h:=?_);try simp only[Act.put,Za,Zc,Zb])
  iterate 1 (apply YL λwv hv=>(show Xx wv w.heap.size c from hv.blk S0.o (λh=>h)).cells)
  refine Gn ?_ ?_
  .go_wp2_with fail;apply Z9 (HG.o _ (Zg Qb W).drew) (λ_ c2=>(Zg Qb W).drew.aA c2);intro w2 C2;go_wp2_with fail;refine⟨C2.o,?_⟩;iterate 3 (first|refine Vd (h:=?_)|refine Xi (h:=?_);try simp only[Act.put,Za,Zc,Zb])
   refine Xt ?_;go_wp2_with fail;refine⟨C2.o.alloc _,?_⟩;obtain⟨W3,s3,al,C3⟩:=Q0 (P:=prog) (vs:=Es gs) (Qh.new w2 Z5 29) rfl (Hl _);have D3:Hi (Qc Qb W W3):=O ((C2.o.alloc _).trans C3 (λk e=>.inr (by have:=C2.o.size;omega)));clear al C3;refine Xt ?_;go_wp2_with fail;refine⟨D3.o,?_⟩;refine Xt ?_;go_wp2_with fail;refine⟨D3.o,?_⟩;refine U9 ?_;clear s3;go_wp2_with fail;go_meet;exact⟨rfl,D3.o⟩
  .go_wp2_with fail;refine⟨((Zg Qb W).drew.alloc _),?_⟩;have CA:=O ((Zg Qb W).drew.alloc (.cells Z5 29));have BA:Hi (Qh (W.drew.alloc (.cells Z5 29)) W.heap.size Z5 29):=O (Qh.new W.drew _ _);refine Xt ?_;go_wp2_with fail;refine(HG.o _ CA.o).mono ?_;rintro e w2⟨rfl,c2⟩;obtain⟨W3,s3,al,C3⟩:=Q0 (P:=prog) (vs:=Es gs) (c2.blk BA.o (λh=>h)) rfl (Hl _);have C2:=O (CA.o.aA c2);have D3:Hi (Qc Qb W W3):=O (C2.o.trans C3 (λk e=>.inr (by omega)));clear al C3 c2;go_wp2_with fail;refine⟨C2.o,?_⟩;iterate 3 (first|refine Vd (h:=?_)|refine Xi (h:=?_);try simp only[Act.put,Za,Zc,Zb])
   refine Xt ?_;go_wp2_with fail;refine⟨D3.o,?_⟩;refine Xt ?_;go_wp2_with fail;refine⟨D3.o,?_⟩;refine U9 ?_;clear s3;go_wp2_with fail;go_meet;exact⟨rfl,D3.o⟩
 case rest=>
  obtain⟨rfl,cW⟩:=hcut;obtain⟨V,hV⟩:=Zx wc;rw[<-hV]at cW|-;clear hV;have CV:=O cW;clear cW;cases is with
  |false=>
   have E:=O (show s.aG c=81 by
    have h1:=ao.o;rw[HE.o,if_pos (by
     cases hc:s.tree.at c.id with
     |none=>rfl
     |some x=>rw[hc]at h1;cases h1)])
   have d:=O (ai.o V CV.o (NO.o (by rw[E.o];decide)));go_wp2_with fail;go_ret;exact⟨by rw[E.o];rfl,d.o⟩
  |true=>
   have HS:=O (show(s.tree.at c.id).isNone=false by
    have h1:=ao.o;cases hc:s.tree.at c.id with
    |none=>rw[hc]at h1;cases h1
    |some x=>rfl)
   obtain⟨m,av⟩:=Zx (s.many c.id);rw[<-av]at HE aa;clear av;have g0:=(show Xx V w.heap.size c from CV.o.blk S0.o (λh=>h)).cells;by_cases hm:0<m
   .have E:=O (show s.aG c=230 by rw[HE.o,HS.o,if_neg (by decide),if_pos hm]);have dm:decide (0<m)=true:=by simpa using hm
    rw[dm]at aa;clear hm dm;go_wp2_with fail;apply Z9 (aa.o V CV.o) (λI c4=>ai.o I (CV.o.aA c4) (NO.o (by rw[E.o];decide)));intro I d;go_wp2_with fail;go_ret;exact⟨by rw[E.o];rfl,d.o⟩
   .have E:=O (show s.aG c=s.tree.aG c by rw[HE.o,HS.o,if_neg (by decide),if_neg hm]);have dm:decide (0<m)=false:=by simpa using hm
    rw[dm]at aa;clear hm dm;go_wp2_with fail;apply Z9 (aa.o V CV.o) (λ_ c4=>CV.o.aA c4);intro I C4;clear g0;go_wp2_with fail;have a0:=Ym (C4.o.drew.blk HA.o (λh=>h));have g0:=(show Xx I.drew w.heap.size c from C4.o.drew.blk S0.o (λh=>h)).cells;apply XB 2200000;apply YA 0;clear a0 g0;go_wp2_with fail;apply Zz (ax.o _ C4.o.drew);rintro w5⟨h5,c5⟩;have H5:=O h5;have C5:=O c5;have S5:Hi (Xx w5 w.heap.size c):=O (c5.blk S0.o NF.o);clear h5 c5;go_wp2_with fail;apply YI 0;by_cases B:s.tree.aG c=0
    .have HT:=O (ak.o (E.o.trans B));have hd:decide (s.tree.aG c=0)=true:=by simpa using B
     rw[B];rw[B]at hd;have E0:=O (E.o.trans B);clear B hd E;go_wp2_with fail;have a0:=Ym H5.o.drew.blk;have g0:=(show Xx w5.drew w.heap.size c from S5.o.aB (Zg Qb w5).drew).cells;apply XB 200000;apply YA 0;clear a0 g0;go_wp2_with fail;apply Zz (HT.o.1 w5 H5.o C5.o);rintro u⟨h6,c6,ag⟩;have H6:=O h6;have C6:=O c6;have S6:Hi (Xx u w.heap.size c):=O (ag.blk S5.o (λhk=>hk.elim NF.o (λhk=>by
      have h1:=a5.o;omega)))
     have aj:=O HT.o.2;clear h6 c6 ag;go_wp2_with fail;refine Jo ?_;go_wp2_with fail;have a0:=Ym H6.o.drew.blk;have g0:=(show Xx u.drew w.heap.size c from S6.o.aB (Zg Qb u).drew).cells;have lk:=H6.o.drew.look1 c.id;cases hl:s.leaf c.id with
     |none=>
      rw[Qae (s:={s with tree:=s.tree.change c,pick:=s.pick.aK c}) hl]at lk;have d:=O (J.o u.drew (s.change c) (by rw[aj.o.2.1 hl];exact⟨A,H6.o.drew⟩) C6.o.drew);clear hl;apply XB 20000000;apply YA 0;clear a0 g0 lk;go_wp2_with fail;refine Jo ?_;go_wp2_with fail;go_ret;exact⟨by rw[E0.o];rfl,d.o⟩
     |some l=>
      rw[G7 (s:={s with tree:=s.tree.change c,pick:=s.pick.aK c}) hl]at lk;obtain⟨qb,dv,ar,hk⟩:=aj.o.2.2 l u hl H6.o C6.o;have HK:=O hk;have az:=O ar;have ay:=O aj.o.1;clear hl hk ar;apply XB 20000000;apply YA 0;clear a0 lk;go_wp2_with fail;refine Jo ?_;go_wp2_with fail;refine(ay.o u.drew).mono ?_;rintro e w7⟨pv,rfl,hD,c7⟩;have B7:=O (((Zg Qb u).drew.aA c7).blk az.o (λh=>h));have y0:=Q4 B7.o;have fz:=B7.o.frozen;have d:=O (HK.o u.drew w7 (w7.setCell ⟨A.ad c.id,1,none⟩ (.pointer pv)) (.pointer pv) (Zg Qb u).drew c7 hD (B7.o.set 1 _) ((Zg _ w7).setCell _ (.inl rfl)));have an:=O (J.o _ _ d.o.1 d.o.2);clear hD c7 g0;go_wp2_with fail;go_ret;exact⟨by rw[E0.o];rfl,an.o⟩
    .have e1:s.tree.change c=s.tree:=Fq B;have e2:s.change c=s:=NO.o (by rw[E.o];exact B);have d:=O (J.o w5 (s.change c) (by rw[e2];have h5:=H5.o;rw[e1]at h5;exact⟨A,h5⟩) C5.o);have hd:decide (s.tree.aG c=0)=false:=by simpa using B
     have bc:(s.tree.aG c==0)=false:=by simpa using B
     generalize s.tree.aG c=er at hd bc E|-;clear B e1 e2;go_wp2_with fail;go_ret;exact⟨by rw[E.o];rfl,d.o⟩
end
section
variable{A:Tb}{w w1 w2:World}{F:Fp}{b a:Nat}{s:Qf}{N:Nat}{l:Qw}
theorem Qi.openLeaf(h:Qi A w F b s){i:Int}(Z:s.leaf i=some l):∃k d,Qh w (A.ad i) #[ptr k,d] 107/\
  (∃G:Fp,quS k l.pk l.bt l.q w G/\∀w' B,quS k l.pk l.bt B w' (Qn G w w')->Qc G w w'->Qi A w' (Qn F w w') b (s.aR {l with q:=B})/\Qc F w w'/\Qh w' (A.ad i) #[ptr k,d] 107)/\
  (∃G:Fp,Kv w G d l.debt/\∀w' u,Kv w' (Qn G w w') d u->Qc G w w'->Qi A w' (Qn F w w') b (s.aR {l with debt:=u})/\Qc F w w'/\Qh w' (A.ad i) #[ptr k,d] 107):=by
 have V:=(Y3 (show Hn Qw.id i s.aI=some l from Z)).2;obtain⟨K,hL,hK,c⟩:=h.leafOf Z;obtain⟨k,d,E,⟨Gq,gq,sq,nq,pq⟩,⟨Gd,gd,sd,nd,pd⟩⟩:=hL.opn;refine⟨k,d,E,⟨Gq,gq,λw' B hq z=>?_⟩,⟨Gd,gd,λw' u hd z=>?_⟩⟩;·obtain⟨I,J⟩:=pq w' B hq z;obtain⟨R,U⟩:=c w' {l with q:=B} V I J;exact⟨R,U,z.blk E nq⟩
 .obtain⟨I,J⟩:=pd w' u hd z;obtain⟨R,U⟩:=c w' {l with debt:=u} V I J;exact⟨R,U,z.blk E nd⟩
theorem Rz{l1 l2:Qw}(e:l2.id=l1.id):(s.aR l1).aR l2=s.aR l2:=by
 unfold Qf.aR;simp only[List.map_map,e];congr 1;refine List.map_congr_left λx c=>?_;dsimp only[Function.comp];by_cases c:x.id=l1.id;·simp[c]
 .simp[c]
theorem Oz{l1:Qw}{i:Int}(c:s.leaf i=some l)(e:l1.id=i):(s.aR l1).leaf i=some l1:=by subst e;have:=Qeo (key:=Qw.id) (x:=l1) (show Hn Qw.id l1.id s.aI=some l from c) l1.id;rw[if_pos rfl]at this;exact this
theorem Qsx{h:Qm}{i:Int}{c:Vm}(d:h.at i=some c):i∈h.map Vm.id:=Z3.2 ⟨c,(Qm.aE d).1,(Qm.aE d).2⟩
theorem Xp.row_len(q:Xp N s)(J:Ol s.row):s.row.length<=64:=by
 have u:=J.length_le_of_subset (l₂:=s.tree.map Vm.id) (λi E=>by
  obtain⟨⟨x,j,y⟩,B,rfl⟩:=Z3.1 E;obtain⟨l,d,I,_⟩:=(q.row x j y).1 B;obtain⟨k,K,_⟩:=q.at (show s.leaf j=some l from I);obtain⟨c,z,_⟩:=k.sp;rw[K]at z;exact Qsx z)
 simp only[List.length_map]at u;exact Zp u q.tree.many
theorem Qi.row_len(h:Qi A w F b s)(d:Xp N s):s.row.length<=64:=by obtain⟨p,G,_,c⟩:=h.once;exact d.row_len c.1
theorem Qi.qPush(h:Qi A w F b s){i:Int}(hl:s.leaf i=some l)(p:Jr):∃c u,Qh w (A.ad i) #[ptr c,u] 107/\(∃G:Fp,Kv w G u l.debt)/\
  ∀w1,Qc Qb w w1->Cl 107 #[ptr c,.agg (ZL p)] w1 λe w2=>e=.returned (ZI (D8 l.pk l.bt l.q p))/\
   (D8 l.pk l.bt l.q p≠0->Qc Qb w1 w2)/\
   (D8 l.pk l.bt l.q p=0->Qc F w w2/\Qi A w2 (Qn F w w2) b (s.aR {l with q:=l.q++[p]})/\Qh w2 (A.ad i) #[ptr c,u] 107/\∃r,Jz w2 c r l.pk l.bt (l.q++[p])):=by
 obtain⟨c,u,hB,⟨G,U,B⟩,Z,hd,_⟩:=h.openLeaf hl;refine⟨c,u,hB,⟨Z,hd⟩,λw1 E=>?_⟩;obtain⟨r,R,g1,g2,g3⟩:=(Lm c l.pk l.bt l.q).aB U E (Jl.none _);by_cases z:D8 l.pk l.bt l.q p=0;·apply Zz (Qsj R p z);rintro w2⟨V,J,d,I⟩;have K:Qc G w w2:=(E.none (F:=G)).aA (I.sub λk hk=>by rcases hk with rfl|rfl<;>assumption);have s1:=E.size;have lt:=d.lt;obtain⟨m1,m2,m3⟩:=B w2 (l.q++[p]) ⟨V,d,.inl g1,J.elim (λe=>.inl (e▸g2)) (λe=>.inr ⟨by omega,lt.2⟩),((Lm c l.pk l.bt l.q).bd U).ext K⟩ K;exact⟨by rw[z],λh=>absurd z h,λ_=>⟨m2,m1,m3,V,d⟩⟩
 .apply Zz (Qsi R p z);intro w2 I;exact⟨rfl,λ_=>I,λh=>absurd h z⟩
theorem Qi.noDebt(h:Qi A w F b s){i:Int}(E:s.leaf i=some l){I:Nat}{k:Value}(z:Qh w (A.ad i) #[ptr I,k] 107)(B:l.debt=none):k=.pointer none:=by obtain⟨J,u,d,_,G,q,_⟩:=h.openLeaf E;have e:=z.inj d;injection e with e;injection e with K c;injection c with c;rw[B]at q;rw[c];exact q.1
theorem Qi.debtStep(h:Qi A w F b s){i:Int}(hl:s.leaf i=some l){I:Nat}{u:Value}(V:Qh w (A.ad i) #[ptr I,u] 107){d:Ju}(hd:l.debt=some d):∃q,u=ptr q/\∃G:Fp,Ye w G q d/\
  ∀w' k,Ye w' (Qn G w w') q k->Qc G w w'->Qi A w' (Qn F w w') b (s.aR {l with debt:=some k})/\Qc F w w'/\Qh w' (A.ad i) #[ptr I,u] 107:=by
 obtain⟨aa,J,B,_,G,E,K⟩:=h.openLeaf hl;have e:=V.inj B;injection e with e;injection e with c z;injection c with c;injection c with c;injection c with c _;injection z with z;subst z;subst c;rw[hd]at E;obtain⟨q,hq,Z⟩:=E;subst hq;exact⟨q,rfl,G,Z,λw' k R U=>K w' (some k) ⟨q,rfl,R⟩ U⟩
theorem Qi.wakeDebt(h:Qi A w F b s){i:Int}(R:s.leaf i=some l){V:Nat}{B:Value}(J:Qh w (A.ad i) #[ptr V,B] 107){d:Ju}(K:l.debt=some d)(hn:d.run.l.length+1<549755813888)(hg:d.got<=Xw)(now:Nat)(hw:now<18446744073709551616)(k:Int):
  ∃q,B=ptr q/\∀w1,Qc Qb w w1->ZW 108 #[ptr q,ZU now,ZI k] w1 (.tuple #[]) λw2=>Qi A w2 (Qn F w w2) b (s.aR {l with debt:=some (d.wake now k)})/\Qc F w w2/\Qh w2 (A.ad i) #[ptr V,B] 107:=by
 obtain⟨q,U,_⟩:=h.debtStep R J K;refine⟨q,U,λw1 z=>?_⟩;have h1:=(Qi.obj A).aB h z (Jl.none F);obtain⟨q',c,G,hD,u⟩:=h1.debtStep R (z.blk J (λh=>h)) K;rw[U]at c;injection c with c;injection c with c;injection c with c _;subst c;apply Zz (Qj6 hD hn hg now hw k);rintro w2⟨E,Z⟩;obtain⟨m1,m2,m3⟩:=u w2 _ E Z;have I:Qc F w w2:=z.none.aA m2;exact⟨rfl,(Qi.obj A).more m1 (Ke z.size) (((Qi.obj A).bd h).ext I),I,m3⟩
theorem Qi.noteDebt(h:Qi A w F b s){i:Int}(V:s.leaf i=some l){qb q:Nat}(J:Qh w (A.ad i) #[ptr qb,ptr q] 107){d:Ju}(U:l.debt=some d)(hr:s.row.length<=64):
  ∀w1,Qc Qb w w1->ZW 99 #[ptr A.rb,ZI i,ptr q] w1 (.tuple #[]) λw2=>Qi A w2 (Qn F w w2) b {s with row:=Hj s.row i d}/\Qc F w w2:=by
 intro w1 u;have E:=(Qi.obj A).aB h u (Jl.none F);obtain⟨q',c,G,K,_⟩:=E.debtStep V (u.blk J (λh=>h)) U;injection c with c;injection c with c;injection c with c _;subst c;obtain⟨H,R,_,k⟩:=E.rowOf;apply Zz (Qkb R K (by omega) i);rintro w2⟨z,I⟩;obtain⟨Z,m2⟩:=k w2 _ z I;have B:Qc F w w2:=u.none.aA m2;exact⟨rfl,(Qi.obj A).more Z (Ke u.size) (((Qi.obj A).bd h).ext B),B⟩
theorem Qi.pickWake(h:Qi A w F b s){dep:Int->Nat}(U:Qs dep N s.pick)(J:N<549755813000)(i:Int)(now:Nat)(c:now<18446744073709551616):
  ∀w1,Qc Qb w w1->ZW 109 #[ptr A.pb,ZI i,ZU now] w1 (.tuple #[]) λw2=>Qi A w2 (Qn F w w2) b {s with pick:=s.pick.wake i now}/\Qc F w w2:=by
 intro w1 k;have E:=(Qi.obj A).aB h k (Jl.none F);obtain⟨H,⟨z,I⟩,_,d⟩:=E.pickOf;apply Zz (Qlo I U J i now c);rintro w2⟨q,B⟩;obtain⟨K,R⟩:=d w2 _ ⟨z,q⟩ B;have u:Qc F w w2:=k.none.aA R;exact⟨rfl,(Qi.obj A).more K (Ke k.size) (((Qi.obj A).bd h).ext u),u⟩
end
section
variable{s:Qf}{N:Nat}
def Qf.fit(s:Qf)(i:Int):Nat:=s.pick.fitAt i
end
section
variable{p:Qe}{N:Nat}{dep:Int->Nat}
theorem Ad{v:Nat}{l:List Xu}{e:Xu}(c:Xf v l=some e):e∈l/\e.2.2<=v:=by unfold Xf at c;exact⟨List.mem_of_find?_eq_some c,by simpa using List.find?_some c⟩
theorem Qug{v:Nat}{l:List Xu}(c:Xf v l=none):∀e∈l,¬e.2.2<=v:=by unfold Xf at c;simpa using List.find?_eq_none.1 c
theorem Ib{l:List Xu}{v:Nat}{x:Nat×Int}(h:low l=some x)(k:x.1<=v):∃e,Xf v l=some e:=by
 obtain⟨a,d⟩:=Sq h;cases c:Xf v l with
 |some e=>exact⟨e,rfl⟩
 |none=>exact absurd k (Qug c _ d)
theorem Qay(U:Qs dep N p)(R:Uz p){now:Nat}(hn:now<Qq):∀(n:Nat)(i:Int),0<i->(∃c,p.at i=some c/\c.fit<=now)->8-dep i<n->∃j,p.next now n i=some j
 |0,_,_,_,h=>by omega
 |n+1,i,hi,⟨c,hc,hf⟩,hd=>by
  rw[Qe.next,hc];dsimp only;by_cases I:c.leaf=true;·exact⟨i,by rw[if_pos I]⟩
  .rw[if_neg I];unfold Qx.fit at hf;dsimp only at hf;rw[if_neg I]at hf;cases d:low c.tree with
   |none=>rw[d]at hf;dsimp only at hf;omega
   |some x=> rw[d]at hf;dsimp only at hf;obtain⟨e,K⟩:=Ib d (show x.1<=now by omega);rw[K];dsimp only;obtain⟨a,k,b⟩:=e;obtain⟨Z,V⟩:=Ad K;obtain⟨E,hk,_,J,q,z,u⟩:=(R.ent k i c hc a b).1 Z;have B:=(U.up.2 J (Qe.aE q).1 (by rw[(Qe.aE q).2];omega)).2.2;rw[(Qe.aE q).2,z]at B;exact Qay U R hn n k E ⟨J,q,by rw[<-u];exact V⟩ (by omega)
theorem Qdx(R:Qs dep N p)(Z:Uz p){now:Nat}(hn:now<Qq):(∃j,p.next now 10 0=some j)↔p.tick<=now:=by
 obtain⟨r,V,K⟩:=R.root;unfold Qe.tick;rw[Qe.next,V];dsimp only;rw[if_neg (by rw[K];exact Bool.false_ne_true)];cases c:low r.tree with
 |none=>
  rw[Ei c];refine⟨λ⟨j,h⟩=>?_,λh=>?_⟩;·cases h
  .dsimp only at h;omega
 |some x=>
  dsimp only;constructor
  .rintro⟨j,h⟩;cases q:Xf now r.tree with
   |none=>rw[q]at h;cases h
   |some e=> obtain⟨J,B⟩:=Ad q;exact Zp (Cn c e J) B
  .intro hx;obtain⟨e,q⟩:=Ib c hx;rw[q];dsimp only;obtain⟨a,k,b⟩:=e;obtain⟨J,B⟩:=Ad q;obtain⟨I,hk,_,U,d,z,u⟩:=(Z.ent k 0 r V a b).1 J;have E:=(R.up.2 U (Qe.aE d).1 (by rw[(Qe.aE d).2];omega)).2.2;rw[(Qe.aE d).2,z]at E;exact Qay R Z hn 9 k I ⟨U,d,by rw[<-u];exact B⟩ (by omega)
end
def Kx(f:Int->Nat)(c:Nat×List Int)(i:Int):Nat×List Int:=if f i<c.1\/c.2=[]then(f i,[i])else if f i=c.1 then(c.1,c.2++[i])else c
def Kt(f:Int->Nat)(l:List Int):List Int:=(l.foldl (Kx f) (18446744073709551615,[])).2
def Qf.waits(s:Qf):List Int:=(s.tree.aI 0).filter λi=>!decide (s.many i=0)
def Qf.isLeaf(s:Qf)(i:Int):Bool:=((s.tree.at i).map (·.sp.leaf)).getD false
def Qf.fitters(s:Qf)(t:Nat)(i:Int):List Int:=(s.tree.aM i).filter λx=>!(!s.pick.aL x||decide (t<s.fit x))
def Qf.down(s:Qf)(t:Nat):Nat->Int->List Int
 |0,_=>[]
 |n+1,i=>if s.isLeaf i then[i]else(Kt s.pick.v (s.fitters t i)).flatMap (s.down t n)
def Qf.shareNone(s:Qf)(i:Int):Bool:=((s.tree.at i).map (·.sp.share.none)).getD true
def Qf.heldB(s:Qf)(t:Nat)(i:Int):Bool:=decide (t<s.elig i)&&(s.shareNone i||(s.tree.path 9 i).any λx=>decide (t<s.fit x))
def Qf.held(s:Qf)(t:Nat):List Int:=s.waits.filter (s.heldB t)
section
variable{s:Qf}{N:Nat}
end
section
variable{s:Qf}{N:Nat}
end
section
variable{s:Qf}{N:Nat}
theorem Qsl(h:Xp N s)(z:Xd s.row){t:Nat}(E:t<Qq):(∃x,Jt t s.row=some x)↔Hk s.row<=t:=by
 unfold Jt Hk;cases q:s.row with
 |nil=>exact⟨λ⟨x,u⟩=>(by cases u),λh=>(by dsimp only at h;omega)⟩
 |cons e l=>
  dsimp only;constructor
  .rintro⟨x,u⟩;obtain⟨a,d⟩:=Sq u;obtain⟨d,c⟩:=List.mem_filter.1 d;have c:a<=t:=by simpa using c
   rcases Zu.1 d with B|d;·rw[<-B];exact c
   .rw[q]at z;have k:=(List.pairwise_cons.1 z).1 _ d;unfold Mv at k;dsimp only at k;omega
  .intro c;have d:e∈(e::l).filter λe=>decide (e.1<=t):=List.mem_filter.2 ⟨List.mem_cons_self,by simpa using c⟩;cases u:low ((e::l).filter λe=>decide (e.1<=t))with
   |none=>rw[Ei u]at d;cases d
   |some x=>exact⟨x,rfl⟩
theorem Qs6(h:Xp N s)(E:Xd s.row){t:Nat}(z:t<Qq):(∃x,s.who t=some x)↔s.tick<=t:=by
 have d:=Qsl h E z;have q:=Qdx h.pick h.pinv z;unfold Qf.who Qf.tick;cases ha:Jt t s.row with
 |some x=> have:=d.1 ⟨x,ha⟩;exact⟨λ_=>by omega,λ_=>⟨_,rfl⟩⟩
 |none=>
  have B:¬Hk s.row<=t:=λk=>by obtain⟨x,c⟩:=d.2 k;rw[ha]at c;cases c
  dsimp only;cases u:s.pick.next t 10 0 with
  |none=>
   have:¬s.pick.tick<=t:=λk=>by obtain⟨x,c⟩:=q.2 k;rw[u]at c;cases c
   exact⟨λ⟨x,c⟩=>(by cases c),λk=>by omega⟩
  |some j=> have:=q.1 ⟨j,u⟩;exact⟨λ_=>by omega,λ_=>⟨_,rfl⟩⟩
end
structure V2 where
 rate:Nat
 taken:Nat
 idles:Bool
def V2.new(c:Nat):V2:=⟨c,0,true⟩
def V2.aU(l:V2):Nat:=(l.taken+l.rate-1)/l.rate
def V2.free(l:V2)(now:Nat):Bool:=decide (l.aU<=now)
def V2.idle(l:V2)(now:Nat):V2:=if l.free now then{l with idles:=true}else l
def V2.sendE(l:V2)(now:Nat)(c:Int):Int:=if 1099511627776<now then 2 else if c<1\/65536<=c then 100 else if l.free now then 0 else 230
def V2.from_(l:V2)(now:Nat):Nat:=if !l.idles&&decide (now=l.aU)then l.taken else now*l.rate
def V2.send(l:V2)(now:Nat)(c:Int):V2:=if l.sendE now c=0 then⟨l.rate,l.from_ now+c.toNat*256,false⟩else l
def V2.til(l:V2)(now:Nat)(c:Int):Nat:=if l.sendE now c=0 then(l.send now c).aU else 0
abbrev X7:=List Nat
def Qwi:X7:=[0,0,0,0,0,0,0,0]
structure P5 where
 k:Nat
 n:Nat
 less:Bool
def Qx9(c:Bool)(n x:Nat):Nat:=if c then n-min n x else n+min x (Xw-n)
def Qwa(s:X7)(x:P5):X7:=s.set x.k (Qx9 x.less (s.getD x.k 0) x.n)
abbrev V1:=List (Int×X7)
def V1.new:V1:=[(0,Qwi)]
def V1.at(b:V1)(id:Int):Option X7:=(b.find? λx=>decide (x.1=id)).map (·.2)
def V1.get(b:V1)(id:Int):X7:=(b.at id).getD Qwi
def V1.set(id:Int)(s:X7):V1->V1
 |[]=>[(id,s)]
 |x::b=>if id=x.1 then(id,s)::b else x::V1.set id s b
def Qx0(n:Int):Nat:=(max n 0).toNat
def V1.upd(b:V1)(id:Int)(l:List P5):V1:=V1.set id (l.foldl Qwa (b.get id)) b
def V1.tell(b:V1)(c:Int)(l:List P5):V1:=if c<=0 then b.upd 0 l else(b.upd 0 l).upd c l
def Qx4(p:Jr):List P5:=[⟨0,1,false⟩,⟨6,1,false⟩,⟨7,Qx0 p.len,false⟩]
def Qwx:List P5:=[⟨1,1,false⟩]
def Qwn(p:Jr)(c:Nat):List P5:=[⟨if c=1 then 4 else 5,Qx0 p.len,false⟩,⟨6,1,true⟩,⟨7,Qx0 p.len,true⟩]
def Qxv(p:Jr):List P5:=[⟨2,1,false⟩,⟨3,Qx0 p.len,false⟩]
def Qx5(s:X7):List P5:=[⟨6,s.getD 6 0,true⟩,⟨7,s.getD 7 0,true⟩]
def V1.drop(b:V1)(c:Int):V1:=if c<1 then b else(b.tell 0 (Qx5 (b.get c))).filter λy=>!decide (y.1=c)
structure BOk(b:V1):Prop where
 nd:(b.map (·.1)).Nodup
 eight:∀x∈b,x.2.length=8/\∀n∈x.2,n<=Xw
structure D7 where
 p:Jr
 rule:Nat
 frm:Nat
 til:Nat
 due:Nat
structure Vi where
 rate:Nat
 most:Int
 hor:Nat
 now:Nat
 sched:Qf
 link:V2
 book:V1
 aM:Option D7
 sent:List D7
def Vi.new(d:Nat)(c:Int)(k:Nat):Vi:=⟨d,c,k,0,.new c,.new d,.new,none,[]⟩
def Qxy(d:Nat)(c:Int)(k:Nat):Int:=if d<1\/1048576<d then 240 else if c<1\/65536<=c\/k<1\/1099511627776<k then 2 else 0
def Vi.stopped(e:Vi):Bool:=decide (e.hor<=e.now)
def Vi.aO(e:Vi)(s:Yk):Int:=if e.stopped then 261 else e.sched.aO s
def Vi.add(e:Vi)(s:Yk):Vi:=if e.stopped then e else{e with sched:=e.sched.add s}
def Vi.aG(e:Vi)(s:Yk):Int:=if e.stopped then 261 else e.sched.aG s
def Vi.change(e:Vi)(s:Yk):Vi:=if e.stopped then e else{e with sched:=e.sched.change s}
def Vi.aP(e:Vi)(id:Int):Int:=if e.stopped then 261 else e.sched.aP id
def Vi.drop(e:Vi)(id:Int):Vi:=if e.stopped then e else if e.sched.aP id=0 then{e with sched:=e.sched.drop id,book:=e.book.drop id}else e
structure EvM where
 kind:Nat
 x:D7
def Vi.through(e:Vi)(x:D7):Vi:={e with aM:=none,now:=x.til,sent:=e.sent++[x],book:=e.book.tell x.p.cls (Qxv x.p)}
def Vi.chosen(e:Vi)(c:ChM):D7:=⟨c.p,c.rule,e.now,e.link.til e.now c.p.len,c.due⟩
def Vi.choose(e:Vi):Option EvM×Vi:=match e.sched.next e.now with
 |(none,s)=>(none,{e with sched:=s})
 |(some c,s)=>(some ⟨1,e.chosen c⟩,{e with sched:=s,link:=e.link.send e.now c.p.len,aM:=some (e.chosen c),book:=e.book.tell c.p.cls (Qwn c.p c.rule)})
def Vi.clip(e:Vi)(til:Nat):Nat:=min (max til e.now) e.hor
def Vi.idle(e:Vi)(til:Nat):Vi:={e with link:=if e.now<e.sched.tick then e.link.idle e.now else e.link,now:=min (max e.now e.sched.tick) til}
def Vi.step(e:Vi)(til:Nat):Option EvM×Vi:=if e.stopped then(none,e)else
 match e.aM with
 |some x=>if x.til<=e.clip til then(some ⟨2,x⟩,e.through x)else(none,{e with now:=e.clip til})
 |none=>if e.clip til<max e.now e.sched.tick then(none,e.idle (e.clip til))else(e.idle (e.clip til)).choose
def Vi.all(c:Nat):Nat->Vi->Vi
 |0,e=>e
 |n+1,e=>match(e.step c).1 with
  |none=>(e.step c).2
  |some _=>Vi.all c n (e.step c).2
def Vi.left(e:Vi):Nat:=2*(e.sched.many 0).toNat+(if e.aM.isSome then 1 else 0)
def Vi.run(e:Vi)(til:Nat):Vi:=Vi.all til (e.left+1) e
def Vi.advE(e:Vi)(c:Nat):Int:=if e.stopped then 261 else if c<e.now then 260 else 0
def Vi.adv(e:Vi)(til:Nat):Vi:=if e.advE til=0 then e.run til else e
def Vi.arrP(e:Vi)(p:Jr):Jr:={p with at_:=((e.run e.now).now:Int)}
def Vi.arrE(e:Vi)(p:Jr):Int:=if e.stopped then 261 else(e.run e.now).sched.aQ (e.arrP p)
def Vi.arr(e:Vi)(p:Jr):Vi:=if e.stopped then e else
 let c:=e.run e.now;let q:=e.arrP p
 if c.sched.aQ q=0 then
  let d:={c with sched:=c.sched.push q c.now,book:=c.book.tell q.cls (Qx4 q)}
  d.run d.now
 else{c with book:=c.book.tell q.cls Qwx}
abbrev ZM(x:D7):Array Value:=#[ZU x.p.id,ZI x.p.cls,ZI x.p.len,ZU x.p.at_,.int .u8 x.rule,ZU x.frm,ZU x.til,ZU x.due]
end Go.Proofs.YtigcnnkagkbflaaGreat
