/- A part of the proof: no condition. -/
import Derived.Test.YtigcnnkagkbflaaGreatYq19
namespace Go.Proofs.YtigcnnkagkbflaaGreat
set_option linter.unusedVariables false
set_option maxRecDepth 100000
set_option maxHeartbeats 4000000
open Go.RowKit
open Go.Proofs.Tryz
attribute [local go_sem] Qp
attribute [local irreducible] Kl J9 Xo
section
variable{p p':Qe}{N:Nat}{dep dep':Int->Nat}
theorem Qs.redep(h:Qs dep N p)(z:dep' 0=0)(I:∀c∈p,c.id≠0->dep' c.id=dep c.id):Qs dep' N p:=by
 refine⟨h.nd,h.root,⟨z,λc E B=>?_⟩,h.tr,h.ok⟩;obtain⟨U,⟨q,J⟩,V,Z⟩:=h.up.2 c E B;have u:=I c E B;obtain⟨k,d⟩:=Qe.aE J;have R:dep' c.par=dep c.par:=by
  by_cases K:c.par=0;·rw[K,z,h.up.1]
  .rw[<-d];exact I q k (by rw[d];exact K)
 exact⟨U,⟨q,J⟩,by rw[u,R];exact V,by rw[u];exact Z⟩
theorem Qm2{i:Int}(h:p.at i=none):∀c∈p,c.id≠i:=Lz (key:=Qx.id) h
theorem Qn3(x:Qx)(i:Int):Qe.at (p++[x]) i=(p.at i).or (if x.id=i then some x else none):=by unfold Qe.at;simp_all
structure But(p p':Qe)(i:Int):Prop where
 oth:∀j,j≠i->(p'.at j).map (λc=>(c.par,c.leaf,c.aJ,c.fit))=(p.at j).map λc=>(c.par,c.leaf,c.aJ,c.fit)
 both:∀k q',p'.at k=some q'->(∃q,p.at k=some q/\q'.par=q.par/\q'.leaf=q.leaf/\q'.tree=q.tree/\∀j,j≠i->q'.mem.at j=q.mem.at j)\/(k=i/\q'.tree=[]/\(∀j,q'.mem.at j=none)/\p.at i=none)
 kids:p.at i=none\/p'.at i=none->∀j c,p'.at j=some c->0<j->c.par≠i
 off:p.aL i=false/\p'.aL i=false
 mem:∀k q',p'.at k=some q'->((q'.mem.at i).isSome=true↔∃c,p'.at i=some c/\0<i/\c.par=k/\c.aJ=true)
 inn:∀c q,p'.at i=some c->p'.at c.par=some q->q.leaf=false
theorem But.fwd{i j:Int}(h:But p p' i)(q:j≠i){c:Qx}(k:p.at j=some c):∃d,p'.at j=some d/\d.par=c.par/\d.leaf=c.leaf/\d.aJ=c.aJ/\d.fit=c.fit:=by
 have:=h.oth j q;rw[k]at this;cases h':p'.at j with
 |none=>rw[h']at this;cases this
 |some d=> rw[h']at this;simp only[Zn,Option.some.injEq,Prod.mk.injEq]at this;exact⟨d,rfl,this⟩
theorem But.back{i j:Int}(h:But p p' i)(q:j≠i){c:Qx}(k:p'.at j=some c):∃d,p.at j=some d/\d.par=c.par/\d.leaf=c.leaf/\d.aJ=c.aJ/\d.fit=c.fit:=by
 have:=h.oth j q;rw[k]at this;cases h':p.at j with
 |none=>rw[h']at this;cases this
 |some d=> rw[h']at this;simp only[Zn,Option.some.injEq,Prod.mk.injEq]at this;exact⟨d,rfl,this.1.symm,this.2.1.symm,this.2.2.1.symm,this.2.2.2.symm⟩
theorem But.aL(Z:Qs dep N p)(K:Qs dep' N p'){i j:Int}(h:But p p' i)(J:j≠i):p'.aL j=p.aL j/\p'.v j=p.v j:=by
 cases u:p.at j with
 |none=>
  have d:p'.at j=none:=by have:=h.oth j J;rw[u]at this;simpa using this
  rw[Qe.awake_none u,Qe.awake_none d,Qe.v_none u,Qe.v_none d];exact⟨rfl,rfl⟩
 |some c=>
  obtain⟨c',d,e,_⟩:=h.fwd J u;by_cases k:0<j
  .obtain⟨q,B⟩:=Z.par u k;obtain⟨q',z⟩:=K.par d k;have I:=z;rw[e]at I;rw[Qe.awake_eq u B k,Qe.awake_eq d z k,Qe.v_eq u B k,Qe.v_eq d z k];rcases h.both c.par q' I with⟨q0,E,_,_,_,V⟩|⟨R,_,_,U⟩;·rw[B]at E;obtain rfl:=Zs E;exact Be (V j J)
   .rw[R,U]at B;cases B
  .rw[Qe.awake_neg k,Qe.awake_neg k,Qe.v_neg k,Qe.v_neg k];exact⟨rfl,rfl⟩
theorem But.path(J:Qs dep N p)(E:Qs dep' N p'){i:Int}(h:But p p' i):∀(n:Nat)(L:Int),L<1\/((∃c,p.at L=some c)/\∃c,p'.at L=some c)->p'.path n L=p.path n L
 |0,_,_=>rfl
 |n+1,L,hL=>by
  rw[Qe.path,Qe.path];by_cases k:L<1;·rw[if_pos k,if_pos k]
  .rw[if_neg k,if_neg k];obtain⟨⟨c,u⟩,I,d⟩:=hL.resolve_left k;rw[u,d];dsimp only;have e:I.par=c.par:=by
    rcases h.both L I d with⟨Z,z,e,_⟩|⟨K,_,_,R⟩;·rw[u]at z;obtain rfl:=Zs z;exact e
    .rw[K,R]at u;cases u
   rw[e,But.path J E h n c.par];obtain⟨q,U⟩:=J.par u (by omega);obtain⟨V,B⟩:=E.par d (by omega);rw[e]at B;exact .inr ⟨⟨q,U⟩,V,B⟩
theorem Uz.but(ok:Qs dep N p)(U:Qs dep' N p'){i:Int}(hv:Uz p)(h:But p p' i):Uz p':=by
 refine⟨λj k Z z a b=>?_,λk Z z j=>?_,λk d' Z ab hk z=>?_,λj B=>?_⟩
 .by_cases B:j=i
  .subst B;rw[h.off.2];refine⟨λI=>?_,λh=>by simp at h⟩;rcases h.both k Z z with⟨q,V,_,_,ht,_⟩|⟨_,ht,_⟩;·rw[ht]at I;have:=((hv.ent j k q V a b).1 I).2.1;rw[h.off.1]at this;cases this
   .rw[ht]at I;cases I
  .obtain⟨ha,ag⟩:=h.aL ok U B;rw[ha,ag];rcases h.both k Z z with⟨q,V,_,_,ht,_⟩|⟨e,ht,_,hn⟩
   .rw[ht,hv.ent j k q V a b];refine and_congr_right λ_=>and_congr_right λ_=>and_congr_right λ_=>⟨λ⟨c,K,J,h2⟩=>?_,λ⟨E,u,J,h2⟩=>?_⟩;·obtain⟨E,u,e1,_,_,R⟩:=h.fwd B K;exact⟨E,u,e1.trans J,h2.trans R.symm⟩
    .obtain⟨c,K,e1,_,_,R⟩:=h.back B u;exact⟨c,K,e1.trans J,h2.trans R.symm⟩
   .rw[ht];refine⟨λI=>(by cases I),λ⟨h0,_,_,E,u,J,_⟩=>?_⟩;exact absurd (J.trans e) (h.kids (.inl hn) j E u h0)
 .by_cases B:j=i;·subst B;exact h.mem k Z z
  .rcases h.both k Z z with⟨q,V,_,_,_,I⟩|⟨e,_,I,hn⟩
   .rw[I j B,hv.memb k q V j];refine⟨λ⟨c,K,h0,J,h2⟩=>?_,λ⟨E,u,h0,J,h2⟩=>?_⟩;·obtain⟨E,u,e1,_,R,_⟩:=h.fwd B K;exact⟨E,u,h0,e1.trans J,R.trans h2⟩
    .obtain⟨c,K,e1,_,R,_⟩:=h.back B u;exact⟨c,K,h0,e1.trans J,R.trans h2⟩
   .rw[I j];refine⟨λh=>by simp at h,λ⟨E,u,h0,J,_⟩=>?_⟩;exact absurd (J.trans e) (h.kids (.inl hn) j E u h0)
 .by_cases ac:k=i;·subst ac;exact h.inn d' Z ab z
  .obtain⟨d,hd,e,_⟩:=h.back ac ab;obtain⟨q,V⟩:=ok.par hd hk;rcases h.both d'.par Z z with⟨q0,af,_,hl,_⟩|⟨R,_,_,hn⟩;·rw[hl];exact hv.inn k d q0 hd hk (by rw[e];exact af)
   .rw[e,R,hn]at V;cases V
 .have ae:j≠i:=λe=>by rw[e,h.off.2]at B;cases B
  rw[(h.aL ok U ae).1]at B;obtain⟨L,c,K,hl,I,ha⟩:=hv.low j B;have aa:L≠i:=λe=>by rw[e,h.off.1]at ha;cases ha
  obtain⟨E,u,_,e,_⟩:=h.fwd aa K;exact⟨L,E,u,e.trans hl,by rw[h.path ok U 9 L (.inr ⟨⟨c,K⟩,E,u⟩)];exact I,by rw[(h.aL ok U aa).1];exact ha⟩
theorem Rl(i:Int):Qe.new.at i=if i=0 then some ⟨0,0,false,false,0,none,⟨[],0⟩,[],0⟩else none:=by grind [Jy.at,Tr.at,Xh.at,Qe.new,Qe.at]
theorem Qs.new(z:dep 0=0):Qs dep N Qe.new:=by
 have k:∀c∈Qe.new,c=⟨0,0,false,false,0,none,⟨[],0⟩,[],0⟩:=λc d=>by simpa[Qe.new]using d
 refine⟨by simp[Qe.new],⟨_,by rw[Rl,if_pos rfl],rfl⟩,⟨z,λc d h=>?_⟩,λq B e u=>?_,λc d=>?_⟩;·rw[k c d]at h;exact absurd rfl h
 .rw[k q B]at u;cases u
 .rw[k c d];exact⟨Nat.zero_le _,nofun,nofun,Nat.zero_le _,Nat.zero_le _,Nat.zero_le _⟩
theorem Qdu(j:Int):Qe.new.aL j=false:=by grind [Qe.aL,Rl]
theorem Uz.new:Uz Qe.new:=by
 refine⟨λj k q u a b=>?_,λk q u j=>?_,λk d q B J=>?_,λj E=>?_⟩
 .rw[Qdu];rw[Rl]at u;split at u;·obtain rfl:=Zs u;simp
  .cases u
 .rw[Rl]at u;split at u;·obtain rfl:=Zs u;refine⟨λh=>by simp[Jc.at]at h,λ⟨c,z,I,_⟩=>?_⟩;rw[Rl,if_neg (by omega)]at z;cases z
  .cases u
 .rw[Rl,if_neg (by omega)]at B;cases B
 .rw[Qdu]at E;cases E
theorem Qsc{s:Yk}{q:Qx}(c:1<=s.id)(u:p.at s.id=none)(z:p.at s.par=some q)(d:q.leaf=false)(k:Int):
  (p.put s).at k=if k=s.par then some {q with mem:=if s.aJ then q.mem.add s.id s.share else q.mem,aM:=q.aM+1}else if k=s.id then some (Y0 s)else p.at k:=by grind [Vm.id,Jy.at,Tr.at,Xh.at,Qf.leaf,Tr.put,Qe.put,Yk.aJ,Jc.add,Qm.add,Qf.add,Yk.aM,Qm.aM,Y0,Qe.at,Qlr,Qe.aE,Qep,V0,Qn3]
theorem Qs.put(E:Qs dep N p){s:Yk}{q:Qx}(h1:1<=s.id)(hn:p.at s.id=none)(B:p.at s.par=some q)(hl:q.leaf=false)(ac:q.aM<65536)
  (h0:dep' 0=0)(hd:∀c∈p,c.id≠0->dep' c.id=dep c.id)(hs:dep' s.id=dep' s.par+1)(h8:dep' s.id<=8):Qs dep' N (p.put s):=by
 have u:=E.redep h0 hd;have Z:=Qm2 hn;have R:Qs dep' N (p++[Y0 s]):=by
  have look:∀{i c},p.at i=some c->Qe.at (p++[Y0 s]) i=some c:=λh=>Qep h;refine⟨?_,?_,⟨h0,λc d V=>?_⟩,λx J e U=>?_,λc d=>?_⟩
  .rw[List.map_append];refine List.nodup_append.2 ⟨u.nd,by simp,λa ha b hb=>?_⟩;obtain⟨c,d,rfl⟩:=Z3.1 ha;obtain rfl:b=s.id:=by simpa[Y0]using hb
   exact Z c d
  .obtain⟨r,hr,ae⟩:=u.root;exact⟨r,look hr,ae⟩
  .rcases Zl.1 d with d|d;·obtain⟨k1,⟨q,B⟩,k3⟩:=u.up.2 c d V;exact⟨k1,⟨q,look B⟩,k3⟩
   .obtain rfl:c=Y0 s:=by simpa using d
    exact⟨h1,⟨q,look B⟩,hs,h8⟩
  .rcases Zl.1 J with J|J;·obtain⟨c,d,k⟩:=u.tr x J e U;exact⟨c,look d,k⟩
   .obtain rfl:x=Y0 s:=by simpa using J
    cases U
  .rcases Zl.1 d with d|d;·exact u.ok c d
   .obtain rfl:c=Y0 s:=by simpa using d
    refine⟨Nat.zero_le _,λr hr=>?_,nofun,Nat.zero_le _,Nat.zero_le _,Nat.zero_le _⟩;have z:Ha s.aN=some r:=hr;unfold Ha at z;split at z;·cases z
    .obtain rfl:=Zs z;exact Nat.zero_le _
 rw[Qlr h1 hn B hl];obtain⟨ab,aa⟩:=Qe.aE B;have I:Qe.at (p++[Y0 s]) q.id=some q:=by rw[aa];exact Qep B
 have K:=E.ok q ab;have kf:Kw N (if s.aJ then q.mem.add s.id s.share else q.mem):=by
  split;·exact K.fam.add _ _
  .exact K.fam
 exact R.set (Zv _) (x:={q with mem:=if s.aJ then q.mem.add s.id s.share else q.mem,aM:=q.aM+1}) (y:=q) I rfl rfl ⟨K.total,K.lim,kf.1,kf.2,K.tree,ac⟩
  (λe U=>R.tr q (Qe.aE I).1 e U)
theorem Uz.put(I:Qs dep N p)(hv:Uz p){s:Yk}{q:Qx}(h1:1<=s.id)(E:p.at s.id=none)(Z:p.at s.par=some q)(hl:q.leaf=false)(ag:Qs dep' N (p.put s)):
  Uz (p.put s)/\(∀j,(p.put s).aL j=p.aL j):=by
 have z:=Qsc h1 E Z hl;have ae:s.par≠s.id:=λe=>by rw[e,E]at Z;cases Z
 have V:q.mem.at s.id=none:=by
  cases hx:q.mem.at s.id with
  |none=>rfl
  |some x=> obtain⟨c,u,_⟩:=(hv.memb s.par q Z s.id).1 (by rw[hx];rfl);rw[E]at u;cases u
 have U:∀j,(if s.aJ then q.mem.add s.id s.share else q.mem).at j=if j=s.id/\s.aJ=true then some ⟨s.id,0,0,.new s.share,false⟩else q.mem.at j:=λj=>by
  by_cases B:s.aJ=true;·rw[if_pos B,Qq2];simp[V,B]
  .rw[if_neg B,if_neg (λh=>B h.2)]
 have aa:∀j c,(p.put s).at j=some c->0<j->c.par≠s.id:=λj c u J=>by
  rw[z]at u;split at u;·obtain rfl:=Zs u;rename_i e;obtain⟨r,hr⟩:=I.par Z (by omega);rintro e2;dsimp only at e2;rw[e2,E]at hr;cases hr
  .split at u;·obtain rfl:=Zs u;exact ae
   .obtain⟨r,hr⟩:=I.par u J;rintro e2;rw[e2,E]at hr;cases hr
 have R:(p.put s).at s.id=some (Y0 s):=by rw[z,if_neg (λe=>ae e.symm),if_pos rfl]
 have ac:(p.put s).at s.par=some {q with mem:=if s.aJ then q.mem.add s.id s.share else q.mem,aM:=q.aM+1}:=by rw[z,if_pos rfl]
 have K:(p.put s).aL s.id=false:=by
  rw[Qe.awake_eq R (q:={q with mem:=if s.aJ then q.mem.add s.id s.share else q.mem,aM:=q.aM+1}) ac h1];unfold Jc.up;dsimp only;rw[U];by_cases B:s.aJ=true;·rw[if_pos ⟨rfl,B⟩];rfl
  .rw[if_neg (λh=>B h.2),V];rfl
 have hb:But p (p.put s) s.id:=by
  refine⟨λj J=>?_,λk q' d=>?_,λ_=>aa,⟨Qe.awake_none E,K⟩,λk q' d=>?_,λc r u hr=>?_⟩
  .rw[z,if_neg J];split;·rename_i e;rw[e,Z];rfl
   .rfl
  .rw[z]at d;split at d
   .rename_i e;obtain rfl:=Zs d;exact .inl ⟨q,by rw[e];exact Z,rfl,rfl,rfl,λj J=>by
     dsimp only;rw[U,if_neg (λh=>J h.1)]⟩
   .split at d;·rename_i e;obtain rfl:=Zs d;exact .inr ⟨e,rfl,λ_=>rfl,E⟩
    .exact .inl ⟨q',d,rfl,rfl,rfl,λ_ _=>rfl⟩
  .rw[R];rw[z]at d;have hR:(∃c,some (Y0 s)=some c/\0<s.id/\c.par=k/\c.aJ=true)↔s.par=k/\s.aJ=true:=⟨λ⟨c,u,_,h2,h3⟩=>by
    obtain rfl:=Zs u;exact⟨h2,h3⟩,λh=>⟨_,rfl,h1,h.1,h.2⟩⟩
   rw[hR];split at d
   .rename_i e;obtain rfl:=Zs d;dsimp only;rw[U];by_cases B:s.aJ=true;·simp[B,e]
    .simp[B,V]
   .rename_i e;have ab:¬(s.par=k/\s.aJ=true):=λh=>e h.1.symm;split at d;·obtain rfl:=Zs d;refine⟨λh=>?_,λh=>absurd h ab⟩;simp[Y0,Jc.at]at h
    .refine⟨λh=>?_,λh=>absurd h ab⟩;obtain⟨c,u,_⟩:=(hv.memb k q' d s.id).1 h;rw[E]at u;cases u
  .rw[R]at u;obtain rfl:=Zs u;have af:(p.put s).at s.par=some r:=hr;rw[ac]at af;obtain rfl:=Zs af;exact hl
 refine⟨hv.but I ag hb,λj=>?_⟩;by_cases J:j=s.id;·rw[J,K,Qe.awake_none E]
 .exact(hb.aL I ag J).1
theorem Sh(i k:Int):Qe.at (p.filter λx=>!decide (x.id=i)) k=if k=i then none else p.at k:=by grind [Qe.at,Vm.id,Jy.at,Tr.at,Xh.at]
theorem Iz{i:Int}{c q:Qx}(z:1<=i)(B:p.at i=some c)(E:c.aM=0)(ha:p.aL i=false)(u:p.at c.par=some q)(k:Int):
  (p.drop i).at k=if k=i then none else if k=c.par then some {q with mem:=q.mem.drop i,aM:=q.aM-1}else p.at k:=by
 rw[drop_eq z B E ha u,Sh];split;·rfl
 .have d:=(Qe.aE u).2;have:=V0 (p:=p) (x:={q with mem:=q.mem.drop i,aM:=q.aM-1}) (y:=q) (show p.at q.id=_ by rw[d];exact u) k;rw[this];show(if k=q.id then _ else _)=_;rw[d]
theorem Qs.drop(I:Qs dep N p)(hv:Uz p){i:Int}{c q:Qx}(h1:1<=i)(hc:p.at i=some c)(hu:c.aM=0)(ha:p.aL i=false)(J:p.at c.par=some q)(hk:∀j d,p.at j=some d->0<j->d.par≠i):Qs dep N (p.drop i):=by
 obtain⟨ac,K⟩:=Qe.aE J;have kq:=I.ok q ac;have kf:Kw N (q.mem.drop i):=kq.fam.drop i;have k:=I.set (Zv N) (x:={q with mem:=q.mem.drop i,aM:=q.aM-1}) (y:=q) (show p.at q.id=_ by rw[K];exact J) rfl rfl ⟨kq.total,kq.lim,kf.1,kf.2,kq.tree,by have:=kq.aM;dsimp only;omega⟩ (λe V=>I.tr q ac e V);have aa:=Iz h1 hc hu ha J;rw[drop_eq h1 hc hu ha J]at aa|-;generalize ae:p.set {q with mem:=q.mem.drop i,aM:=q.aM-1}=Z at k aa|-;have E:∀j,Z.at j=if j=c.par then some {q with mem:=q.mem.drop i,aM:=q.aM-1}else p.at j:=λj=>by rw[<-ae,V0 (p:=p) (x:={q with mem:=q.mem.drop i,aM:=q.aM-1}) (y:=q) (show p.at q.id=_ by rw[K];exact J) j];show(if j=q.id then _ else _)=_;rw[K]
 have ab:∀j d,Z.at j=some d->0<j->d.par≠i:=λj d U hj=>by
  rw[E]at U;split at U;·rename_i e;obtain rfl:=Zs U;exact hk c.par q J (by omega)
  .exact hk j d U hj
 have z:∀x,x∈Z.filter (λx=>!decide (x.id=i))->x∈Z/\x.id≠i:=λx R=>by have:=List.mem_filter.1 R;exact⟨this.1,by simpa using this.2⟩
 refine⟨k.nd.sublist (List.filter_sublist.map _),?_,⟨k.up.1,λx R ag=>?_⟩,λx R e V=>?_,λx R=>k.ok x (z x R).1⟩;·obtain⟨r,hr,af⟩:=k.root;exact⟨r,by rw[Sh,if_neg (by omega)];exact hr,af⟩
 .obtain⟨B,ah⟩:=z x R;obtain⟨k1,⟨r,hr⟩,k3⟩:=k.up.2 x B ag;have u:Z.at x.id=some x:=Qe.at_of k.nd B;exact⟨k1,⟨r,by rw[Sh,if_neg (ab x.id x u k1)];exact hr⟩,k3⟩
 .obtain⟨B,ah⟩:=z x R;obtain⟨d,U,k2,k3⟩:=k.tr x B e V;refine⟨d,?_,k2,k3⟩;rw[Sh];split
  .rename_i e2;exfalso;have u:Z.at x.id=some x:=Qe.at_of k.nd B;obtain⟨a,j,b⟩:=e;dsimp only at e2 V;subst e2;rw[E]at u;split at u;·obtain rfl:=Zs u;have:=((hv.ent j c.par q J a b).1 V).2.1;rw[ha]at this;cases this
   .have:=((hv.ent j x.id x u a b).1 V).2.1;rw[ha]at this;cases this
  .exact U
theorem Uz.drop(K:Qs dep N p)(hv:Uz p){i:Int}{c q:Qx}(h1:1<=i)(Z:p.at i=some c)(hu:c.aM=0)(ha:p.aL i=false)(U:p.at c.par=some q)(hk:∀j d,p.at j=some d->0<j->d.par≠i):
  Uz (p.drop i)/\(∀j,(p.drop i).aL j=p.aL j):=by
 have V:=K.drop hv h1 Z hu ha U hk;have B:=Iz h1 Z hu ha U;have J:(p.drop i).at i=none:=by rw[B,if_pos rfl]
 have I:(p.drop i).aL i=false:=Qe.awake_none J;have aa:c.par≠i:=hk i c Z (by omega);have R:∀j d,(p.drop i).at j=some d->0<j->d.par≠i:=λj d z E=>by
  rw[B]at z;split at z;·cases z
  .split at z;·rename_i e;obtain rfl:=Zs z;exact hk c.par q U (by omega)
   .exact hk j d z E
 have hb:But p (p.drop i) i:=by
  refine⟨λj E=>?_,λk q' u=>?_,λ_=>R,⟨ha,I⟩,λk q' u=>?_,λd r z hr=>by rw[J]at z;cases z⟩
  .rw[B,if_neg E];split;·rename_i e;rw[e,U];rfl
   .rfl
  .rw[B]at u;split at u;·cases u
   .split at u
    .rename_i e;obtain rfl:=Zs u;exact .inl ⟨q,by rw[e];exact U,rfl,rfl,rfl,λj E=>by
      dsimp only;rw[M4,if_neg E]⟩
    .exact .inl ⟨q',u,rfl,rfl,rfl,λ_ _=>rfl⟩
  .rw[J];refine⟨λh=>?_,λ⟨d,z,_⟩=>by cases z⟩;rw[B]at u;split at u;·cases u
   .split at u;·obtain rfl:=Zs u;dsimp only at h;rw[M4,if_pos rfl]at h;cases h
    .rename_i e;obtain⟨d,z,_,h2,_⟩:=(hv.memb k q' u i).1 h;rw[Z]at z;obtain rfl:=Zs z;exact absurd h2.symm e
 refine⟨hv.but K V hb,λj=>?_⟩;by_cases E:j=i;·rw[E,I,ha]
 .exact(hb.aL K V E).1
theorem Qit(I:Qs dep N p){s:Yk}{c q:Qx}(Z:1<=s.id)(J:p.at s.id=some c)(ha:p.aL s.id=false)(R:p.at c.par=some q)(k:Int):
  (p.aK s).at k=if k=s.id then some (Uk c s)else if k=c.par then some {q with mem:=if s.aJ then(q.mem.drop s.id).add s.id s.share else q.mem.drop s.id}else p.at k:=by
 obtain⟨z,d⟩:=I.pid J (by omega) R;have B:=(Qe.aE J).2;rw[Qbf I Z J ha R];have V:∀j,(p.set {q with mem:=q.mem.drop s.id}).at j=if j=c.par then some {q with mem:=q.mem.drop s.id}else p.at j:=λj=>by rw[V0 (p:=p) (x:={q with mem:=q.mem.drop s.id}) (y:=q) (show p.at q.id=_ by rw[d];exact R) j];show(if j=q.id then _ else _)=_;rw[d]
 have U:s.id≠c.par:=λe=>z (by rw[d,<-e]);have K:∀j,((p.set {q with mem:=q.mem.drop s.id}).set (Uk c s)).at j=if j=s.id then some (Uk c s)else if j=c.par then some {q with mem:=q.mem.drop s.id}else p.at j:=λj=>by rw[V0 (x:=Uk c s) (y:=c) (show Qe.at _ c.id=_ by rw[B,V,if_neg U];exact J) j];show(if j=c.id then _ else _)=_;rw[B,V]
 split
 .rw[V0 (x:={q with mem:=(q.mem.drop s.id).add s.id s.share}) (y:={q with mem:=q.mem.drop s.id}) (show Qe.at _ q.id=_ by rw[K q.id,if_neg z,if_pos d]) k];show(if k=q.id then _ else _)=_;rw[K];by_cases E:k=s.id;·rw[if_neg (λe=>z (e.symm.trans E)),if_pos E,if_pos E]
  .rw[if_neg E,if_neg E];by_cases u:k=c.par;·rw[if_pos (u.trans d.symm),if_pos u]
   .rw[if_neg (λe=>u (e.trans d)),if_neg u,if_neg u]
 .exact K k
theorem Qs.aK(d:Qs dep N p){s:Yk}{c q:Qx}(h1:1<=s.id)(hc:p.at s.id=some c)(ha:p.aL s.id=false)(V:p.at c.par=some q):Qs dep N (p.aK s):=by
 obtain⟨U,k⟩:=d.pid hc (by omega) V;obtain⟨aa,E⟩:=Qe.aE hc;have Z:=(Qe.aE V).1;rw[Qbf d h1 hc ha V];have kq:=d.ok q Z;have J:=d.set (Zv N) (x:={q with mem:=q.mem.drop s.id}) (y:=q) (show p.at q.id=_ by rw[k];exact V) rfl rfl (kq.withMem (Zv _) (kq.fam.drop _)) (λe R=>d.tr q Z e R);have e1:∀j,(p.set {q with mem:=q.mem.drop s.id}).at j=if j=c.par then some {q with mem:=q.mem.drop s.id}else p.at j:=λj=>by rw[V0 (p:=p) (x:={q with mem:=q.mem.drop s.id}) (y:=q) (show p.at q.id=_ by rw[k];exact V) j];show(if j=q.id then _ else _)=_;rw[k]
 have ab:s.id≠c.par:=λe=>U (by rw[k,<-e]);generalize p.set {q with mem:=q.mem.drop s.id}=K at J e1|-;have B:K.at s.id=some c:=by rw[e1,if_neg ab];exact hc
 have kc:=d.ok c aa;have u:=J.set (Zv N) (x:=Uk c s) (y:=c) (show K.at c.id=_ by rw[E];exact B) rfl rfl ⟨Nat.zero_le _,λr hr=>by
  have z:Ha s.aN=some r:=hr;unfold Ha at z;split at z;·cases z
  .obtain rfl:=Zs z;exact Nat.zero_le _,kc.mem,kc.mark,kc.tree,kc.aM⟩ (λe R=>J.tr c (Qe.aE B).1 e R)
 have e2:∀j,(K.set (Uk c s)).at j=if j=s.id then some (Uk c s)else K.at j:=λj=>by rw[V0 (x:=Uk c s) (y:=c) (show K.at c.id=_ by rw[E];exact B) j];show(if j=c.id then _ else _)=_;rw[E]
 generalize K.set (Uk c s)=p2 at u e2|-;split
 .have I:p2.at q.id=some {q with mem:=q.mem.drop s.id}:=by rw[e2 q.id,if_neg U,e1 q.id,if_pos k]
  have ac:=u.ok _ (Qe.aE I).1;exact u.set (Zv N) (x:={q with mem:=(q.mem.drop s.id).add s.id s.share}) (y:={q with mem:=q.mem.drop s.id}) I rfl rfl (kq.withMem (Zv _) ((kq.fam.drop _).add _ _)) (λe R=>u.tr _ (Qe.aE I).1 e R)
 .exact u
theorem Uz.aK(B:Qs dep N p)(hv:Uz p){s:Yk}{c q:Qx}(h1:1<=s.id)(K:p.at s.id=some c)(ha:p.aL s.id=false)(hq:p.at c.par=some q):
  Uz (p.aK s)/\(∀j,(p.aK s).aL j=p.aL j):=by
 have ab:=B.aK h1 K ha hq;have z:=Qit B h1 K ha hq;obtain⟨ac,af⟩:=B.pid K (by omega) hq;have ag:s.id≠c.par:=λe=>ac (by rw[af,<-e]);have I:(p.aK s).at s.id=some (Uk c s):=by rw[z,if_pos rfl]
 have Z:(p.aK s).at c.par=some {q with mem:=if s.aJ then(q.mem.drop s.id).add s.id s.share else q.mem.drop s.id}:=by rw[z,if_neg (Ne.symm ag),if_pos rfl]
 have V:∀j,(if s.aJ then(q.mem.drop s.id).add s.id s.share else q.mem.drop s.id).at j=if j=s.id then(if s.aJ=true then some ⟨s.id,0,0,.new s.share,false⟩else none)else q.mem.at j:=λj=>by
  by_cases E:s.aJ=true
  .rw[if_pos E,Qq2,M4,M4];by_cases J:j=s.id;·simp[J,E]
   .simp[J]
  .rw[if_neg E,M4];simp[E]
 have R:(p.aK s).aL s.id=false:=by
  rw[Qe.awake_eq I (q:={q with mem:=if s.aJ then(q.mem.drop s.id).add s.id s.share else q.mem.drop s.id}) Z h1];unfold Jc.up;dsimp only;rw[V,if_pos rfl];by_cases E:s.aJ=true;·rw[if_pos E];rfl
  .rw[if_neg E];rfl
 have hb:But p (p.aK s) s.id:=by
  refine⟨λj J=>?_,λk q' u=>?_,λh=>?_,⟨ha,R⟩,λk q' u=>?_,λd r U hr=>?_⟩
  .rw[z,if_neg J];split;·rename_i e;rw[e,hq];rfl
   .rfl
  .rw[z]at u;split at u;·rename_i e;obtain rfl:=Zs u;exact .inl ⟨c,by rw[e];exact K,rfl,rfl,rfl,λ_ _=>rfl⟩
   .split at u
    .rename_i e;obtain rfl:=Zs u;exact .inl ⟨q,by rw[e];exact hq,rfl,rfl,rfl,λj J=>by
      dsimp only;rw[V,if_neg J]⟩
    .exact .inl ⟨q',u,rfl,rfl,rfl,λ_ _=>rfl⟩
  .rw[K,I]at h;rcases h with h|h<;>cases h
  .rw[I];have hR:(∃d,some (Uk c s)=some d/\0<s.id/\d.par=k/\d.aJ=true)↔c.par=k/\s.aJ=true:=⟨λ⟨d,U,_,h2,h3⟩=>by
    obtain rfl:=Zs U;exact⟨h2,h3⟩,λh=>⟨_,rfl,h1,h.1,h.2⟩⟩
   rw[hR];by_cases hk:k=c.par
   .rw[hk,Z]at u;obtain rfl:=Zs u;dsimp only;rw[V,if_pos rfl];by_cases E:s.aJ=true;·simp[E,hk]
    .simp[E]
   .have ae:¬(c.par=k/\s.aJ=true):=λh=>hk h.1.symm;refine⟨λh=>?_,λh=>absurd h ae⟩;have:∀q0,p.at k=some q0->(q0.mem.at s.id).isSome=true->False:=λq0 h0 hm=>by obtain⟨d,U,_,h2,_⟩:=(hv.memb k q0 h0 s.id).1 hm;rw[K]at U;obtain rfl:=Zs U;exact hk h2.symm
    rw[z]at u;by_cases e:k=s.id;·rw[if_pos e]at u;obtain rfl:=Zs u;exact(this c (by rw[e];exact K) h).elim
    .rw[if_neg e,if_neg hk]at u;exact(this q' u h).elim
  .rw[I]at U;obtain rfl:=Zs U;have aa:(p.aK s).at c.par=some r:=hr;rw[Z]at aa;obtain rfl:=Zs aa;exact hv.inn s.id c q K (by omega) hq
 refine⟨hv.but B ab hb,λj=>?_⟩;by_cases J:j=s.id;·rw[J,R,ha]
 .exact(hb.aL B ab J).1
end
section
attribute [local go_sem ↓] Qma
section
variable{w:World}{F:Fp}{b:Nat}{h:Qm}
theorem Qda(h:Qm){i:Int}{c:Vm}(d:h.at i=some c):h.get i=c:=by unfold Qm.get;rw[d];rfl
theorem Qe1(hh:Q9 w F b h)(ok:J8 h)(s:Yk):
  ZW 119 #[ptr b,Fb s] w (ZI (h.aG s)) λw'=>Q9 w' (Qn F w w') b (h.change s)/\Qc F w w':=by
 have aq:=O (λw'(c:Qc Qb w w')=>Q9.obj.aB hh c (Jl.none F));have NO:Hi (∀w',Qc Qb w w'->h.aG s≠0->Q9 w' (Qn F w w') b (h.change s)/\Qc F w w'):=O (λw' c h0=>by rw[Fq h0];exact Q9.obj.same hh c);have ar:Hi (∀w',Qc Qb w w'->h.change s=h->Q9 w' (Qn F w w') b (h.change s)/\Qc F w w'):=O (λw' c h0=>by rw[h0];exact Q9.obj.same hh c);obtain⟨W,hW⟩:=Zx (w.alloc (.cells (Z4 s.leaf s) 29));have S0:Hi (Xx W w.heap.size s):=O (by rw[hW];exact Xx.new w s);have C0:Hi (Qc Qb w W):=O (by rw[hW];exact(Zg _ _).alloc _);have a7:Hi (w.heap.size<W.heap.size):=O (Qh.lt S0.o);have HN:=O (Gz (aq.o W C0.o));obtain⟨ma,mu,l,vs,G,hp,hn,ah,ai,aw,fb,fm,fG,az,a0,a1,ax,_⟩:=hh.opn;have ag:=O ah;have LK:=O (λ(w')(cc:Qc Qb w w')=>show(Instr.lookup 111 (.map (some ma)) (ZI s.id) true).run prog w'=.ok (.tuple #[.agg (P0 (h.get s.id)),.bool (h.at s.id).isSome]) w' by
  have hL:=Dj (P:=prog) (ai.aB cc (λh=>h)) underlying111 underlying3 (Sf w') s.id;rw[Ed s.id l hn,<-Qm.at_perm hp hn]at hL;rw[hL];unfold Qm.get;cases h.at s.id<;>rfl)
 have a5:=O (λ(w')(cc:Qc Qb w w')(c:Vm)(hc:h.at s.id=some c)=>show(Instr.lookup 111 (.map (some ma)) (ZI s.id) false).run prog w'=.ok (.agg (P0 c)) w' by
  have hL:=Du (P:=prog) (ai.aB cc (λh=>h)) underlying111 underlying3 (Sf w') s.id;rw[Ed s.id l hn,<-Qm.at_perm hp hn,hc]at hL;exact hL)
 cases hc:h.at s.id with
 |none=>
  have E:=O (show h.aG s=81 by unfold Qm.aG;rw[hc]);have J:h.get s.id=Qto:=by unfold Qm.get;rw[hc];rfl
  rw[hc,J]at LK;obtain⟨c,ay⟩:=Zx Qto;rw[<-ay]at LK;dsimp only[Option.isSome_none]at LK;unfold Fb ptr at*;clear hh ok ah ai aw hp hn fb fm fG az a0 a1 ax hc J ay;apply WH func119;go_wp2_with fail;rw[<-hW];clear hW;apply Zy HN;rintro w1 rfl;go_wp2_with fail;apply XC 3221111111111 Qb W;iterate 3 (refine Qy (h:=?_);try simp only[Act.put,Za,Zc,Zb])
  iterate 1 (apply YK λ_ hv=>Q4 (hv.blk (C0.o.blk ag.o (λh=>h)) (λh=>h)))
  (refine Qy (h:=?_);try simp only[Act.put,Za,Zc,Zb]);iterate 2 (apply YK λK hv=>Zt ((show Xx K w.heap.size s from S0.o.aB hv).cells) (LK.o K (C0.o.aA hv)))
  apply YA 0;go_wp2_with fail;refine⟨((Zg Qb W).alloc _).drew,?_⟩;have V:Qh (W.alloc (.cells Z6 109)).drew W.heap.size Z6 109:=(Qh.new _ _ _).drew;have D1:Qc Qb W (W.alloc (.cells Z6 109)).drew:=((Zg Qb W).alloc _).drew;generalize(W.alloc (.cells Z6 109)).drew=W1 at V D1|-;obtain⟨W2,s2,af,C2⟩:=Q0 (P:=prog) (vs:=P0 c) V rfl (Sn c);have R:Qc Qb W W2:=D1.trans C2 (λk e=>.inr (by omega));have Z:=O R;have ab:=O af;have am:=O (C0.o.aA R);clear V D1 af C2 R;refine Yb ?_;go_wp2_with fail;refine⟨Z.o,?_⟩;apply YI 0;clear s2;have U:=O (NO.o W2 am.o (by rw[E.o];decide));go_wp2_with fail;go_ret;exact⟨by rw[E.o];rfl,U.o⟩
 |some c=>
  have J:h.get s.id=c:=Qda h hc;rw[hc,J]at LK;dsimp only[Option.isSome_some]at LK;have a6:=O (λw' cc=>a5.o w' cc c hc);have av:h.aG s=if(c.sp.aK s).mayE≠0 then 130 else 0:=by unfold Qm.aG;rw[hc]
  have EE:=O av;have a4:=O (Qgt ok hc);have au:Hi (h.aG s=0->∀w3,Qc Qb w w3->∃w4,(Instr.mapUpdate 111 (.map (some ma)) (ZI s.id) (.agg (P0 ⟨c.sp.aK s,c.d⟩))).run prog w3=.ok () w4/\Q9 w4 (Qn F w w4) b (h.change s)/\Qc F w w4):=O (λh0=>by
   obtain⟨bg,bl,be,k⟩:=Qev hh h0 hc;have e:=ah.inj be;injection e with e;injection e with I _;injection I with I;have I:ma=bg:=Zs I;subst I;exact k)
  have aj:=O (λw=>Qef (c.sp.aK s) w);unfold Fb ptr at*;clear hh ok ah ai aw hp hn fb fm fG az a0 a1 ax hc J av;apply WH func119;go_wp2_with fail;rw[<-hW];clear hW;apply Zy HN;rintro w1 rfl;go_wp2_with fail;apply XC 3221111111111 Qb W;iterate 3 (refine Qy (h:=?_);try simp only[Act.put,Za,Zc,Zb])
  iterate 1 (apply YK λ_ hv=>Q4 (hv.blk (C0.o.blk ag.o (λh=>h)) (λh=>h)))
  (refine Qy (h:=?_);try simp only[Act.put,Za,Zc,Zb]);iterate 2 (apply YK λK hv=>Zt ((show Xx K w.heap.size s from S0.o.aB hv).cells) (LK.o K (C0.o.aA hv)))
  apply YA 0;go_wp2_with fail;refine⟨((Zg Qb W).alloc _).drew,?_⟩;have V:Qh (W.alloc (.cells Z6 109)).drew W.heap.size Z6 109:=(Qh.new _ _ _).drew;have D1:Qc Qb W (W.alloc (.cells Z6 109)).drew:=((Zg Qb W).alloc _).drew;generalize(W.alloc (.cells Z6 109)).drew=W1 at V D1|-;obtain⟨W2,s2,af,C2⟩:=Q0 (P:=prog) (vs:=P0 c) V rfl (Sn c);have R:Qc Qb W W2:=D1.trans C2 (λk e=>.inr (by omega));have Z:=O R;have ab:=O af;have am:=O (C0.o.aA R);clear V D1 af C2 R;refine Yb ?_;go_wp2_with fail;refine⟨Z.o,?_⟩;apply YI 0;clear s2;go_wp2_with fail;have S2:=O (S0.o.aB Z.o);have g0:=(show Xx W2.drew w.heap.size s from S2.o.aB (Zg Qb W2).drew).cells;have NE:Hi (w.heap.size≠W.heap.size):=O (λe=>by have:=a7.o;omega);apply XC 300200200111100 (λk=>k=W.heap.size) W2;iterate 2 (refine Xe (h:=?_))
  (refine Qy (h:=?_);try simp only[Act.put,Za,Zc,Zb]);iterate 1 (apply YK λK hv=>(show Xx K w.heap.size s from hv.blk S2.o NE.o).cells)
  (refine Qy (h:=?_);try simp only[Act.put,Za,Zc,Zb]);iterate 1 (apply YK λK hv=>(show Xx K w.heap.size s from hv.blk S2.o NE.o).cells)
  apply YA 0;clear g0;have e0:=Dm ab.o;have f3:=ab.o.frozen 3;have f4:=ab.o.frozen 4;have f5:=ab.o.frozen 5;go_wp2_with fail;have B3:Qh (((W2.setCell ⟨W.heap.size,3,none⟩ (ZU s.real.f)).setCell ⟨W.heap.size,4,none⟩ (ZU s.real.l)).setCell ⟨W.heap.size,5,none⟩ (ZU s.real.r)).drew W.heap.size (P0 ⟨{c.sp with real:=s.real},c.d⟩) 109:=(((ab.o.set 3 _).set 4 _).set 5 _).drew;have D3:Qc (λk=>k=W.heap.size) W2 (((W2.setCell ⟨W.heap.size,3,none⟩ (ZU s.real.f)).setCell ⟨W.heap.size,4,none⟩ (ZU s.real.l)).setCell ⟨W.heap.size,5,none⟩ (ZU s.real.r)).drew:=((((Zg (λk=>k=W.heap.size) W2).setCell _ (.inl rfl)).setCell _ (.inl rfl)).setCell _ (.inl rfl)).drew;refine⟨D3,?_⟩;generalize(((W2.setCell ⟨W.heap.size,3,none⟩ (ZU s.real.f)).setCell ⟨W.heap.size,4,none⟩ (ZU s.real.l)).setCell ⟨W.heap.size,5,none⟩ (ZU s.real.r)).drew=W3 at B3 D3|-;have ac:=O B3;have D3:=O D3;clear B3 e0 f3 f4 f5;apply YA 0;have e0:=Dm ac.o;have f6:=ac.o.frozen 6;have f7:=ac.o.frozen 7;have f8:=ac.o.frozen 8;go_wp2_with fail;have B4:Qh (((W3.setCell ⟨W.heap.size,6,none⟩ (ZU s.share.f)).setCell ⟨W.heap.size,7,none⟩ (ZU s.share.l)).setCell ⟨W.heap.size,8,none⟩ (ZU s.share.r)) W.heap.size (P0 ⟨{c.sp with real:=s.real,share:=s.share},c.d⟩) 109:=(((ac.o.set 6 _).set 7 _).set 8 _);have D4:Qc (λk=>k=W.heap.size) W2 (((W3.setCell ⟨W.heap.size,6,none⟩ (ZU s.share.f)).setCell ⟨W.heap.size,7,none⟩ (ZU s.share.l)).setCell ⟨W.heap.size,8,none⟩ (ZU s.share.r)):=((((D3.o).setCell _ (.inl rfl)).setCell _ (.inl rfl)).setCell _ (.inl rfl));refine⟨D4,?_⟩;generalize(((W3.setCell ⟨W.heap.size,6,none⟩ (ZU s.share.f)).setCell ⟨W.heap.size,7,none⟩ (ZU s.share.l)).setCell ⟨W.heap.size,8,none⟩ (ZU s.share.r))=W4 at B4 D4|-;have ae:=O B4;have D4:=O D4;clear B4 e0 f6 f7 f8;apply YA 0;have e0:=Dm ae.o;have f9:=ae.o.frozen 9;have a8:=ae.o.frozen 10;have a9:=ae.o.frozen 11;go_wp2_with fail;have B5:Qh (((W4.setCell ⟨W.heap.size,9,none⟩ (ZU s.aN.f)).setCell ⟨W.heap.size,10,none⟩ (ZU s.aN.l)).setCell ⟨W.heap.size,11,none⟩ (ZU s.aN.r)) W.heap.size (P0 ⟨c.sp.aK s,c.d⟩) 109:=(((ae.o.set 9 _).set 10 _).set 11 _);have D5:Qc (λk=>k=W.heap.size) W2 (((W4.setCell ⟨W.heap.size,9,none⟩ (ZU s.aN.f)).setCell ⟨W.heap.size,10,none⟩ (ZU s.aN.l)).setCell ⟨W.heap.size,11,none⟩ (ZU s.aN.r)):=((((D4.o).setCell _ (.inl rfl)).setCell _ (.inl rfl)).setCell _ (.inl rfl));generalize(((W4.setCell ⟨W.heap.size,9,none⟩ (ZU s.aN.f)).setCell ⟨W.heap.size,10,none⟩ (ZU s.aN.l)).setCell ⟨W.heap.size,11,none⟩ (ZU s.aN.r))=W5 at B5 D5|-;have an:=O B5;have D5:=O D5;clear B5 e0 f9 a8 a9;refine Ky ?_;obtain⟨r,hr⟩:=Zx (c.sp.aK s);have HR:=O hr;have a2:=O (am.o.trans D5.o λk e=>.inr (by have:=C0.o.size;omega));rw[<-hr]at an aj EE;clear hr;obtain⟨e0,I,e2,e3,e4,e5,e6,e7,e8,e9,d,q,u,z,B⟩:=Dm an.o;dsimp only at e0 I e2 e3 e4 e5 e6 e7 e8 e9 d q u z B;go_wp2_with fail;apply Zz (aj.o _);intro w6 c6;have aa:=O (a2.o.aA c6);have a3:=O (c6.blk an.o (λh=>h));have S6:=O (c6.blk (D5.o.blk S2.o NE.o) (λh=>h));clear c6 e0 I e2 e3 e4 e5 e6 e7 e8 e9 d q u z B;by_cases hm:r.mayE=0
  .have E:=O (show h.aG s=0 by rw[EE.o,if_neg (by omega)]);have hd:decide (r.mayE=0)=true:=by simpa using hm
   have ao:(r.mayE==0)=true:=by simpa using hm
   rw[hm]at hd ao|-;clear hm hd ao;go_wp2_with fail;have ap:=O (show Qh w6.drew W.heap.size (P0 ⟨c.sp.aK s,c.d⟩) 109 by rw[<-HR.o];exact a3.o.drew);obtain⟨e0,I,e2,e3,e4,e5,e6,e7,e8,e9,d,q,u,z,B⟩:=Dm ap.o;dsimp only[Yk.aK]at e0 I e2 e3 e4 e5 e6 e7 e8 e9 d q u z B;have g0:=(show Xx w6.drew w.heap.size s from Xx.aB S6.o (Zg Qb w6).drew).cells;have z0:=Q4 ((aa.o.blk ag.o (λh=>h)).drew);have lk:=a6.o w6.drew aa.o.drew;unfold P0 at lk;apply XB 0;iterate 9 (refine Jq (h:=?_))
   clear e0 I e2 e3 e4 e5 e6 e7 e8 e9 d q u z B g0 z0 lk;refine Jo ?_;simp only[Act.put,Za,Zc,Zb];cases bf:Qr5 (s.real.f:Int) (s.real.l:Int) (s.real.r:Int) (s.share.f:Int) (s.share.l:Int) (s.share.r:Int) (s.aN.f:Int) (s.aN.l:Int) (s.aN.r:Int) (c.sp.real.f:Int) (c.sp.real.l:Int) (c.sp.real.r:Int) (c.sp.share.f:Int) (c.sp.share.l:Int) (c.sp.share.r:Int) (c.sp.aN.f:Int) (c.sp.aN.l:Int) (c.sp.aN.r:Int)with
   |false=>
    have SM:=O (a4.o (by
     obtain⟨q1,q2,q3,q4,q5,q6,q7,q8,q9⟩:=Qlb bf;unfold Qfo Qc0;simp only[Zw,beq_iff_eq];exact⟨⟨q1.symm,q2.symm,q3.symm⟩,⟨q4.symm,q5.symm,q6.symm⟩,q7.symm,q8.symm,q9.symm⟩))
    have U:=O (ar.o w6.drew aa.o.drew SM.o);go_wp2_with fail;go_ret;exact⟨by rw[E.o];rfl,U.o⟩
   |true=>
    obtain⟨w8,r8,al,ak⟩:=au.o E.o w6.drew.drew aa.o.drew.drew;have U:=O (Zt al ak);unfold P0 at r8;dsimp only[Yk.aK]at r8;clear al ak;go_wp2_with fail;obtain⟨e0,I,e2,e3,e4,e5,e6,e7,e8,e9,d,q,u,z,B⟩:=Dm ap.o.drew;dsimp only[Yk.aK]at e0 I e2 e3 e4 e5 e6 e7 e8 e9 d q u z B;have g0:=(show Xx w6.drew.drew w.heap.size s from Xx.aB S6.o (Zg Qb w6).drew.drew).cells;have z0:=Q4 ((aa.o.blk ag.o (λh=>h)).drew.drew);apply XB 20000000;apply YA 0;clear e0 I e2 e3 e4 e5 e6 e7 e8 e9 d q u z B g0 z0;go_wp2_with fail;refine Jo ?_;clear r8;go_wp2;go_ret;exact⟨by rw[E.o];rfl,U.o⟩
  .have E:=O (show h.aG s=130 by rw[EE.o,if_pos hm]);have hd:decide (r.mayE=0)=false:=by simpa using hm
   have ao:(r.mayE==0)=false:=by simpa using hm
   have U:=O (NO.o w6 aa.o (by rw[E.o];decide));clear hm;go_wp2_with fail;go_ret;exact⟨by rw[E.o];rfl,U.o⟩
end
end
end Go.Proofs.YtigcnnkagkbflaaGreat
