/- A part of the proof: no condition. -/
import Derived.Test.YtnnhmpehkbihnaaGreatPk30
namespace Go.Proofs.YtnnhmpehkbihnaaGreat
set_option linter.unusedVariables false
set_option maxRecDepth 100000
set_option maxHeartbeats 4000000
open Go.RowKit
open Go.Proofs.Tryz
section
variable{p p':Qe}{N:Nat}{dep:Int→Nat}
theorem Gv(h:Jv p p'):∀(n:Nat)(i:Int),p'.path n i=p.path n i
 |0,_=>rfl
 |n+1,i=>by
  rw[Qe.path,Qe.path];by_cases hi:i<1;·rw[if_pos hi,if_pos hi]
  ·rw[if_neg hi,if_neg hi];cases hc:p.at i with
   |none=>rw[h.none hc]
   |some c=> obtain⟨c',d,e,_⟩:=h.get hc;rw[d];dsimp only;rw[e,Gv h n]
theorem Mf(q:Qs dep N p):∀{l:List Int}{id:Int},Vy p (id::l)→∀k∈l,dep k<dep id
 |[],_,_,k,d=>by cases d
 |x::l,id,h,k,d=>by
  obtain⟨h1,⟨c,hc,J⟩,B⟩:=h;obtain⟨I,u⟩:=Qe.aE hc;have E:=(q.up.2 c I (by omega)).2.2.1;have z:c.par=x:=J;rw[u,z]at E;rcases Zu.1 d with rfl|d;·omega
  ·have:=Mf q B k d;omega
theorem Qa0(c:Qs dep N p){l:List Int}{id:Int}(h:Vy p (id::l)):id∉l:=fun d=>by have:=Mf c h id d;omega
theorem Sv{n:Nat}{i:Int}{c:Qx}(hc:p.at i=some c)(hi:0<i):i∈p.path (n+1) i:=by rw[Qe.path,if_neg (by omega),hc];simp
theorem Qnk(k:Qs dep N p):∀{n:Nat}{i j:Int}{c:Qx},dep i<n→j∈p.path n i→p.at j=some c→0<c.par→c.par∈p.path n i
 |0,i,j,c,hd,_,_,_=>by omega
 |n+1,i,j,c,hd,d,hc,hp=>by
  rw[Qe.path]at d⊢;by_cases hi:i<1;·rw[if_pos hi]at d;cases d
  ·rw[if_neg hi]at d⊢;cases u:p.at i with
   |none=>rw[u]at d;cases d
   |some x=>
    rw[u]at d;dsimp only at d⊢;obtain⟨J,E⟩:=Qe.aE u;have B:=(k.up.2 x J (by omega)).2.2.1;rw[E]at B;rcases Zu.1 d with rfl|d;·rw[u]at hc;obtain rfl:=Zs hc;obtain⟨q,z⟩:=k.par u (by omega);refine Zr _ ?_;have I:=(k.up.2 q (Qe.aE z).1 (by rw[(Qe.aE z).2];omega)).2.2.1;rw[(Qe.aE z).2]at I;obtain⟨m,rfl⟩:∃m,n=m+1:=⟨n-1,by omega⟩;exact Sv z hp
    ·exact Zr _ (Qnk k (by omega) d hc hp)
theorem Quz(d:Qs dep N p){i:Int}{c:Qx}(hc:p.at i=some c):dep i≤8:=by
 obtain⟨q,k⟩:=Qe.aE hc;have h0:=d.pos hc;by_cases h:i=0;·rw[h,d.up.1];omega
 ·have:=(d.up.2 c q (by omega)).2.2.2;rwa[k]at this
structure Uz(p:Qe):Prop where
 ent:∀j,Mw p j
 memb:Bt p
 inn:∀i c q,p.at i=some c→0<i→p.at c.par=some q→q.leaf=false
 low:∀j,p.aL j=true→∃L c,p.at L=some c∧c.leaf=true∧j∈p.path 9 L∧p.aL L=true
theorem Mi(k:Qs dep N p)(B:∀i c q,p.at i=some c→0<i→p.at c.par=some q→q.leaf=false):∀{n:Nat}{i j:Int},j∈p.path n i→j≠i→∃c,p.at j=some c∧c.leaf=false
 |0,i,j,d,_=>by rw[Qe.path]at d;cases d
 |n+1,i,j,d,hne=>by
  rw[Qe.path]at d;by_cases hi:i<1;·rw[if_pos hi]at d;cases d
  ·rw[if_neg hi]at d;cases u:p.at i with
   |none=>rw[u]at d;cases d
   |some x=>
    rw[u]at d;dsimp only at d;rcases Zu.1 d with rfl|d;·exact absurd rfl hne
    ·by_cases e:j=x.par;·obtain⟨q,z⟩:=k.par u (by omega);exact⟨q,by rw[e];exact z,B i x q u (by omega) z⟩
     ·exact Mi k B d e
theorem Wp{c:Qe→Int→Qe}{J:List Int→Qe→Prop}(h:∀id rest p,J (id::rest) p→J rest (c p id)):∀(l:List Int)(p:Qe),J l p→J [] (l.foldl c p)
 |[],_,hp=>hp
 |id::rest,p,hp=>Wp h rest _ (h id rest p hp)
structure J1(dep:Int→Nat)(N L:Nat)(p0:Qe)(L0:List Int)(rest:List Int)(p:Qe):Prop where
 go:Y9 dep N L p0 rest p
 sub:∀j∈rest,j∈L0
 off:∀j,j∉L0→Bo p0 p j
 memb:Hm p0 p
 aw:∀j,p.aL j=true↔p0.aL j=true∨(j∈L0∧j∉rest∧∃c,p0.at j=some c∧c.aJ=true)
theorem Qts{p0:Qe}{L:Nat}{L0:List Int}(now:Nat)(K:Bt p0)(id:Int)(rest:List Int)(p:Qe)(h:J1 dep N L p0 L0 (id::rest) p):J1 dep N L p0 L0 rest (p.up1 now id):=by
 obtain⟨hi,c,q,hc,z,U⟩:=h.go.head;have ok:=h.go.ok;obtain⟨k1,k2⟩:=ok.up1 now hc hi z;have I:id∉rest:=Qa0 ok h.go.path;have u:id∈L0:=h.sub id (by simp);refine⟨(h.go.next k1 k2).2.2.1,fun j E=>h.sub j (by simp[E]),fun j E=>(h.off j E).trans (Qni ok hc hi z (by rintro rfl;exact E u)),h.memb.trans (Qrz ok hc hi z),fun j=>?_⟩;by_cases e:j=id
 ·subst e;rw[Qqn ok (K.same h.go.same h.memb) hc hi z,Bool.or_eq_true,h.aw j];obtain⟨J,d,_,_,B⟩:=h.go.same.back hc;constructor
  ·rintro((h1|⟨_,h1,_⟩)|h1);·exact .inl h1
   ·exact absurd (List.mem_cons_self) h1
   ·exact .inr ⟨u,I,J,d,B.trans h1⟩
  ·rintro(h1|⟨_,_,R,k,h1⟩);·exact .inl (.inl h1)
   ·rw[d]at k;obtain rfl:=Zs k;exact .inr (B.symm.trans h1)
 ·rw[(Qni ok hc hi z e).aL,h.aw j];refine or_congr_right (and_congr_right fun _=>and_congr_left fun _=>?_);simp[e]
structure J2(dep:Int→Nat)(N L:Nat)(p1:Qe)(rest:List Int)(p:Qe):Prop where
 go:Y9 dep N L p1 rest p
 ent:∀j,j∉rest→Mw p j
 memb:Hm p1 p
 aw:∀j,p.aL j=p1.aL j
theorem Qgz{p:Qe}(d:Qs dep N p){j:Int}(u:¬0<j):Mw p j:=fun k q B a b=>by refine⟨fun z=>?_,fun h=>absurd h.1 u⟩;obtain⟨c,_,_,h⟩:=d.tr q (Qe.aE B).1 (a,j,b) z;exact absurd h u
theorem Qif{p:Qe}{id:Int}{rest:List Int}{c:Qx}(h:c.par=Eu rest){j:Int}(d:j∉rest)(h0:0<j):j≠c.par:=by
 rintro rfl;cases rest with
 |nil=>rw[h]at h0;exact absurd h0 (by decide)
 |cons x l=>exact d (by rw[h];exact List.mem_cons_self)
theorem Qtt{p1:Qe}{L:Nat}(id:Int)(rest:List Int)(p:Qe)(h:J2 dep N L p1 (id::rest) p):J2 dep N L p1 rest (p.note id):=by
 obtain⟨hi,c,q,hc,d,u⟩:=h.go.head;have ok:=h.go.ok;obtain⟨k1,k2⟩:=ok.note hc hi d;refine⟨(h.go.next k1 k2).2.2.1,fun j k=>?_,h.memb.trans (Cr hc d),fun j=>(E9 ok hc hi d j).1.trans (h.aw j)⟩;by_cases e:j=id;·subst e;exact Wg ok hc hi d
 ·by_cases h0:0<j;·exact(h.ent j (by simp[e,k])).off (Qaz hc d e (Qif (p:=p) (id:=id) u k h0))
  ·exact Qgz k1 h0
theorem Uz.wake(R:Qs dep N p)(V:Uz p)(i:Int)(now:Nat):
  Uz (p.wake i now)∧Hm p (p.wake i now)∧∀j,(p.wake i now).aL j=true↔p.aL j=true∨(j∈p.path 9 i∧(∃c,p.at j=some c∧c.aJ=true)∧∃c,p.at i=some c∧0<i∧c.leaf=true∧c.aJ=true):=by
 have ab:=R.wake i now;have B:p.wake i now=p→(∀c,p.at i=some c→0<i→c.leaf=true→c.aJ=true→False)→Uz (p.wake i now)∧Hm p (p.wake i now)∧∀j,(p.wake i now).aL j=true↔p.aL j=true∨(j∈p.path 9 i∧(∃c,p.at j=some c∧c.aJ=true)∧∃c,p.at i=some c∧0<i∧c.leaf=true∧c.aJ=true):=fun e u=>by rw[e];exact⟨V,Hm.refl _,fun j=>⟨.inl,fun h=>h.elim id fun⟨_,_,c,h1,h2,U,h4⟩=>(u c h1 h2 U h4).elim⟩⟩
 cases hc:p.at i with
 |none=> have:=B (by unfold Qe.wake;rw[hc]) (fun c h=>by rw[hc]at h;cases h);rw[hc]at this;exact this
 |some c=>
  rw[hc]at B;by_cases u:(decide (i<1)||!c.leaf||!c.aJ)=true
  ·refine B (by unfold Qe.wake;rw[hc];dsimp only;rw[if_pos (by simpa using u)]) fun c' h h1 h2 U=>?_;obtain rfl:=Zs h;have:¬i<1:=by omega
   simp[this,h2,U]at u
  ·have hw:p.wake i now=(p.path 9 i).foldl Qe.note ((p.path 9 i).foldl (Qe.up1 now) p):=by unfold Qe.wake;rw[hc];dsimp only;rw[if_neg (by simpa using u)]
   have J:0<i∧c.leaf=true∧c.aJ=true:=by simp only[Bool.or_eq_true,decide_eq_true_eq,Bool.not_eq_true',not_or,Bool.not_eq_false]at u;exact⟨by omega,u.1.2,u.2⟩
   obtain⟨h1,_,U⟩:=De R hc;have K:=Wp (Qts (dep:=dep) (N:=N) (p0:=p) (L:=(p.path 9 i).length) (L0:=p.path 9 i) now V.memb) (p.path 9 i) p
    ⟨Y9.start R h1,fun j I=>I,fun j _=>Bo.refl _ _,Hm.refl _,fun j=>⟨.inl,fun h=>h.elim id fun h=>absurd h.1 h.2.1⟩⟩
   generalize(p.path 9 i).foldl (Qe.up1 now) p=p1 at K hw;have g2:=Wp (Qtt (dep:=dep) (N:=N+(p.path 9 i).length) (p1:=p1) (L:=(p.path 9 i).length)) (p.path 9 i) p1
    ⟨Y9.start (by simpa using K.go.ok) (Vy.same K.go.same h1),fun j I=>(V.ent j).off (K.off j I),Hm.refl _,fun j=>rfl⟩
   generalize(p.path 9 i).foldl Qe.note p1=p2 at g2 hw;rw[hw];have hs:Jv p p2:=K.go.same.trans g2.go.same;have hm:Hm p p2:=K.memb.trans g2.memb;have E:∀j,p2.aL j=true↔p.aL j=true∨(j∈p.path 9 i∧(∃c,p.at j=some c∧c.aJ=true)):=fun j=>by rw[g2.aw j,K.aw j];simp
   refine⟨⟨fun j=>g2.ent j (by simp),V.memb.same hs hm,fun k d q hd hk hq=>?_,fun j I=>?_⟩,hm,fun j=>?_⟩;·obtain⟨Z,z,e1,_⟩:=hs.back hd;obtain⟨q',aa,_,e2,_⟩:=hs.back hq;rw[←e2];exact V.inn k Z q' z hk (by rw[e1];exact aa)
   ·rcases(E j).1 I with I|⟨I,_⟩;·obtain⟨L,d,h1,h2,U,h4⟩:=V.low j I;obtain⟨Z,z,_,e2,_⟩:=hs.get h1;exact⟨L,Z,z,e2.trans h2,by rw[Gv hs];exact U,(E L).2 (.inl h4)⟩
    ·obtain⟨Z,z,_,e2,_⟩:=hs.get hc;exact⟨i,Z,z,e2.trans J.2.1,by rw[Gv hs];exact I,(E i).2 (.inr ⟨Sv hc J.1,c,hc,J.2.2⟩)⟩
   ·rw[E j];exact or_congr_right (and_congr_right fun _=>⟨fun h=>⟨h,c,rfl,J⟩,fun h=>h.1⟩)
structure J3(dep:Int→Nat)(N L:Nat)(p0:Qe)(L0:List Int)(rest:List Int)(p:Qe):Prop where
 go:Y9 dep N L p0 rest p
 sub:∀j∈rest,j∈L0
 off:∀j,j∉L0→Bo p0 p j
 memb:Hm p0 p
 aw:∀j,p.aL j=p0.aL j
theorem Qtu{p0:Qe}{L:Nat}{L0:List Int}(g:Nat)(id:Int)(rest:List Int)(p:Qe)(h:J3 dep N L p0 L0 (id::rest) p):J3 dep N L p0 L0 rest (p.gain1 g id):=by obtain⟨hi,c,q,hc,k,z⟩:=h.go.head;have ok:=h.go.ok;obtain⟨k1,k2⟩:=ok.gain1 g hc hi k;have u:id∈L0:=h.sub id (by simp);exact⟨(h.go.next k1 k2).2.2.1,fun j d=>h.sub j (by simp[d]),fun j d=>(h.off j d).trans (Qd0 ok hc hi k (by rintro rfl;exact d u)),h.memb.trans (Qk4 ok hc hi k),fun j=>(Qg5 ok hc hi k j).trans (h.aw j)⟩
structure J4(dep:Int→Nat)(N L:Nat)(p1:Qe)(L0:List Int)(i:Int)(sl:Bool)(rest:List Int)(p:Qe):Prop where
 go:Y9 dep N L p1 rest p
 sub:∀j∈rest,j∈L0
 ent:∀j,j∉rest→Mw p j
 memb:Hm p1 p
 less:∀j,p.aL j=true→p1.aL j=true
 same:∀j,j∉L0∨sl=false→p.aL j=p1.aL j
 off:sl=true→i∉rest→p.aL i=false
 low:sl=true→∀j,j∉rest→p.aL j=true→∃L' c,L'≠i∧p.at L'=some c∧c.leaf=true∧j∈p.path 9 L'∧p.aL L'=true
theorem Qtv{p1:Qe}{L:Nat}{L0:List Int}{i:Int}{sl:Bool}(am:∀i c q,p1.at i=some c→0<i→p1.at c.par=some q→q.leaf=false)(hL:∀j∈L0,j≠i→∃c,p1.at j=some c∧c.leaf=false)(ac:∃c,p1.at i=some c∧c.leaf=true)
  (id:Int)(rest:List Int)(p:Qe)(h:J4 dep N L p1 L0 i sl (id::rest) p):J4 dep N L p1 L0 i sl rest (p.rest1 sl id):=by
 obtain⟨hi,c,q,hc,I,hp⟩:=h.go.head;have ok:=h.go.ok;obtain⟨k1,k2⟩:=ok.rest1 sl hc hi I;have R:id∈L0:=h.sub id (by simp);have al:id∉rest:=Qa0 ok h.go.path;have ho:∀j,j≠id→(p.rest1 sl id).aL j=p.aL j:=fun j u=>by rw[Og ok hc hi I,if_neg (fun e=>u e.1)]
 have ai:∀j,(p.rest1 sl id).aL j=true→p.aL j=true:=fun j u=>by
  rw[Og ok hc hi I]at u;split at u;·cases u
  ·exact u
 refine⟨(h.go.next k1 k2).2.2.1,fun j u=>h.sub j (by simp[u]),fun j u=>?_,h.memb.trans (Qk5 ok hc hi I),fun j u=>h.less j (ai j u),fun j u=>?_,fun hs ag=>?_,fun hs j u ha=>?_⟩
 ·by_cases e:j=id;·subst e;exact Qog ok hc hi I
  ·by_cases h0:0<j;·exact(h.ent j (by simp[e,u])).off (Qpg ok hc hi I e (Qif (p:=p) (id:=id) hp u h0))
   ·exact Qgz k1 h0
 ·rw[Og ok hc hi I];split
  ·rename_i e;rcases u with u|u;·exact absurd (e.1▸R) u
   ·rw[u]at e;simp at e
  ·exact h.same j u
 ·by_cases e:i=id;·subst e;obtain⟨c1,z,V⟩:=ac;obtain⟨c',B,_,U,_⟩:=h.go.same.get z;rw[hc]at B;obtain rfl:=Zs B;rw[Og ok hc hi I,if_pos ⟨rfl,by simp[hs,U.trans V]⟩]
  ·rw[ho i e];exact h.off hs (by simp[e,ag])
 ·
  have aB:∀j,(∃L' c,L'≠i∧p.at L'=some c∧c.leaf=true∧j∈p.path 9 L'∧p.aL L'=true)→∃L' c,L'≠i∧(p.rest1 sl id).at L'=some c∧c.leaf=true∧j∈(p.rest1 sl id).path 9 L'∧(p.rest1 sl id).aL L'=true:=by
   rintro j⟨L',c',h1,Z,h3,h4,h5⟩;obtain⟨d,hd,_,e2,_⟩:=k2.get Z;refine⟨L',d,h1,hd,e2.trans h3,by rw[Gv k2];exact h4,?_⟩;rw[ho L' ?_];·exact h5
   ·rintro rfl;obtain⟨c0,K,ab⟩:=hL L' R h1;obtain⟨c1,z,_,e3,_⟩:=h.go.same.get K;rw[Z]at z;obtain rfl:=Zs z;rw[h3,ab]at e3;cases e3
  by_cases e:j=id
  ·subst e;refine aB j ?_;have aj:j≠i:=by rintro rfl;obtain⟨c1,z,V⟩:=ac;obtain⟨c',B,_,U,_⟩:=h.go.same.get z;rw[hc]at B;obtain rfl:=Zs B;rw[Og ok hc hi I,if_pos ⟨rfl,by simp[hs,U.trans V]⟩]at ha;cases ha
   obtain⟨c0,K,ab⟩:=hL j R aj;obtain⟨c1,z,_,e3,_⟩:=h.go.same.get K;rw[hc]at z;obtain rfl:=Zs z;have ak:c.tree≠[]:=fun e=>by rw[Og ok hc hi I,if_pos ⟨rfl,by simp[hs,e]⟩]at ha;cases ha
   obtain⟨⟨a,k,b⟩,hm⟩:=List.exists_mem_of_ne_nil _ ak;obtain⟨ck,E,J,ah⟩:=ok.tr c (Qe.aE hc).1 (a,k,b) hm;dsimp only at E ah;rw[(Qe.aE hc).2]at J;have af:=(ok.up.2 ck (Qe.aE E).1 (by rw[(Qe.aE E).2];omega)).2.2.1;rw[(Qe.aE E).2,J]at af;have aa:k∉j::rest:=fun hk=>by
    rcases Zu.1 hk with rfl|hk;·omega
    ·have:=Mf ok h.go.path k hk;omega
   have ae:=((h.ent k aa j c hc a b).1 hm).2.1;obtain⟨L',c',h1,Z,h3,h4,h5⟩:=h.low hs k aa ae;refine⟨L',c',h1,Z,h3,?_,h5⟩;have:=Qnk ok (Nat.lt_succ_of_le (Quz ok Z)) h4 E (by rw[J];exact hi);rwa[J]at this
  ·rw[ho j e]at ha;exact aB j (h.low hs j (by simp[e,u]) ha)
theorem Uz.sent(aa:Qs dep N p)(hv:Uz p)(i:Int)(g:Nat)(more:Bool):
  Uz (p.sent i g more)∧Hm p (p.sent i g more)∧(∀j,(p.sent i g more).aL j=true→p.aL j=true)∧(∀j,j∉p.path 9 i∨more=true∨p.aL i=false→(p.sent i g more).aL j=p.aL j)∧
   (more=false→(∃c,p.at i=some c∧c.leaf=true)→(p.sent i g more).aL i=false):=by
 have V:p.sent i g more=p→(more=false→(∃c,p.at i=some c∧c.leaf=true)→p.aL i=false)→Uz (p.sent i g more)∧Hm p (p.sent i g more)∧(∀j,(p.sent i g more).aL j=true→p.aL j=true)∧(∀j,j∉p.path 9 i∨more=true∨p.aL i=false→(p.sent i g more).aL j=p.aL j)∧
   (more=false→(∃c,p.at i=some c∧c.leaf=true)→(p.sent i g more).aL i=false):=fun e h=>by
  rw[e];exact⟨hv,Hm.refl _,fun _ h=>h,fun _ _=>rfl,h⟩
 cases hc:p.at i with
 |none=> have:=V (by unfold Qe.sent;rw[hc]) (fun _⟨c,h,_⟩=>by rw[hc]at h;cases h);rw[hc]at this;exact this
 |some c=>
  rw[hc]at V;by_cases R:(decide (i<1)||!c.leaf)=true;·refine V (by unfold Qe.sent;rw[hc];dsimp only;rw[if_pos (by simpa using R)]) fun _⟨c',h,h2⟩=>?_;obtain rfl:=Zs h;simp only[h2,Bool.not_true,Bool.or_false,decide_eq_true_eq]at R;exact Qe.awake_neg (by omega)
  ·have hw:p.sent i g more=(p.path 9 i).foldl (Qe.rest1 (!more&&((p.path 9 i).foldl (Qe.gain1 g) p).aL i)) ((p.path 9 i).foldl (Qe.gain1 g) p):=by unfold Qe.sent;rw[hc];dsimp only;rw[if_neg (by simpa using R)]
   have ac:0<i∧c.leaf=true:=by simp only[Bool.or_eq_true,decide_eq_true_eq,Bool.not_eq_true',not_or,Bool.not_eq_false]at R;exact⟨by omega,R.2⟩
   obtain⟨h1,_,h3⟩:=De aa hc;have E:=Wp (Qtu (dep:=dep) (N:=N) (p0:=p) (L:=(p.path 9 i).length) (L0:=p.path 9 i) g) (p.path 9 i) p
    ⟨Y9.start aa h1,fun j B=>B,fun j _=>Bo.refl _ _,Hm.refl _,fun j=>rfl⟩
   generalize(p.path 9 i).foldl (Qe.gain1 g) p=p1 at E hw;have aj:∀k d q,p1.at k=some d→0<k→p1.at d.par=some q→q.leaf=false:=fun k d q hd hk hq=>by obtain⟨J,u,e1,_⟩:=E.go.same.back hd;obtain⟨q',ab,_,K,_⟩:=E.go.same.back hq;rw[←K];exact hv.inn k J q' u hk (by rw[e1];exact ab)
   have hL:∀j∈p.path 9 i,j≠i→∃c,p1.at j=some c∧c.leaf=false:=fun j B ah=>by obtain⟨d,hd,hl⟩:=Mi aa hv.inn B ah;obtain⟨J,u,_,K,_⟩:=E.go.same.get hd;exact⟨J,u,K.trans hl⟩
   have af:∃c,p1.at i=some c∧c.leaf=true:=by obtain⟨J,u,_,K,_⟩:=E.go.same.get hc;exact⟨J,u,K.trans ac.2⟩
   obtain⟨sl,U⟩:=Zx ((!more&&p1.aL i));rw[←U]at hw;have ae:i∈p.path 9 i:=Sv hc ac.1;have Z:=Wp (Qtv (dep:=dep) (N:=N+(p.path 9 i).length) (p1:=p1) (L:=(p.path 9 i).length) (L0:=p.path 9 i) (i:=i) (sl:=sl) aj hL af) (p.path 9 i) p1
    ⟨Y9.start (by simpa using E.go.ok) (Vy.same E.go.same h1),fun j B=>B,fun j B=>(hv.ent j).off (E.off j B),Hm.refl _,fun j h=>h,fun j _=>rfl,fun _ h=>absurd ae h,fun hs j B ha=>by
     rw[E.aw j]at ha;obtain⟨L',d,k1,k2,k3,k4⟩:=hv.low j ha;obtain⟨J,u,_,K,_⟩:=E.go.same.get k1;exact⟨L',J,fun e=>B (by rw[←e];exact k3),u,K.trans k2,by rw[Gv E.go.same];exact k3,by rw[E.aw];exact k4⟩⟩
   generalize(p.path 9 i).foldl (Qe.rest1 sl) p1=p2 at Z hw;rw[hw];have hs:Jv p p2:=E.go.same.trans Z.go.same;have hm:Hm p p2:=E.memb.trans Z.memb;have I:sl=false→∀j,p2.aL j=p.aL j:=fun h j=>(Z.same j (.inr h)).trans (E.aw j);have ai:more=true∨p.aL i=false→sl=false:=fun h=>by rw[U,E.aw];rcases h with h|h<;>simp[h]
   refine⟨⟨fun j=>Z.ent j (by simp),hv.memb.same hs hm,fun k d q hd hk hq=>?_,fun j B=>?_⟩,hm,fun j B=>by rw[←E.aw];exact Z.less j B,fun j B=>?_,fun ag _=>?_⟩;·obtain⟨J,u,e1,_⟩:=hs.back hd;obtain⟨q',ab,_,K,_⟩:=hs.back hq;rw[←K];exact hv.inn k J q' u hk (by rw[e1];exact ab)
   ·cases z:sl with
    |true=> obtain⟨L',d,k1,k2,k3,k4,k5⟩:=Z.low z j (by simp) B;exact⟨L',d,k2,k3,k4,k5⟩
    |false=> rw[I z j]at B;obtain⟨L',d,k1,k2,k3,k4⟩:=hv.low j B;obtain⟨J,u,_,K,_⟩:=hs.get k1;exact⟨L',J,u,K.trans k2,by rw[Gv hs];exact k3,by rw[I z];exact k4⟩
   ·rcases B with B|B;·exact(Z.same j (.inl B)).trans (E.aw j)
    ·exact I (ai B) j
   ·cases z:sl with
    |true=>exact Z.off z (by simp)
    |false=> rw[I z];rw[ag,E.aw]at U;rw[z]at U;simpa using U.symm
end
section
variable{p p':Qe}{N:Nat}{dep dep':Int→Nat}
theorem Qs.redep(h:Qs dep N p)(h0:dep' 0=0)(u:∀c∈p,c.id≠0→dep' c.id=dep c.id):Qs dep' N p:=by
 refine⟨h.nd,h.root,⟨h0,fun c hc h1=>?_⟩,h.tr,h.ok⟩;obtain⟨k1,⟨q,z⟩,I,J⟩:=h.up.2 c hc h1;have e1:=u c hc h1;obtain⟨k,d⟩:=Qe.aE z;have E:dep' c.par=dep c.par:=by
  by_cases B:c.par=0;·rw[B,h0,h.up.1]
  ·rw[←d];exact u q k (by rw[d];exact B)
 exact⟨k1,⟨q,z⟩,by rw[e1,E];exact I,by rw[e1];exact J⟩
theorem Qm2{i:Int}(h:p.at i=none):∀c∈p,c.id≠i:=Lz (key:=Qx.id) h
theorem Qn3(x:Qx)(i:Int):Qe.at (p++[x]) i=(p.at i).or (if x.id=i then some x else none):=by
 unfold Qe.at;rw[List.find?_append];congr 1;rw[List.find?_cons];by_cases h:x.id=i;·simp[h]
 ·simp[h]
structure But(p p':Qe)(i:Int):Prop where
 oth:∀j,j≠i→(p'.at j).map (fun c=>(c.par,c.leaf,c.aJ,c.fit))=(p.at j).map fun c=>(c.par,c.leaf,c.aJ,c.fit)
 both:∀k q',p'.at k=some q'→(∃q,p.at k=some q∧q'.par=q.par∧q'.leaf=q.leaf∧q'.tree=q.tree∧∀j,j≠i→q'.mem.at j=q.mem.at j)∨(k=i∧q'.tree=[]∧(∀j,q'.mem.at j=none)∧p.at i=none)
 kids:p.at i=none∨p'.at i=none→∀j c,p'.at j=some c→0<j→c.par≠i
 off:p.aL i=false∧p'.aL i=false
 mem:∀k q',p'.at k=some q'→((q'.mem.at i).isSome=true↔∃c,p'.at i=some c∧0<i∧c.par=k∧c.aJ=true)
 inn:∀c q,p'.at i=some c→p'.at c.par=some q→q.leaf=false
theorem But.fwd{i j:Int}(h:But p p' i)(d:j≠i){c:Qx}(hc:p.at j=some c):∃c',p'.at j=some c'∧c'.par=c.par∧c'.leaf=c.leaf∧c'.aJ=c.aJ∧c'.fit=c.fit:=by
 have:=h.oth j d;rw[hc]at this;cases h':p'.at j with
 |none=>rw[h']at this;cases this
 |some c'=> rw[h']at this;simp only[Zn,Option.some.injEq,Prod.mk.injEq]at this;exact⟨c',rfl,this⟩
theorem But.back{i j:Int}(h:But p p' i)(d:j≠i){c:Qx}(hc:p'.at j=some c):∃c',p.at j=some c'∧c'.par=c.par∧c'.leaf=c.leaf∧c'.aJ=c.aJ∧c'.fit=c.fit:=by
 have:=h.oth j d;rw[hc]at this;cases h':p.at j with
 |none=>rw[h']at this;cases this
 |some c'=> rw[h']at this;simp only[Zn,Option.some.injEq,Prod.mk.injEq]at this;exact⟨c',rfl,this.1.symm,this.2.1.symm,this.2.2.1.symm,this.2.2.2.symm⟩
theorem But.aL(ok:Qs dep N p)(I:Qs dep' N p'){i j:Int}(h:But p p' i)(E:j≠i):p'.aL j=p.aL j∧p'.v j=p.v j:=by
 cases hc:p.at j with
 |none=>
  have d:p'.at j=none:=by have:=h.oth j E;rw[hc]at this;simpa using this
  rw[Qe.awake_none hc,Qe.awake_none d,Qe.v_none hc,Qe.v_none d];exact⟨rfl,rfl⟩
 |some c=>
  obtain⟨c',d,e,_⟩:=h.fwd E hc;by_cases h0:0<j
  ·obtain⟨q,u⟩:=ok.par hc h0;obtain⟨U,k⟩:=I.par d h0;have B:=k;rw[e]at B;rw[Qe.awake_eq hc u h0,Qe.awake_eq d k h0,Qe.v_eq hc u h0,Qe.v_eq d k h0];rcases h.both c.par U B with⟨V,z,_,_,_,R⟩|⟨J,_,_,K⟩;·rw[u]at z;obtain rfl:=Zs z;exact Be (R j E)
   ·rw[J,K]at u;cases u
  ·rw[Qe.awake_neg h0,Qe.awake_neg h0,Qe.v_neg h0,Qe.v_neg h0];exact⟨rfl,rfl⟩
theorem But.path(ok:Qs dep N p)(z:Qs dep' N p'){i:Int}(h:But p p' i):∀(n:Nat)(L:Int),L<1∨((∃c,p.at L=some c)∧∃c,p'.at L=some c)→p'.path n L=p.path n L
 |0,_,_=>rfl
 |n+1,L,hL=>by
  rw[Qe.path,Qe.path];by_cases h1:L<1;·rw[if_pos h1,if_pos h1]
  ·rw[if_neg h1,if_neg h1];obtain⟨⟨c,hc⟩,c',d⟩:=hL.resolve_left h1;rw[hc,d];dsimp only;have e:c'.par=c.par:=by
    rcases h.both L c' d with⟨K,k,e,_⟩|⟨B,_,_,E⟩;·rw[hc]at k;obtain rfl:=Zs k;exact e
    ·rw[B,E]at hc;cases hc
   rw[e,But.path ok z h n c.par];obtain⟨q,I⟩:=ok.par hc (by omega);obtain⟨J,u⟩:=z.par d (by omega);rw[e]at u;exact .inr ⟨⟨q,I⟩,J,u⟩
theorem Uz.but(ok:Qs dep N p)(J:Qs dep' N p'){i:Int}(hv:Uz p)(h:But p p' i):Uz p':=by
 refine⟨fun j k R z a b=>?_,fun k R z j=>?_,fun k d' R Z hk z=>?_,fun j B=>?_⟩
 ·by_cases B:j=i
  ·subst B;rw[h.off.2];refine⟨fun E=>?_,fun h=>by simp at h⟩;rcases h.both k R z with⟨q,K,_,_,ht,_⟩|⟨_,ht,_⟩;·rw[ht]at E;have:=((hv.ent j k q K a b).1 E).2.1;rw[h.off.1]at this;cases this
   ·rw[ht]at E;cases E
  ·obtain⟨ha,ae⟩:=h.aL ok J B;rw[ha,ae];rcases h.both k R z with⟨q,K,_,_,ht,_⟩|⟨e,ht,_,hn⟩
   ·rw[ht,hv.ent j k q K a b];refine and_congr_right fun _=>and_congr_right fun _=>and_congr_right fun _=>⟨fun⟨c,hc,h1,U⟩=>?_,fun⟨c',u,h1,U⟩=>?_⟩;·obtain⟨c',u,e1,_,_,I⟩:=h.fwd B hc;exact⟨c',u,e1.trans h1,U.trans I.symm⟩
    ·obtain⟨c,hc,e1,_,_,I⟩:=h.back B u;exact⟨c,hc,e1.trans h1,U.trans I.symm⟩
   ·rw[ht];refine⟨fun E=>(by cases E),fun⟨h0,_,_,c',u,h1,_⟩=>?_⟩;exact absurd (h1.trans e) (h.kids (.inl hn) j c' u h0)
 ·by_cases B:j=i;·subst B;exact h.mem k R z
  ·rcases h.both k R z with⟨q,K,_,_,_,E⟩|⟨e,_,E,hn⟩
   ·rw[E j B,hv.memb k q K j];refine⟨fun⟨c,hc,h0,h1,U⟩=>?_,fun⟨c',u,h0,h1,U⟩=>?_⟩;·obtain⟨c',u,e1,_,I,_⟩:=h.fwd B hc;exact⟨c',u,h0,e1.trans h1,I.trans U⟩
    ·obtain⟨c,hc,e1,_,I,_⟩:=h.back B u;exact⟨c,hc,h0,e1.trans h1,I.trans U⟩
   ·rw[E j];refine⟨fun h=>by simp at h,fun⟨c',u,h0,h1,_⟩=>?_⟩;exact absurd (h1.trans e) (h.kids (.inl hn) j c' u h0)
 ·by_cases aa:k=i;·subst aa;exact h.inn d' R Z z
  ·obtain⟨d,hd,e,_⟩:=h.back aa Z;obtain⟨q,K⟩:=ok.par hd hk;rcases h.both d'.par R z with⟨q0,ac,_,hl,_⟩|⟨I,_,_,hn⟩;·rw[hl];exact hv.inn k d q0 hd hk (by rw[e];exact ac)
   ·rw[e,I,hn]at K;cases K
 ·have ab:j≠i:=fun e=>by rw[e,h.off.2]at B;cases B
  rw[(h.aL ok J ab).1]at B;obtain⟨L,c,hc,hl,E,ha⟩:=hv.low j B;have V:L≠i:=fun e=>by rw[e,h.off.1]at ha;cases ha
  obtain⟨c',u,_,e,_⟩:=h.fwd V hc;exact⟨L,c',u,e.trans hl,by rw[h.path ok J 9 L (.inr ⟨⟨c,hc⟩,c',u⟩)];exact E,by rw[(h.aL ok J V).1];exact ha⟩
theorem Rl(i:Int):Qe.new.at i=if i=0 then some ⟨0,0,false,false,0,none,⟨[],0⟩,[],0⟩else none:=by
 unfold Qe.new Qe.at;rw[List.find?_cons];by_cases h:i=0;·simp[h]
 ·have:¬(0:Int)=i:=fun e=>h e.symm;simp[h,this]
theorem Qs.new(h0:dep 0=0):Qs dep N Qe.new:=by
 have d:∀c∈Qe.new,c=⟨0,0,false,false,0,none,⟨[],0⟩,[],0⟩:=fun c hc=>by simpa[Qe.new]using hc
 refine⟨by simp[Qe.new],⟨_,by rw[Rl,if_pos rfl],rfl⟩,⟨h0,fun c hc h=>?_⟩,fun q u e k=>?_,fun c hc=>?_⟩;·rw[d c hc]at h;exact absurd rfl h
 ·rw[d q u]at k;cases k
 ·rw[d c hc];exact⟨Nat.zero_le _,nofun,nofun,Nat.zero_le _,Nat.zero_le _,Nat.zero_le _⟩
theorem Qdu(j:Int):Qe.new.aL j=false:=by
 unfold Qe.aL;rw[Rl];split;·rfl
 ·rename_i c h;split at h;·rename_i e;subst e;rfl
  ·cases h
theorem Uz.new:Uz Qe.new:=by
 refine⟨fun j k q u a b=>?_,fun k q u j=>?_,fun k d q z E=>?_,fun j B=>?_⟩
 ·rw[Qdu];rw[Rl]at u;split at u;·obtain rfl:=Zs u;simp
  ·cases u
 ·rw[Rl]at u;split at u;·obtain rfl:=Zs u;refine⟨fun h=>by simp[Jc.at]at h,fun⟨c,hc,h0,_⟩=>?_⟩;rw[Rl,if_neg (by omega)]at hc;cases hc
  ·cases u
 ·rw[Rl,if_neg (by omega)]at z;cases z
 ·rw[Qdu]at B;cases B
theorem Qsc{s:Yk}{q:Qx}(h1:1≤s.id)(hn:p.at s.id=none)(u:p.at s.par=some q)(hl:q.leaf=false)(k:Int):
  (p.put s).at k=if k=s.par then some {q with mem:=if s.aJ then q.mem.add s.id s.share else q.mem,aM:=q.aM+1}else if k=s.id then some (Y0 s)else p.at k:=by
 rw[Qlr h1 hn u hl];have c:=(Qe.aE u).2;have z:Qe.at (p++[Y0 s]) q.id=some q:=by rw[c];exact Qep u
 have:=V0 (x:={q with mem:=if s.aJ then q.mem.add s.id s.share else q.mem,aM:=q.aM+1}) (y:=q) z k;rw[this];show(if k=q.id then _ else _)=_;rw[c];split;·rfl
 ·rw[Qn3];by_cases d:k=s.id;·rw[d,hn,if_pos rfl];show(if s.id=s.id then some (Y0 s)else none)=_;rw[if_pos rfl]
  ·have:(Y0 s).id≠k:=fun e=>d e.symm;rw[if_neg d,if_neg this];cases p.at k<;>rfl
theorem Qs.put(B:Qs dep N p){s:Yk}{q:Qx}(h1:1≤s.id)(hn:p.at s.id=none)(z:p.at s.par=some q)(hl:q.leaf=false)(ab:q.aM<65536)
  (h0:dep' 0=0)(hd:∀c∈p,c.id≠0→dep' c.id=dep c.id)(hs:dep' s.id=dep' s.par+1)(h8:dep' s.id≤8):Qs dep' N (p.put s):=by
 have d:=B.redep h0 hd;have V:=Qm2 hn;have K:Qs dep' N (p++[Y0 s]):=by
  have look:∀{i c},p.at i=some c→Qe.at (p++[Y0 s]) i=some c:=fun h=>Qep h;refine⟨?_,?_,⟨h0,fun c hc U=>?_⟩,fun x I e R=>?_,fun c hc=>?_⟩
  ·rw[List.map_append];refine List.nodup_append.2 ⟨d.nd,by simp,fun a ha b hb=>?_⟩;obtain⟨c,hc,rfl⟩:=Z3.1 ha;obtain rfl:b=s.id:=by simpa[Y0]using hb
   exact V c hc
  ·obtain⟨r,hr,ac⟩:=d.root;exact⟨r,look hr,ac⟩
  ·rcases Zl.1 hc with hc|hc;·obtain⟨k1,⟨q,z⟩,k3⟩:=d.up.2 c hc U;exact⟨k1,⟨q,look z⟩,k3⟩
   ·obtain rfl:c=Y0 s:=by simpa using hc
    exact⟨h1,⟨q,look z⟩,hs,h8⟩
  ·rcases Zl.1 I with I|I;·obtain⟨c,hc,k⟩:=d.tr x I e R;exact⟨c,look hc,k⟩
   ·obtain rfl:x=Y0 s:=by simpa using I
    cases R
  ·rcases Zl.1 hc with hc|hc;·exact d.ok c hc
   ·obtain rfl:c=Y0 s:=by simpa using hc
    refine⟨Nat.zero_le _,fun r hr=>?_,nofun,Nat.zero_le _,Nat.zero_le _,Nat.zero_le _⟩;have u:Ha s.aN=some r:=hr;unfold Ha at u;split at u;·cases u
    ·obtain rfl:=Zs u;exact Nat.zero_le _
 rw[Qlr h1 hn z hl];obtain⟨aa,Z⟩:=Qe.aE z;have E:Qe.at (p++[Y0 s]) q.id=some q:=by rw[Z];exact Qep z
 have J:=B.ok q aa;have kf:Kw N (if s.aJ then q.mem.add s.id s.share else q.mem):=by
  split;·exact J.fam.add _ _
  ·exact J.fam
 exact K.set (Zv _) (x:={q with mem:=if s.aJ then q.mem.add s.id s.share else q.mem,aM:=q.aM+1}) (y:=q) E rfl rfl ⟨J.total,J.lim,kf.1,kf.2,J.tree,ab⟩
  (fun e R=>K.tr q (Qe.aE E).1 e R)
theorem Uz.put(z:Qs dep N p)(hv:Uz p){s:Yk}{q:Qx}(h1:1≤s.id)(hn:p.at s.id=none)(R:p.at s.par=some q)(hl:q.leaf=false)(ac:Qs dep' N (p.put s)):
  Uz (p.put s)∧(∀j,(p.put s).aL j=p.aL j):=by
 have u:=Qsc h1 hn R hl;have aa:s.par≠s.id:=fun e=>by rw[e,hn]at R;cases R
 have K:q.mem.at s.id=none:=by
  cases hx:q.mem.at s.id with
  |none=>rfl
  |some x=> obtain⟨c,hc,_⟩:=(hv.memb s.par q R s.id).1 (by rw[hx];rfl);rw[hn]at hc;cases hc
 have J:∀j,(if s.aJ then q.mem.add s.id s.share else q.mem).at j=if j=s.id∧s.aJ=true then some ⟨s.id,0,0,.new s.share,false⟩else q.mem.at j:=fun j=>by
  by_cases hs:s.aJ=true;·rw[if_pos hs,Qq2];simp[K,hs]
  ·rw[if_neg hs,if_neg (fun h=>hs h.2)]
 have U:∀j c,(p.put s).at j=some c→0<j→c.par≠s.id:=fun j c hc B=>by
  rw[u]at hc;split at hc;·obtain rfl:=Zs hc;rename_i e;obtain⟨r,hr⟩:=z.par R (by omega);rintro e2;dsimp only at e2;rw[e2,hn]at hr;cases hr
  ·split at hc;·obtain rfl:=Zs hc;exact aa
   ·obtain⟨r,hr⟩:=z.par hc B;rintro e2;rw[e2,hn]at hr;cases hr
 have I:(p.put s).at s.id=some (Y0 s):=by rw[u,if_neg (fun e=>aa e.symm),if_pos rfl]
 have Z:(p.put s).at s.par=some {q with mem:=if s.aJ then q.mem.add s.id s.share else q.mem,aM:=q.aM+1}:=by rw[u,if_pos rfl]
 have E:(p.put s).aL s.id=false:=by
  rw[Qe.awake_eq I (q:={q with mem:=if s.aJ then q.mem.add s.id s.share else q.mem,aM:=q.aM+1}) Z h1];unfold Jc.up;dsimp only;rw[J];by_cases hs:s.aJ=true;·rw[if_pos ⟨rfl,hs⟩];rfl
  ·rw[if_neg (fun h=>hs h.2),K];rfl
 have hb:But p (p.put s) s.id:=by
  refine⟨fun j B=>?_,fun k q' d=>?_,fun _=>U,⟨Qe.awake_none hn,E⟩,fun k q' d=>?_,fun c r hc hr=>?_⟩
  ·rw[u,if_neg B];split;·rename_i e;rw[e,R];rfl
   ·rfl
  ·rw[u]at d;split at d
   ·rename_i e;obtain rfl:=Zs d;exact .inl ⟨q,by rw[e];exact R,rfl,rfl,rfl,fun j B=>by
     dsimp only;rw[J,if_neg (fun h=>B h.1)]⟩
   ·split at d;·rename_i e;obtain rfl:=Zs d;exact .inr ⟨e,rfl,fun _=>rfl,hn⟩
    ·exact .inl ⟨q',d,rfl,rfl,rfl,fun _ _=>rfl⟩
  ·rw[I];rw[u]at d;have hR:(∃c,some (Y0 s)=some c∧0<s.id∧c.par=k∧c.aJ=true)↔s.par=k∧s.aJ=true:=⟨fun⟨c,hc,_,h2,h3⟩=>by
    obtain rfl:=Zs hc;exact⟨h2,h3⟩,fun h=>⟨_,rfl,h1,h.1,h.2⟩⟩
   rw[hR];split at d
   ·rename_i e;obtain rfl:=Zs d;dsimp only;rw[J];by_cases hs:s.aJ=true;·simp[hs,e]
    ·simp[hs,K]
   ·rename_i e;have V:¬(s.par=k∧s.aJ=true):=fun h=>e h.1.symm;split at d;·obtain rfl:=Zs d;refine⟨fun h=>?_,fun h=>absurd h V⟩;simp[Y0,Jc.at]at h
    ·refine⟨fun h=>?_,fun h=>absurd h V⟩;obtain⟨c,hc,_⟩:=(hv.memb k q' d s.id).1 h;rw[hn]at hc;cases hc
  ·rw[I]at hc;obtain rfl:=Zs hc;have ab:(p.put s).at s.par=some r:=hr;rw[Z]at ab;obtain rfl:=Zs ab;exact hl
 refine⟨hv.but z ac hb,fun j=>?_⟩;by_cases B:j=s.id;·rw[B,E,Qe.awake_none hn]
 ·exact(hb.aL z ac B).1
theorem Sh(i k:Int):Qe.at (p.filter fun x=>!decide (x.id=i)) k=if k=i then none else p.at k:=by
 unfold Qe.at;induction p with
 |nil=>simp
 |cons z l q=>
  rw[List.filter_cons];by_cases c:z.id=i
  ·simp only[c,decide_true,Bool.not_true,Bool.false_eq_true,if_false];rw[q,List.find?_cons];by_cases e:k=i;·rw[if_pos e,if_pos e]
   ·have:¬z.id=k:=fun d=>e (by rw[←d,c]);rw[if_neg e,if_neg e];simp only[this,decide_false]
  ·simp only[c,decide_false,Bool.not_false,if_true];rw[List.find?_cons,List.find?_cons];by_cases e:z.id=k;·have:¬k=i:=fun d=>c (by rw[e,d]);simp only[e,decide_true];rw[if_neg this]
   ·simp only[e,decide_false];exact q
theorem Iz{i:Int}{c q:Qx}(h1:1≤i)(hc:p.at i=some c)(z:c.aM=0)(ha:p.aL i=false)(u:p.at c.par=some q)(k:Int):
  (p.drop i).at k=if k=i then none else if k=c.par then some {q with mem:=q.mem.drop i,aM:=q.aM-1}else p.at k:=by
 rw[drop_eq h1 hc z ha u,Sh];split;·rfl
 ·have d:=(Qe.aE u).2;have:=V0 (p:=p) (x:={q with mem:=q.mem.drop i,aM:=q.aM-1}) (y:=q) (show p.at q.id=_ by rw[d];exact u) k;rw[this];show(if k=q.id then _ else _)=_;rw[d]
theorem Qs.drop(I:Qs dep N p)(hv:Uz p){i:Int}{c q:Qx}(h1:1≤i)(hc:p.at i=some c)(hu:c.aM=0)(ha:p.aL i=false)(J:p.at c.par=some q)(hk:∀j d,p.at j=some d→0<j→d.par≠i):Qs dep N (p.drop i):=by
 obtain⟨ac,K⟩:=Qe.aE J;have kq:=I.ok q ac;have kf:Kw N (q.mem.drop i):=kq.fam.drop i;have k:=I.set (Zv N) (x:={q with mem:=q.mem.drop i,aM:=q.aM-1}) (y:=q) (show p.at q.id=_ by rw[K];exact J) rfl rfl ⟨kq.total,kq.lim,kf.1,kf.2,kq.tree,by have:=kq.aM;dsimp only;omega⟩ (fun e V=>I.tr q ac e V);have aa:=Iz h1 hc hu ha J;rw[drop_eq h1 hc hu ha J]at aa⊢;generalize ae:p.set {q with mem:=q.mem.drop i,aM:=q.aM-1}=Z at k aa⊢;have E:∀j,Z.at j=if j=c.par then some {q with mem:=q.mem.drop i,aM:=q.aM-1}else p.at j:=fun j=>by rw[←ae,V0 (p:=p) (x:={q with mem:=q.mem.drop i,aM:=q.aM-1}) (y:=q) (show p.at q.id=_ by rw[K];exact J) j];show(if j=q.id then _ else _)=_;rw[K]
 have ab:∀j d,Z.at j=some d→0<j→d.par≠i:=fun j d U hj=>by
  rw[E]at U;split at U;·rename_i e;obtain rfl:=Zs U;exact hk c.par q J (by omega)
  ·exact hk j d U hj
 have z:∀x,x∈Z.filter (fun x=>!decide (x.id=i))→x∈Z∧x.id≠i:=fun x R=>by have:=List.mem_filter.1 R;exact⟨this.1,by simpa using this.2⟩
 refine⟨k.nd.sublist (List.filter_sublist.map _),?_,⟨k.up.1,fun x R ag=>?_⟩,fun x R e V=>?_,fun x R=>k.ok x (z x R).1⟩;·obtain⟨r,hr,af⟩:=k.root;exact⟨r,by rw[Sh,if_neg (by omega)];exact hr,af⟩
 ·obtain⟨B,ah⟩:=z x R;obtain⟨k1,⟨r,hr⟩,k3⟩:=k.up.2 x B ag;have u:Z.at x.id=some x:=Qe.at_of k.nd B;exact⟨k1,⟨r,by rw[Sh,if_neg (ab x.id x u k1)];exact hr⟩,k3⟩
 ·obtain⟨B,ah⟩:=z x R;obtain⟨d,U,k2,k3⟩:=k.tr x B e V;refine⟨d,?_,k2,k3⟩;rw[Sh];split
  ·rename_i e2;exfalso;have u:Z.at x.id=some x:=Qe.at_of k.nd B;obtain⟨a,j,b⟩:=e;dsimp only at e2 V;subst e2;rw[E]at u;split at u;·obtain rfl:=Zs u;have:=((hv.ent j c.par q J a b).1 V).2.1;rw[ha]at this;cases this
   ·have:=((hv.ent j x.id x u a b).1 V).2.1;rw[ha]at this;cases this
  ·exact U
theorem Uz.drop(K:Qs dep N p)(hv:Uz p){i:Int}{c q:Qx}(h1:1≤i)(hc:p.at i=some c)(hu:c.aM=0)(ha:p.aL i=false)(U:p.at c.par=some q)(Z:∀j d,p.at j=some d→0<j→d.par≠i):
  Uz (p.drop i)∧(∀j,(p.drop i).aL j=p.aL j):=by
 have V:=K.drop hv h1 hc hu ha U Z;have B:=Iz h1 hc hu ha U;have J:(p.drop i).at i=none:=by rw[B,if_pos rfl]
 have I:(p.drop i).aL i=false:=Qe.awake_none J;have aa:c.par≠i:=Z i c hc (by omega);have R:∀j d,(p.drop i).at j=some d→0<j→d.par≠i:=fun j d z E=>by
  rw[B]at z;split at z;·cases z
  ·split at z;·rename_i e;obtain rfl:=Zs z;exact Z c.par q U (by omega)
   ·exact Z j d z E
 have hb:But p (p.drop i) i:=by
  refine⟨fun j E=>?_,fun k q' u=>?_,fun _=>R,⟨ha,I⟩,fun k q' u=>?_,fun d r z hr=>by rw[J]at z;cases z⟩
  ·rw[B,if_neg E];split;·rename_i e;rw[e,U];rfl
   ·rfl
  ·rw[B]at u;split at u;·cases u
   ·split at u
    ·rename_i e;obtain rfl:=Zs u;exact .inl ⟨q,by rw[e];exact U,rfl,rfl,rfl,fun j E=>by
      dsimp only;rw[M4,if_neg E]⟩
    ·exact .inl ⟨q',u,rfl,rfl,rfl,fun _ _=>rfl⟩
  ·rw[J];refine⟨fun h=>?_,fun⟨d,z,_⟩=>by cases z⟩;rw[B]at u;split at u;·cases u
   ·split at u;·obtain rfl:=Zs u;dsimp only at h;rw[M4,if_pos rfl]at h;cases h
    ·rename_i e;obtain⟨d,z,_,h2,_⟩:=(hv.memb k q' u i).1 h;rw[hc]at z;obtain rfl:=Zs z;exact absurd h2.symm e
 refine⟨hv.but K V hb,fun j=>?_⟩;by_cases E:j=i;·rw[E,I,ha]
 ·exact(hb.aL K V E).1
theorem Qit(I:Qs dep N p){s:Yk}{c q:Qx}(h1:1≤s.id)(hc:p.at s.id=some c)(ha:p.aL s.id=false)(K:p.at c.par=some q)(k:Int):
  (p.aK s).at k=if k=s.id then some (Uk c s)else if k=c.par then some {q with mem:=if s.aJ then(q.mem.drop s.id).add s.id s.share else q.mem.drop s.id}else p.at k:=by
 obtain⟨z,d⟩:=I.pid hc (by omega) K;have B:=(Qe.aE hc).2;rw[Qbf I h1 hc ha K];have e1:∀j,(p.set {q with mem:=q.mem.drop s.id}).at j=if j=c.par then some {q with mem:=q.mem.drop s.id}else p.at j:=fun j=>by rw[V0 (p:=p) (x:={q with mem:=q.mem.drop s.id}) (y:=q) (show p.at q.id=_ by rw[d];exact K) j];show(if j=q.id then _ else _)=_;rw[d]
 have R:s.id≠c.par:=fun e=>z (by rw[d,←e]);have J:∀j,((p.set {q with mem:=q.mem.drop s.id}).set (Uk c s)).at j=if j=s.id then some (Uk c s)else if j=c.par then some {q with mem:=q.mem.drop s.id}else p.at j:=fun j=>by rw[V0 (x:=Uk c s) (y:=c) (show Qe.at _ c.id=_ by rw[B,e1,if_neg R];exact hc) j];show(if j=c.id then _ else _)=_;rw[B,e1]
 split
 ·rw[V0 (x:={q with mem:=(q.mem.drop s.id).add s.id s.share}) (y:={q with mem:=q.mem.drop s.id}) (show Qe.at _ q.id=_ by rw[J q.id,if_neg z,if_pos d]) k];show(if k=q.id then _ else _)=_;rw[J];by_cases E:k=s.id;·rw[if_neg (fun e=>z (e.symm.trans E)),if_pos E,if_pos E]
  ·rw[if_neg E,if_neg E];by_cases u:k=c.par;·rw[if_pos (u.trans d.symm),if_pos u]
   ·rw[if_neg (fun e=>u (e.trans d)),if_neg u,if_neg u]
 ·exact J k
theorem Qs.aK(d:Qs dep N p){s:Yk}{c q:Qx}(h1:1≤s.id)(hc:p.at s.id=some c)(ha:p.aL s.id=false)(U:p.at c.par=some q):Qs dep N (p.aK s):=by
 obtain⟨R,k⟩:=d.pid hc (by omega) U;obtain⟨aa,E⟩:=Qe.aE hc;have V:=(Qe.aE U).1;rw[Qbf d h1 hc ha U];have kq:=d.ok q V;have J:=d.set (Zv N) (x:={q with mem:=q.mem.drop s.id}) (y:=q) (show p.at q.id=_ by rw[k];exact U) rfl rfl (kq.withMem (Zv _) (kq.fam.drop _)) (fun e K=>d.tr q V e K);have e1:∀j,(p.set {q with mem:=q.mem.drop s.id}).at j=if j=c.par then some {q with mem:=q.mem.drop s.id}else p.at j:=fun j=>by rw[V0 (p:=p) (x:={q with mem:=q.mem.drop s.id}) (y:=q) (show p.at q.id=_ by rw[k];exact U) j];show(if j=q.id then _ else _)=_;rw[k]
 have ab:s.id≠c.par:=fun e=>R (by rw[k,←e]);generalize p.set {q with mem:=q.mem.drop s.id}=p1 at J e1⊢;have B:p1.at s.id=some c:=by rw[e1,if_neg ab];exact hc
 have Z:=d.ok c aa;have u:=J.set (Zv N) (x:=Uk c s) (y:=c) (show p1.at c.id=_ by rw[E];exact B) rfl rfl ⟨Nat.zero_le _,fun r hr=>by
  have z:Ha s.aN=some r:=hr;unfold Ha at z;split at z;·cases z
  ·obtain rfl:=Zs z;exact Nat.zero_le _,Z.mem,Z.mark,Z.tree,Z.aM⟩ (fun e K=>J.tr c (Qe.aE B).1 e K)
 have e2:∀j,(p1.set (Uk c s)).at j=if j=s.id then some (Uk c s)else p1.at j:=fun j=>by rw[V0 (x:=Uk c s) (y:=c) (show p1.at c.id=_ by rw[E];exact B) j];show(if j=c.id then _ else _)=_;rw[E]
 generalize p1.set (Uk c s)=p2 at u e2⊢;split
 ·have I:p2.at q.id=some {q with mem:=q.mem.drop s.id}:=by rw[e2 q.id,if_neg R,e1 q.id,if_pos k]
  have ac:=u.ok _ (Qe.aE I).1;exact u.set (Zv N) (x:={q with mem:=(q.mem.drop s.id).add s.id s.share}) (y:={q with mem:=q.mem.drop s.id}) I rfl rfl (kq.withMem (Zv _) ((kq.fam.drop _).add _ _)) (fun e K=>u.tr _ (Qe.aE I).1 e K)
 ·exact u
theorem Uz.aK(B:Qs dep N p)(hv:Uz p){s:Yk}{c q:Qx}(h1:1≤s.id)(hc:p.at s.id=some c)(ha:p.aL s.id=false)(V:p.at c.par=some q):
  Uz (p.aK s)∧(∀j,(p.aK s).aL j=p.aL j):=by
 have ab:=B.aK h1 hc ha V;have z:=Qit B h1 hc ha V;obtain⟨ac,af⟩:=B.pid hc (by omega) V;have ag:s.id≠c.par:=fun e=>ac (by rw[af,←e]);have E:(p.aK s).at s.id=some (Uk c s):=by rw[z,if_pos rfl]
 have U:(p.aK s).at c.par=some {q with mem:=if s.aJ then(q.mem.drop s.id).add s.id s.share else q.mem.drop s.id}:=by rw[z,if_neg (Ne.symm ag),if_pos rfl]
 have R:∀j,(if s.aJ then(q.mem.drop s.id).add s.id s.share else q.mem.drop s.id).at j=if j=s.id then(if s.aJ=true then some ⟨s.id,0,0,.new s.share,false⟩else none)else q.mem.at j:=fun j=>by
  by_cases hs:s.aJ=true
  ·rw[if_pos hs,Qq2,M4,M4];by_cases I:j=s.id;·simp[I,hs]
   ·simp[I]
  ·rw[if_neg hs,M4];simp[hs]
 have J:(p.aK s).aL s.id=false:=by
  rw[Qe.awake_eq E (q:={q with mem:=if s.aJ then(q.mem.drop s.id).add s.id s.share else q.mem.drop s.id}) U h1];unfold Jc.up;dsimp only;rw[R,if_pos rfl];by_cases hs:s.aJ=true;·rw[if_pos hs];rfl
  ·rw[if_neg hs];rfl
 have hb:But p (p.aK s) s.id:=by
  refine⟨fun j I=>?_,fun k q' u=>?_,fun h=>?_,⟨ha,J⟩,fun k q' u=>?_,fun d r K hr=>?_⟩
  ·rw[z,if_neg I];split;·rename_i e;rw[e,V];rfl
   ·rfl
  ·rw[z]at u;split at u;·rename_i e;obtain rfl:=Zs u;exact .inl ⟨c,by rw[e];exact hc,rfl,rfl,rfl,fun _ _=>rfl⟩
   ·split at u
    ·rename_i e;obtain rfl:=Zs u;exact .inl ⟨q,by rw[e];exact V,rfl,rfl,rfl,fun j I=>by
      dsimp only;rw[R,if_neg I]⟩
    ·exact .inl ⟨q',u,rfl,rfl,rfl,fun _ _=>rfl⟩
  ·rw[hc,E]at h;rcases h with h|h<;>cases h
  ·rw[E];have hR:(∃d,some (Uk c s)=some d∧0<s.id∧d.par=k∧d.aJ=true)↔c.par=k∧s.aJ=true:=⟨fun⟨d,K,_,h2,h3⟩=>by
    obtain rfl:=Zs K;exact⟨h2,h3⟩,fun h=>⟨_,rfl,h1,h.1,h.2⟩⟩
   rw[hR];by_cases Z:k=c.par
   ·rw[Z,U]at u;obtain rfl:=Zs u;dsimp only;rw[R,if_pos rfl];by_cases hs:s.aJ=true;·simp[hs,Z]
    ·simp[hs]
   ·have ae:¬(c.par=k∧s.aJ=true):=fun h=>Z h.1.symm;refine⟨fun h=>?_,fun h=>absurd h ae⟩;have:∀q0,p.at k=some q0→(q0.mem.at s.id).isSome=true→False:=fun q0 h0 hm=>by obtain⟨d,K,_,h2,_⟩:=(hv.memb k q0 h0 s.id).1 hm;rw[hc]at K;obtain rfl:=Zs K;exact Z h2.symm
    rw[z]at u;by_cases e:k=s.id;·rw[if_pos e]at u;obtain rfl:=Zs u;exact(this c (by rw[e];exact hc) h).elim
    ·rw[if_neg e,if_neg Z]at u;exact(this q' u h).elim
  ·rw[E]at K;obtain rfl:=Zs K;have aa:(p.aK s).at c.par=some r:=hr;rw[U]at aa;obtain rfl:=Zs aa;exact hv.inn s.id c q hc (by omega) V
 refine⟨hv.but B ab hb,fun j=>?_⟩;by_cases I:j=s.id;·rw[I,J,ha]
 ·exact(hb.aL B ab I).1
end
end Go.Proofs.YtnnhmpehkbihnaaGreat
